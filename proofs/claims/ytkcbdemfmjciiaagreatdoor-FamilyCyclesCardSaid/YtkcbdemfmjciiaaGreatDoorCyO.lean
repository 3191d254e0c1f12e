/-
  Canon and Same, and the law CycleApart as a function: two lists are one another turned just if their least turned lists are the same. No conditions.
-/
import Derived.Test.YtkcbdemfmjciiaaGreatDoorCyL
namespace Go.Proofs.YtkcbdemfmjciiaaGreatDoor.Ed
open Go.Sy


theorem growGet_eq (n m : Nat) (gx g : Nat → V) (i : Nat) (h : i < n + m) : growGet n m gx g i = bif Nat.blt i n then gx i else g (i - n) := by
  cases hb : Nat.blt i n with
  | true => exact growGet_lt n m gx g i (Nat.blt_eq ▸ hb)
  | false =>
    have h1 : n ≤ i := by
      rcases Nat.lt_or_ge i n with h2 | h2
      · rw [show Nat.blt i n = true from Nat.blt_eq ▸ h2] at hb; cases hb
      · exact h2
    have := growGet_ge n m gx g (i - n) (by omega)
    rw [show n + (i - n) = i by omega] at this
    exact this

/-- A list, turned: what lies where. -/
theorem turned_row {α : Type} (n k : Nat) (z : Nat → V) (h : Nat → α) (e : α → V) (hk : k < n ∨ n = 0 ∧ k = 0) : nadd (nadd 0 (nsub n k)) k = n ∧ ∀ j, j < n →
    growGet (nadd 0 (nsub n k)) k (growGet 0 (nsub n k) z (fun i => e (h (nadd k i)))) (fun i => e (h i)) j = e (h ((k + j) % n)) := by
  have h1 : nadd 0 (nsub n k) = n - k := by simp [nadd, nsub]
  have h2 : nsub n k = n - k := rfl
  refine ⟨by rw [h1]; show n - k + k = n; omega, fun j hj => ?_⟩
  rw [h1, h2, growGet_eq _ _ _ _ j (by omega)]
  cases hb : Nat.blt j (n - k) with
  | true =>
    have hb : j < n - k := Nat.blt_eq ▸ hb
    show growGet 0 (n - k) z (fun i => e (h (nadd k i))) j = _
    rw [growGet_eq _ _ _ _ j (by omega)]
    show e (h (k + (j - 0))) = _
    rw [Nat.mod_eq_of_lt (by omega), Nat.sub_zero]
  | false =>
    have hb : n - k ≤ j := by
      rcases Nat.lt_or_ge j (n - k) with h3 | h3
      · rw [show Nat.blt j (n - k) = true from Nat.blt_eq ▸ h3] at hb; cases hb
      · exact h3
    show e (h (j - (n - k))) = _
    rw [show k + j = j - (n - k) + n by omega, Nat.add_mod_right, Nat.mod_eq_of_lt (by omega)]

def fit8 (n : Nat) : Bool := decide (n * 8 ≤ 140737488355328)
theorem fit8_small {n : Nat} (h : fit8 n = true) : n ≤ 4611686018427387904 := by
  have h : n * 8 ≤ 140737488355328 := of_decide_eq_true h
  omega
theorem fit8_s {n : Nat} (h : fit8 n = true) : smallN n = true := decide_eq_true (fit8_small h)
theorem fit8_l {n : Nat} (h : fit8 n = true) : fitL n = true := by
  have h : n * 8 ≤ 140737488355328 := of_decide_eq_true h
  exact decide_eq_true (by omega)
theorem fitN_8 {n : Nat} (h : fitN n = true) : fit8 n = true := by
  have h : n * 40 ≤ 140737488355328 := of_decide_eq_true h
  exact decide_eq_true (by omega)

theorem leastG_le (n : Nat) (h : Nat → Int) : ∀ q i t s, leastG n h q i t s ≤ n - 1
  | 0, _, _, _ => Nat.zero_le _
  | q + 1, i, t, s => by
    unfold leastG
    split
    · omega
    · split
      · exact leastG_le n h q _ _ _
      · split <;> exact leastG_le n h q _ _ _

theorem leastN_le (n : Nat) (h : Nat → Int) : leastN n h ≤ n - 1 := leastG_le n h _ _ _ _
theorem leastN_ok (n : Nat) (h : Nat → Int) : leastN n h < n ∨ n = 0 ∧ leastN n h = 0 := by
  have := leastN_le n h
  omega

/-! ### A number modulo a length; a list turned -/

def restT : List V → T (V × List Blk)
  | [.val (.int .i64 a), .val (.int .i64 n)] => .br (band (ile 0 a) (ilt 0 n)) (out (iV (itmod a n))) .fail
  | _ => .fail

def lp101 (n : Nat) (f : Nat → E6) : Lp := ⟨[true, false, true, true, true, false, false, false, false, true, true, true, false, false, false, false, false, false, false, false, false, false, false, false, false, false, false, false], 2, [false, false, true, true, true, false, false, false, false, false, false, false, false, false, false, false, false, false, false, false, false, false, false, false, false, false, false, false], 4, n + 1⟩
def st101 (n : Nat) (f : Nat → E6) (i k : Nat) (x : Nat → V) (j : Nat → V) : St := ⟨[.sl 6 n fun i => eV (f i), j 1, .ref 0, iV 0, .ref 1, j 5, j 6, j 7, j 8, .sl 6 n fun i => eV (f i), iV (Int.ofNat n), iV (Int.ofNat i), j 12, j 13, j 14, j 15, j 16, j 17, j 18, j 19, j 20, j 21, j 22, j 23, j 24, j 25, j 26, j 27], [.row 3 1 0 fun _ => .und, .row 3 1 k x]⟩
def en101a (n : Nat) (f : Nat → E6) (i k : Nat) (x : Nat → V) : Ex × St := (.ex 0, ⟨[.und, .und, .ref 0, iV 0, .ref 1, .und, .und, .und, .und, .und, .und, .und, .und, .und, .und, .und, .und, .und, .und, .und, .und, .und, .und, .und, .und, .und, .und, .und], [.row 3 1 0 fun _ => .und, .row 3 1 k x]⟩)
def en101b (n : Nat) (f : Nat → E6) (i k : Nat) (x : Nat → V) : Ex × St := (.rt, ⟨[.und, .und, .ref 3, iV 30, .ref 1, .und, .und, .und, .und, .und, .und, .und, .und, .und, .und, .und, .und, .und, .und, .und, .und, .und, .und, .und, .und, .und, .und, .und], [.row 3 1 0 fun _ => .und, .row 3 1 k x, .cells [(iV ((f i)).kind), (bV ((f i)).ext), (bV ((f i)).same), (iV ((f i)).src), (iV ((f i)).dst), (iV ((f i)).fence)], .row 3 1 0 fun _ => .und]⟩)
noncomputable def body101 (L : Nat → (St → T (Ex × St)) → St → T (Ex × St)) : St → T (Ex × St) := fun st => evalC tab ⟨callT tb8, L, Gl⟩ (loopBody Tryz.f50 0) 0 st
theorem round101 (L : Nat → (St → T (Ex × St)) → St → T (Ex × St)) (n : Nat) (f : Nat → E6) (i k : Nat) (x : Nat → V) (j : Nat → V) : roundT (body101 L) (lp101 n f) (st101 n f i k x j)
 = (sel (ilt (Int.ofNat i) (Int.ofNat n)) (sel (band (ile 0 (Int.ofNat i)) (ilt (Int.ofNat i) (Int.ofNat n))) (sel (bnot (ieq (codeF (f i)) 0)) (some (.rt, ⟨[.und, .und, (.ref 3), (iV 30), (.ref 1), .und, .und, .und, .und, .und, .und, .und, .und, .und, .und, .und, .und, .und, .und, .und, .und, .und, .und, .und, .und, .und, .und, .und], [(.row 3 1 0 (fun _ => .und)), (.row 3 1 k x), (.cells [(iV ((f i)).kind), (bV ((f i)).ext), (bV ((f i)).same), (iV ((f i)).src), (iV ((f i)).dst), (iV ((f i)).fence)]), (.row 3 1 0 (fun _ => .und))]⟩)) (sel (apOK k 1 8) (some (.nm, ⟨[(.sl 6 n (fun i => (eV (f i)))), .und, (.ref 0), (iV 0), (.ref 1), .und, .und, .und, .und, (.sl 6 n (fun i => (eV (f i)))), (iV (Int.ofNat n)), (iV (wr IntKind.i64 (iadd (Int.ofNat i) 1))), .und, .und, .und, .und, .und, .und, .und, .und, .und, .und, .und, .und, .und, .und, .und, .und], [(.row 3 1 0 (fun _ => .und)), (.row 3 1 (nadd k 1) (pushGet k x (iV (codeN (f i)))))]⟩)) none)) none) (some ((.ex 0), ⟨[.und, .und, (.ref 0), (iV 0), (.ref 1), .und, .und, .und, .und, .und, .und, .und, .und, .und, .und, .und, .und, .und, .und, .und, .und, .und, .und, .und, .und, .und, .und, .und], [(.row 3 1 0 (fun _ => .und)), (.row 3 1 k x)]⟩))) := by kernel_rfl
def jk101 (n : Nat) (f : Nat → E6)  : Nat → V
  | _ => undefV

theorem wc101a (L : Nat → (St → T (Ex × St)) → St → T (Ex × St)) (p0 : (St → T (Ex × St)) → St → Bool) (n : Nat) (f : Nat → E6) (i k : Nat) (x : Nat → V)  (hp0 : p0 (body101 (onP 0 p0 (en101a n f i k x) L)) (st101 n f 0 0 (fun _ => .und) (jk101 n f )) = true) : (finF (evalF tab ⟨callT tb8, (onP 0 p0 (en101a n f i k x) L), Gl⟩ Tryz.f50 [edgesV n f] [])).sem = some ((.tup [(.ref 0), (iV 0)]), [(.row 3 1 k x)]) := by
  exact sem_of_path (ds := [true]) (cs := [(p0 (body101 (onP 0 p0 (en101a n f i k x) L)) (st101 n f 0 0 (fun _ => .und) (jk101 n f )))]) (by kernel_rfl) (by simp only [hp0] <;> rfl)

theorem wc101b (L : Nat → (St → T (Ex × St)) → St → T (Ex × St)) (p0 : (St → T (Ex × St)) → St → Bool) (n : Nat) (f : Nat → E6) (i k : Nat) (x : Nat → V)  (hp0 : p0 (body101 (onP 0 p0 (en101b n f i k x) L)) (st101 n f 0 0 (fun _ => .und) (jk101 n f )) = true) : (finF (evalF tab ⟨callT tb8, (onP 0 p0 (en101b n f i k x) L), Gl⟩ Tryz.f50 [edgesV n f] [])).sem = some ((.tup [(.ref 0), (iV 30)]), [(.row 3 1 0 (fun _ => .und))]) := by
  exact sem_of_path (ds := [true]) (cs := [(p0 (body101 (onP 0 p0 (en101b n f i k x) L)) (st101 n f 0 0 (fun _ => .und) (jk101 n f )))]) (by kernel_rfl) (by simp only [hp0] <;> rfl)
theorem run101a (L : Nat → (St → T (Ex × St)) → St → T (Ex × St)) (n : Nat) (f : Nat → E6) (hn : fitN n = true) (ho : ∀ t, t < n → codeF (f t) = 0) : ∀ (d i : Nat) (j : Nat → V) (q : Nat), n = i + d → d < q →
    (iterT (body101 L) (lp101 n f) q (st101 n f i i (pushN (cdV f) i) j)).sem = some (en101a n f 0 n (pushN (cdV f) n))
  | 0, i, j, q + 1, h1, _ => by
    have hi : i = n := by omega
    subst hi
    rw [iter_round (round101 L i f i i _ j), ofNat_ge (Nat.le_refl i)]
    rfl
  | d + 1, i, j, q + 1, h1, h2 => by
    have hi : i < n := by omega
    rw [iter_round (round101 L n f i i _ j), ofNat_in hi, ofNat_lt hi, ap_fit hi (by decide) (of_decide_eq_true hn), succ_wr hi (fit_small hn), ho i hi]
    exact run101a L n f hn ho d (i + 1) (fun _ => .und) q (by omega) (by omega)

theorem run101b (L : Nat → (St → T (Ex × St)) → St → T (Ex × St)) (n : Nat) (f : Nat → E6) (hn : fitN n = true) (e : Nat) (he : e < n) (hb : codeF (f e) = 30) (ho : ∀ t, t < e → codeF (f t) = 0) : ∀ (d i : Nat) (j : Nat → V) (q : Nat), e = i + d → d < q →
    (iterT (body101 L) (lp101 n f) q (st101 n f i i (pushN (cdV f) i) j)).sem = some (en101b n f e e (pushN (cdV f) e))
  | 0, i, j, q + 1, h1, _ => by
    have hi : i = e := by omega
    subst hi
    rw [iter_round (round101 L n f i i _ j), ofNat_in he, ofNat_lt he, hb]
    rfl
  | d + 1, i, j, q + 1, h1, h2 => by
    have hi : i < n := by omega
    rw [iter_round (round101 L n f i i _ j), ofNat_in hi, ofNat_lt hi, ap_fit hi (by decide) (of_decide_eq_true hn), succ_wr hi (fit_small hn), ho i (by omega)]
    exact run101b L n f hn e he hb ho d (i + 1) (fun _ => .und) q (by omega) (by omega)

theorem p101 : PureC Tryz.prog Gl 50 codesT := by
  refine pureC_intro tabOK mixed Tryz.func50 (by kernel_rfl) (by kernel_rfl) fun vs v h' h => ?_
  obtain ⟨n, f, ha, h⟩ := apL1_some h
  obtain ⟨hn, h⟩ := sem_br_fail h
  have hx := cx_ok tb8_ok [(0, lp101 n f)]
  cases hm : mayN n f with
  | true =>
    rw [hm] at h
    have := sem_leaf h
    simp only [Prod.mk.injEq] at this
    obtain ⟨rfl, rfl⟩ := this
    exact ⟨_, cx9 [(0, lp101 n f)], _, ha, rfl, hx.1, hx.2, told_le (onP_le (loopsBy_le _) (loopsBy_le _)) _ (wc101a _ _ n f 0 n _ (isP_true (run101a _ n f hn (mayN_iff.1 hm) n 0 (jk101 n f) (n + 1) (by omega) (by omega)))),
      RowsLE.one fun j hj => (pushN_eq (cdV f) n j hj).symm⟩
  | false =>
    rw [hm] at h
    have := sem_leaf h
    simp only [Prod.mk.injEq] at this
    obtain ⟨rfl, rfl⟩ := this
    obtain ⟨e, h1, h2, h3⟩ := may_no hm
    have hw := told_le (onP_le (loopsBy_le _) (loopsBy_le _)) _ (wc101b (loopsBy [(0, lp101 n f)]) _ n f e e _ (isP_true (run101b _ n f hn e h1 h2 h3 e 0 (jk101 n f) (n + 1) (by omega) (by omega))))
    exact ⟨_, cx9 [(0, lp101 n f)], _, ha, rfl, hx.1, hx.2, hw, RowsLE.refl _⟩


theorem wc119 (L : Nat → (St → T (Ex × St)) → St → T (Ex × St)) (a n : Int) (h0 : ieq n 0 = false) (h1 : ilt (itmod a n) 0 = false) : (finF (evalF tab ⟨callT tb0, L, Gl⟩ Tryz.f102 [iV a, iV n] [])).sem = some ((iV (itmod a n)), []) := by
  exact sem_of_path (ds := [false, false]) (cs := [(ieq n 0), (ilt (itmod a n) 0)]) (by kernel_rfl) (by simp only [h0, h1] <;> rfl)

theorem p119 : PureC Tryz.prog Gl 102 restT := by
  refine pureC_intro tabOK mixed Tryz.func102 (by kernel_rfl) (by kernel_rfl) fun vs v h' h => ?_
  unfold restT at h
  split at h
  · rename_i a n
    obtain ⟨h1, hq⟩ := sem_br_fail h
    have := sem_leaf hq
    simp only [Prod.mk.injEq] at this
    obtain ⟨rfl, rfl⟩ := this
    simp only [band, ile, ilt, Bool.and_eq_true, decide_eq_true_eq] at h1
    have hx := cx_ok tb0_ok []
    have h3 : 0 ≤ itmod a n := Int.tmod_nonneg n h1.1
    exact ⟨_, cxOf Gl tb0 [], _, ArgLE.refl _, rfl, hx.1, hx.2, wc119 _ a n (by simp [ieq]; omega) (by simp [ilt]; omega), RowsLE.refl _⟩
  · cases h

def turnF (n : Nat) (h : Nat → Int) (k i : Nat) : Int := h ((k + i) % n)
def row115 (n : Nat) (h : Nat → Int) (k : Nat) : Blk := .row 3 1 (nadd (nadd 0 (nsub n k)) k) (growGet (nadd 0 (nsub n k)) k (growGet 0 (nsub n k) (fun _ => iV 0) (fun i => iV (h (nadd k i)))) (fun i => iV (h i)))
def turnOK (n : Nat) (a : Int) : Bool := decide (n = 0) || (decide (0 ≤ a) && decide (a < n))
noncomputable def tb115 : List (Nat × (List V → T (V × List Blk))) := (102, restT) :: []
theorem tb115_ok : AllPure Tryz.prog Gl tb115 := .cons p119 .nil

theorem wc115z (L : Nat → (St → T (Ex × St)) → St → T (Ex × St)) (n : Nat) (h : Nat → Int) (a : Int) (h0 : ieq (Int.ofNat n) 0 = true) : (finF (evalF tab ⟨callT tb115, L, Gl⟩ Tryz.f94 [intsV n h, iV a] [])).sem = some ((.ref 0), [(.row 3 1 0 (fun _ => .und))]) := by
  exact sem_of_path (ds := [true]) (cs := [(ieq (Int.ofNat n) 0)]) (by kernel_rfl) (by simp only [h0] <;> rfl)

theorem wc115n (L : Nat → (St → T (Ex × St)) → St → T (Ex × St)) (n : Nat) (h : Nat → Int) (a : Int) (h0 : ieq (Int.ofNat n) 0 = false) (h1 : band (ile 0 a) (ilt 0 (Int.ofNat n)) = true) (h2 : mkOK 8 0 (Int.ofNat n) = true) (h12 : band (ile 0 (itmod a (Int.ofNat n))) (ile (itmod a (Int.ofNat n)) (Int.ofNat n)) = true) (h13 : apOK 0 (nsub n (toN (itmod a (Int.ofNat n)))) 8 = true) (h14 : apOK (nadd 0 (nsub n (toN (itmod a (Int.ofNat n))))) (toN (itmod a (Int.ofNat n))) 8 = true) : (finF (evalF tab ⟨callT tb115, L, Gl⟩ Tryz.f94 [intsV n h, iV a] [])).sem = some ((.ref 0), [row115 n h (toN (itmod a (Int.ofNat n)))]) := by
  exact sem_of_path (ds := [false, true, true, true, true, true, true]) (cs := [(ieq (Int.ofNat n) 0), (band (ile 0 a) (ilt 0 (Int.ofNat n))), (mkOK 8 0 (Int.ofNat n)), (band (ile 0 (itmod a (Int.ofNat n))) (ile (itmod a (Int.ofNat n)) (Int.ofNat n))), (apOK 0 (nsub n (toN (itmod a (Int.ofNat n)))) 8), (band (ile 0 (itmod a (Int.ofNat n))) (ile (itmod a (Int.ofNat n)) (Int.ofNat n))), (apOK (nadd 0 (nsub n (toN (itmod a (Int.ofNat n))))) (toN (itmod a (Int.ofNat n))) 8)]) (by kernel_rfl) (by simp only [h1, h12] <;> simp only [h0, h2, h13, h14] <;> rfl)

theorem ap_ok {n m b : Nat} (h : (n + m) * b ≤ 140737488355328) : apOK n m b = true := decide_eq_true h

def turnT : List V → T (V × List Blk)
  | [v, .val (.int .i64 a)] => apI v fun n h => .br (fit8 n) (.br (turnOK n a) (.leaf (.ref 0, [.row 3 1 n fun i => iV (turnF n h (toN a) i)])) .fail) .fail
  | _ => .fail

theorem p115 : PureC Tryz.prog Gl 94 turnT := by
  refine pureC_intro tabOK mixed Tryz.func94 (by kernel_rfl) (by kernel_rfl) fun vs v h' h => ?_
  unfold turnT at h
  split at h
  · rename_i u a
    obtain ⟨n, f, ha, h1⟩ := apI_some h
    obtain ⟨h8, h2⟩ := sem_br_fail h1
    obtain ⟨h3, h4⟩ := sem_br_fail h2
    have := sem_leaf h4
    simp only [Prod.mk.injEq] at this
    obtain ⟨rfl, rfl⟩ := this
    have hA : ArgLE [u, .val (.int .i64 a)] [intsV n f, iV a] := fun S w cs hv => by
      obtain ⟨c, l, rfl, q1, q2⟩ := hv
      exact ⟨c, l, rfl, ha S w c q1, q2⟩
    have hx := cx_ok tb115_ok []
    have h8' : n * 8 ≤ 140737488355328 := of_decide_eq_true h8
    cases n with
    | zero => exact ⟨_, cxOf Gl tb115 [], _, hA, rfl, hx.1, hx.2, wc115z _ 0 f a rfl, RowsLE.one fun j hj => absurd hj (Nat.not_lt_zero _)⟩
    | succ m =>
      simp only [turnOK, Bool.or_eq_true, Bool.and_eq_true, decide_eq_true_eq] at h3
      have h3 : 0 ≤ a ∧ a < (m + 1 : Nat) := by omega
      obtain ⟨k, rfl⟩ : ∃ k : Nat, a = Int.ofNat k := ⟨a.toNat, by simp only [Int.ofNat_eq_natCast]; omega⟩
      have hk : k < m + 1 := by have := h3.2; simp only [Int.ofNat_eq_natCast] at this; omega
      have e1 : itmod (Int.ofNat k) (Int.ofNat (m + 1)) = Int.ofNat k := by rw [mod_nat, Nat.mod_eq_of_lt hk]
      have e2 : toN (Int.ofNat k) = k := rfl
      have e3 : nadd 0 (nsub (m + 1) k) = m + 1 - k := by simp [nadd, nsub]
      have hw := wc115n (loopsBy []) (m + 1) f (Int.ofNat k) (by rw [show (0 : Int) = Int.ofNat 0 from rfl, ieq_nat]; simp) (by
        simp only [band, ile, ilt, Bool.and_eq_true, decide_eq_true_eq, Int.ofNat_eq_natCast]; omega) (by
        simp only [mkOK, Bool.and_eq_true, decide_eq_true_eq, Int.ofNat_eq_natCast]; omega) (by
        rw [e1, ile_nat, show (0 : Int) = Int.ofNat 0 from rfl, ile_nat]; simp [band]; omega) (by
        rw [e1, e2]; exact ap_ok (by show (0 + (m + 1 - k)) * 8 ≤ _; omega)) (by
        rw [e1, e2, e3]; exact ap_ok (by omega))
      rw [e1, e2] at hw
      obtain ⟨r1, r2⟩ := turned_row (m + 1) k (fun _ => iV 0) f iV (.inl hk)
      unfold row115 at hw
      rw [r1] at hw
      exact ⟨_, cxOf Gl tb115 [], _, hA, rfl, hx.1, hx.2, hw, RowsLE.one fun j hj => (r2 j hj).symm⟩
  · cases h

/-! ### Lists of numbers held against one another -/

def lp114 (n : Nat) (f : Nat → Int) (m : Nat) (g : Nat → Int) : Lp := ⟨[true, true, false, false, true, false, false, false, false, false, true, true, false, false, false, false, false, false, false, false, false, false, false, false, false, false, false, false, false, false, false, false, false, false, false, false, false, false, false, false, false, false, false, false, false, false, false], 0, [true, true, false, false, true, false, false, false, false, false, false, false, false, false, false, false, false, false, false, false, false, false, false, false, false, false, false, false, false, false, false, false, false, false, false, false, false, false, false, false, false, false, false, false, false, false, false], 0, n + 1⟩
def st114 (n : Nat) (f : Nat → Int) (m : Nat) (g : Nat → Int) (c : Int) (i : Nat) (j : Nat → V) : St := ⟨[.sl 1 n (fun k => iV (f k)), .sl 1 m (fun k => iV (g k)), j 2, j 3, iV 0, j 5, j 6, j 7, j 8, j 9, iV c, iV (Int.ofNat i), j 12, j 13, j 14, j 15, j 16, j 17, j 18, j 19, j 20, j 21, j 22, j 23, j 24, j 25, j 26, j 27, j 28, j 29, j 30, j 31, j 32, j 33, j 34, j 35, j 36, j 37, j 38, j 39, j 40, j 41, j 42, j 43, j 44, j 45, j 46], []⟩
def en114l (n : Nat) (f : Nat → Int) (m : Nat) (g : Nat → Int) (c : Int) (i : Nat) : Ex × St := (.rt, ⟨[.sl 1 n (fun k => iV (f k)), .sl 1 m (fun k => iV (g k)), .und, .und, iV (-1), .und, .und, .und, .und, .und, .und, .und, .und, .und, .und, .und, .und, .und, .und, .und, .und, .und, .und, .und, .und, .und, .und, .und, .und, .und, .und, .und, .und, .und, .und, .und, .und, .und, .und, .und, .und, .und, .und, .und, .und, .und, .und], []⟩)
def en114g (n : Nat) (f : Nat → Int) (m : Nat) (g : Nat → Int) (c : Int) (i : Nat) : Ex × St := (.rt, ⟨[.sl 1 n (fun k => iV (f k)), .sl 1 m (fun k => iV (g k)), .und, .und, iV 1, .und, .und, .und, .und, .und, .und, .und, .und, .und, .und, .und, .und, .und, .und, .und, .und, .und, .und, .und, .und, .und, .und, .und, .und, .und, .und, .und, .und, .und, .und, .und, .und, .und, .und, .und, .und, .und, .und, .und, .und, .und, .und], []⟩)
def en114e (n : Nat) (f : Nat → Int) (m : Nat) (g : Nat → Int) (c : Int) (i : Nat) : Ex × St := (.ex 0, ⟨[.sl 1 n (fun k => iV (f k)), .sl 1 m (fun k => iV (g k)), .und, .und, iV 0, .und, .und, .und, .und, .und, .und, .und, .und, .und, .und, .und, .und, .und, .und, .und, .und, .und, .und, .und, .und, .und, .und, .und, .und, .und, .und, .und, .und, .und, .und, .und, .und, .und, .und, .und, .und, .und, .und, .und, .und, .und, .und], []⟩)
noncomputable def body114 (L : Nat → (St → T (Ex × St)) → St → T (Ex × St)) : St → T (Ex × St) := fun st => evalC tab ⟨callT tb0, L, Gl⟩ (loopBody Tryz.f93 0) 0 st
theorem rc114e (L : Nat → (St → T (Ex × St)) → St → T (Ex × St)) (n : Nat) (f : Nat → Int) (m : Nat) (g : Nat → Int) (c : Int) (i : Nat)  (j : Nat → V) (h0 : ilt (Int.ofNat i) c = false) : ((body114 L (st114 n f m g c i j)).bind fun r => T.leaf (cutR (lp114 n f m g) r)).sem = some ((.ex 0), ⟨[(.sl 1 n (fun k => (iV (f k)))), (.sl 1 m (fun k => (iV (g k)))), .und, .und, (iV 0), .und, .und, .und, .und, .und, .und, .und, .und, .und, .und, .und, .und, .und, .und, .und, .und, .und, .und, .und, .und, .und, .und, .und, .und, .und, .und, .und, .und, .und, .und, .und, .und, .und, .und, .und, .und, .und, .und, .und, .und, .und, .und], []⟩) := by
  exact sem_of_path (ds := [false]) (cs := [(ilt (Int.ofNat i) c)]) (by kernel_rfl) (by simp only [h0] <;> rfl)
theorem rc114l (L : Nat → (St → T (Ex × St)) → St → T (Ex × St)) (n : Nat) (f : Nat → Int) (m : Nat) (g : Nat → Int) (c : Int) (i : Nat)  (j : Nat → V) (h0 : ilt (Int.ofNat i) c = true) (h1 : band (ile 0 (Int.ofNat i)) (ilt (Int.ofNat i) (Int.ofNat n)) = true) (h2 : band (ile 0 (Int.ofNat i)) (ilt (Int.ofNat i) (Int.ofNat m)) = true) (h3 : ilt (f i) (g i) = true) : ((body114 L (st114 n f m g c i j)).bind fun r => T.leaf (cutR (lp114 n f m g) r)).sem = some (.rt, ⟨[(.sl 1 n (fun k => (iV (f k)))), (.sl 1 m (fun k => (iV (g k)))), .und, .und, (iV (-1)), .und, .und, .und, .und, .und, .und, .und, .und, .und, .und, .und, .und, .und, .und, .und, .und, .und, .und, .und, .und, .und, .und, .und, .und, .und, .und, .und, .und, .und, .und, .und, .und, .und, .und, .und, .und, .und, .und, .und, .und, .und, .und], []⟩) := by
  exact sem_of_path (ds := [true, true, true, true]) (cs := [(ilt (Int.ofNat i) c), (band (ile 0 (Int.ofNat i)) (ilt (Int.ofNat i) (Int.ofNat n))), (band (ile 0 (Int.ofNat i)) (ilt (Int.ofNat i) (Int.ofNat m))), (ilt (f i) (g i))]) (by kernel_rfl) (by simp only [h1, h2] <;> simp only [h0, h3] <;> rfl)
theorem rc114g (L : Nat → (St → T (Ex × St)) → St → T (Ex × St)) (n : Nat) (f : Nat → Int) (m : Nat) (g : Nat → Int) (c : Int) (i : Nat)  (j : Nat → V) (h0 : ilt (Int.ofNat i) c = true) (h1 : band (ile 0 (Int.ofNat i)) (ilt (Int.ofNat i) (Int.ofNat n)) = true) (h2 : band (ile 0 (Int.ofNat i)) (ilt (Int.ofNat i) (Int.ofNat m)) = true) (h3 : ilt (f i) (g i) = false) (h4 : ilt (g i) (f i) = true) : ((body114 L (st114 n f m g c i j)).bind fun r => T.leaf (cutR (lp114 n f m g) r)).sem = some (.rt, ⟨[(.sl 1 n (fun k => (iV (f k)))), (.sl 1 m (fun k => (iV (g k)))), .und, .und, (iV 1), .und, .und, .und, .und, .und, .und, .und, .und, .und, .und, .und, .und, .und, .und, .und, .und, .und, .und, .und, .und, .und, .und, .und, .und, .und, .und, .und, .und, .und, .und, .und, .und, .und, .und, .und, .und, .und, .und, .und, .und, .und, .und], []⟩) := by
  exact sem_of_path (ds := [true, true, true, false, true, true, true]) (cs := [(ilt (Int.ofNat i) c), (band (ile 0 (Int.ofNat i)) (ilt (Int.ofNat i) (Int.ofNat n))), (band (ile 0 (Int.ofNat i)) (ilt (Int.ofNat i) (Int.ofNat m))), (ilt (f i) (g i)), (band (ile 0 (Int.ofNat i)) (ilt (Int.ofNat i) (Int.ofNat n))), (band (ile 0 (Int.ofNat i)) (ilt (Int.ofNat i) (Int.ofNat m))), (ilt (g i) (f i))]) (by kernel_rfl) (by simp only [h1, h2] <;> simp only [h0, h3, h4] <;> rfl)
theorem rc114n (L : Nat → (St → T (Ex × St)) → St → T (Ex × St)) (n : Nat) (f : Nat → Int) (m : Nat) (g : Nat → Int) (c : Int) (i : Nat)  (j : Nat → V) (h0 : ilt (Int.ofNat i) c = true) (h1 : band (ile 0 (Int.ofNat i)) (ilt (Int.ofNat i) (Int.ofNat n)) = true) (h2 : band (ile 0 (Int.ofNat i)) (ilt (Int.ofNat i) (Int.ofNat m)) = true) (h3 : ilt (f i) (g i) = false) (h4 : ilt (g i) (f i) = false) : ((body114 L (st114 n f m g c i j)).bind fun r => T.leaf (cutR (lp114 n f m g) r)).sem = some (.nm, ⟨[(.sl 1 n (fun k => (iV (f k)))), (.sl 1 m (fun k => (iV (g k)))), .und, .und, (iV 0), .und, .und, .und, .und, .und, (iV c), (iV (wr IntKind.i64 (iadd (Int.ofNat i) 1))), .und, .und, .und, .und, .und, .und, .und, .und, .und, .und, .und, .und, .und, .und, .und, .und, .und, .und, .und, .und, .und, .und, .und, .und, .und, .und, .und, .und, .und, .und, .und, .und, .und, .und, .und], []⟩) := by
  exact sem_of_path (ds := [true, true, true, false, true, true, false]) (cs := [(ilt (Int.ofNat i) c), (band (ile 0 (Int.ofNat i)) (ilt (Int.ofNat i) (Int.ofNat n))), (band (ile 0 (Int.ofNat i)) (ilt (Int.ofNat i) (Int.ofNat m))), (ilt (f i) (g i)), (band (ile 0 (Int.ofNat i)) (ilt (Int.ofNat i) (Int.ofNat n))), (band (ile 0 (Int.ofNat i)) (ilt (Int.ofNat i) (Int.ofNat m))), (ilt (g i) (f i))]) (by kernel_rfl) (by simp only [h1, h2] <;> simp only [h0, h3, h4] <;> rfl)
def jk114 (n : Nat) (f : Nat → Int) (m : Nat) (g : Nat → Int)  : Nat → V
  | 6 => (.sl 1 n (fun i => (iV (f i))))
  | 7 => (iV (Int.ofNat n))
  | 8 => (.sl 1 m (fun i => (iV (g i))))
  | 9 => (iV (Int.ofNat m))
  | _ => undefV

theorem wc114l (L : Nat → (St → T (Ex × St)) → St → T (Ex × St)) (p0 : (St → T (Ex × St)) → St → Bool) (n : Nat) (f : Nat → Int) (m : Nat) (g : Nat → Int) (c : Int) (i : Nat)  (hp0 : p0 (body114 (onP 0 p0 (en114l n f m g c i) L)) (st114 n f m g (sel (ilt (Int.ofNat m) (Int.ofNat n)) (Int.ofNat m) (Int.ofNat n)) 0 (jk114 n f m g )) = true) : (finF (evalF tab ⟨callT tb0, (onP 0 p0 (en114l n f m g c i) L), Gl⟩ Tryz.f93 [intsV n f, intsV m g] [])).sem = some ((iV (-1)), []) := by
  exact sem_of_path (ds := [true]) (cs := [(p0 (body114 (onP 0 p0 (en114l n f m g c i) L)) (st114 n f m g (sel (ilt (Int.ofNat m) (Int.ofNat n)) (Int.ofNat m) (Int.ofNat n)) 0 (jk114 n f m g )))]) (by kernel_rfl) (by simp only [hp0] <;> rfl)

theorem wc114g (L : Nat → (St → T (Ex × St)) → St → T (Ex × St)) (p0 : (St → T (Ex × St)) → St → Bool) (n : Nat) (f : Nat → Int) (m : Nat) (g : Nat → Int) (c : Int) (i : Nat)  (hp0 : p0 (body114 (onP 0 p0 (en114g n f m g c i) L)) (st114 n f m g (sel (ilt (Int.ofNat m) (Int.ofNat n)) (Int.ofNat m) (Int.ofNat n)) 0 (jk114 n f m g )) = true) : (finF (evalF tab ⟨callT tb0, (onP 0 p0 (en114g n f m g c i) L), Gl⟩ Tryz.f93 [intsV n f, intsV m g] [])).sem = some ((iV 1), []) := by
  exact sem_of_path (ds := [true]) (cs := [(p0 (body114 (onP 0 p0 (en114g n f m g c i) L)) (st114 n f m g (sel (ilt (Int.ofNat m) (Int.ofNat n)) (Int.ofNat m) (Int.ofNat n)) 0 (jk114 n f m g )))]) (by kernel_rfl) (by simp only [hp0] <;> rfl)

theorem wc114a (L : Nat → (St → T (Ex × St)) → St → T (Ex × St)) (p0 : (St → T (Ex × St)) → St → Bool) (n : Nat) (f : Nat → Int) (m : Nat) (g : Nat → Int) (c : Int) (i : Nat) (h0 : ilt (Int.ofNat n) (Int.ofNat m) = true) (hp0 : p0 (body114 (onP 0 p0 (en114e n f m g c i) L)) (st114 n f m g (sel (ilt (Int.ofNat m) (Int.ofNat n)) (Int.ofNat m) (Int.ofNat n)) 0 (jk114 n f m g )) = true) : (finF (evalF tab ⟨callT tb0, (onP 0 p0 (en114e n f m g c i) L), Gl⟩ Tryz.f93 [intsV n f, intsV m g] [])).sem = some ((iV (-1)), []) := by
  exact sem_of_path (ds := [true, true]) (cs := [(p0 (body114 (onP 0 p0 (en114e n f m g c i) L)) (st114 n f m g (sel (ilt (Int.ofNat m) (Int.ofNat n)) (Int.ofNat m) (Int.ofNat n)) 0 (jk114 n f m g ))), (ilt (Int.ofNat n) (Int.ofNat m))]) (by kernel_rfl) (by simp only [hp0] <;> simp only [h0] <;> rfl)

theorem wc114b (L : Nat → (St → T (Ex × St)) → St → T (Ex × St)) (p0 : (St → T (Ex × St)) → St → Bool) (n : Nat) (f : Nat → Int) (m : Nat) (g : Nat → Int) (c : Int) (i : Nat) (h0 : ilt (Int.ofNat n) (Int.ofNat m) = false) (h1 : ilt (Int.ofNat m) (Int.ofNat n) = true) (hp0 : p0 (body114 (onP 0 p0 (en114e n f m g c i) L)) (st114 n f m g (sel (ilt (Int.ofNat m) (Int.ofNat n)) (Int.ofNat m) (Int.ofNat n)) 0 (jk114 n f m g )) = true) : (finF (evalF tab ⟨callT tb0, (onP 0 p0 (en114e n f m g c i) L), Gl⟩ Tryz.f93 [intsV n f, intsV m g] [])).sem = some ((iV 1), []) := by
  exact sem_of_path (ds := [true, false, true]) (cs := [(p0 (body114 (onP 0 p0 (en114e n f m g c i) L)) (st114 n f m g (sel (ilt (Int.ofNat m) (Int.ofNat n)) (Int.ofNat m) (Int.ofNat n)) 0 (jk114 n f m g ))), (ilt (Int.ofNat n) (Int.ofNat m)), (ilt (Int.ofNat m) (Int.ofNat n))]) (by kernel_rfl) (by simp only [hp0] <;> simp only [h0, h1] <;> rfl)

theorem wc114c (L : Nat → (St → T (Ex × St)) → St → T (Ex × St)) (p0 : (St → T (Ex × St)) → St → Bool) (n : Nat) (f : Nat → Int) (m : Nat) (g : Nat → Int) (c : Int) (i : Nat) (h0 : ilt (Int.ofNat n) (Int.ofNat m) = false) (h1 : ilt (Int.ofNat m) (Int.ofNat n) = false) (hp0 : p0 (body114 (onP 0 p0 (en114e n f m g c i) L)) (st114 n f m g (sel (ilt (Int.ofNat m) (Int.ofNat n)) (Int.ofNat m) (Int.ofNat n)) 0 (jk114 n f m g )) = true) : (finF (evalF tab ⟨callT tb0, (onP 0 p0 (en114e n f m g c i) L), Gl⟩ Tryz.f93 [intsV n f, intsV m g] [])).sem = some ((iV 0), []) := by
  exact sem_of_path (ds := [true, false, false]) (cs := [(p0 (body114 (onP 0 p0 (en114e n f m g c i) L)) (st114 n f m g (sel (ilt (Int.ofNat m) (Int.ofNat n)) (Int.ofNat m) (Int.ofNat n)) 0 (jk114 n f m g ))), (ilt (Int.ofNat n) (Int.ofNat m)), (ilt (Int.ofNat m) (Int.ofNat n))]) (by kernel_rfl) (by simp only [hp0] <;> simp only [h0, h1] <;> rfl)

def cmpK (f g : Nat → Int) : Nat → Nat → Ordering
  | 0, _ => .eq
  | d + 1, i => if f i < g i then .lt else if g i < f i then .gt else cmpK f g d (i + 1)

theorem cmpK_eq (f g : Nat → Int) : ∀ d i, cmpK f g d i = .eq ↔ ∀ j, i ≤ j → j < i + d → f j = g j
  | 0, i => by simp [cmpK]; intro j h1 h2; omega
  | d + 1, i => by
    unfold cmpK
    split
    · rename_i h
      refine ⟨fun h => (by cases h), fun h1 => ?_⟩
      have := h1 i (Nat.le_refl _) (by omega)
      omega
    · split
      · rename_i h
        refine ⟨fun h => (by cases h), fun h1 => ?_⟩
        have := h1 i (Nat.le_refl _) (by omega)
        omega
      · rw [cmpK_eq f g d (i + 1)]
        refine ⟨fun h1 j h2 h3 => ?_, fun h1 j h2 h3 => h1 j (by omega) (by omega)⟩
        by_cases hj : j = i
        · subst hj; omega
        · exact h1 j (by omega) (by omega)

def cmpI (n : Nat) (f : Nat → Int) (m : Nat) (g : Nat → Int) : Int :=
  match cmpK f g (min n m) 0 with
  | .lt => -1
  | .gt => 1
  | .eq => if n < m then -1 else if m < n then 1 else 0

theorem cmpI_zero (n : Nat) (f : Nat → Int) (m : Nat) (g : Nat → Int) : cmpI n f m g = 0 ↔ n = m ∧ ∀ i, i < n → f i = g i := by
  unfold cmpI
  have hk := cmpK_eq f g (min n m) 0
  cases hc : cmpK f g (min n m) 0 with
  | lt =>
    refine ⟨fun h => by simp at h, fun h => ?_⟩
    have := hk.2 fun j _ h2 => h.2 j (by omega)
    rw [hc] at this; cases this
  | gt =>
    refine ⟨fun h => by simp at h, fun h => ?_⟩
    have := hk.2 fun j _ h2 => h.2 j (by omega)
    rw [hc] at this; cases this
  | eq =>
    have h1 := hk.1 hc
    by_cases h2 : n < m
    · simp only [if_pos h2]
      exact ⟨fun h => by simp at h, fun h => by omega⟩
    · by_cases h3 : m < n
      · simp only [if_neg h2, if_pos h3]
        exact ⟨fun h => by simp at h, fun h => by omega⟩
      · simp only [if_neg h2, if_neg h3]
        exact ⟨fun _ => ⟨by omega, fun i hi => h1 i (Nat.zero_le _) (by omega)⟩, fun _ => trivial⟩

theorem run114 (L : Nat → (St → T (Ex × St)) → St → T (Ex × St)) (n : Nat) (f : Nat → Int) (m : Nat) (g : Nat → Int) (hn : n ≤ 4611686018427387904) (hm : m ≤ 4611686018427387904) : ∀ (d i : Nat) (j : Nat → V) (q : Nat), min n m = i + d → d < q →
    (iterT (body114 L) (lp114 n f m g) q (st114 n f m g (Int.ofNat (min n m)) i j)).sem = some (match cmpK f g d i with | .lt => en114l n f m g 0 0 | .gt => en114g n f m g 0 0 | .eq => en114e n f m g 0 0)
  | 0, i, j, q + 1, h, _ => by
    have hi : min n m = i := by omega
    exact iter_round (rc114e L n f m g _ i j (by rw [hi]; exact ofNat_ge (Nat.le_refl _)))
  | d + 1, i, j, q + 1, h, h2 => by
    have h3 : i < n := by omega
    have h4 : i < m := by omega
    have hl : ilt (Int.ofNat i) (Int.ofNat (min n m)) = true := ofNat_lt (by omega)
    unfold cmpK
    by_cases c1 : f i < g i
    · rw [if_pos c1]
      exact iter_round (rc114l L n f m g _ i j hl (ofNat_in h3) (ofNat_in h4) (by simp [ilt, c1]))
    · have c1' : ilt (f i) (g i) = false := by simp only [ilt, decide_eq_false c1]
      rw [if_neg c1]
      by_cases c2 : g i < f i
      · rw [if_pos c2]
        exact iter_round (rc114g L n f m g _ i j hl (ofNat_in h3) (ofNat_in h4) c1' (by simp [ilt, c2]))
      · have c2' : ilt (g i) (f i) = false := by simp only [ilt, decide_eq_false c2]
        rw [if_neg c2, iter_round (rc114n L n f m g _ i j hl (ofNat_in h3) (ofNat_in h4) c1' c2'), goOn_nm, succ_wr h3 hn]
        exact run114 L n f m g hn hm d (i + 1) (fun _ => .und) q (by omega) (by omega)

theorem sel_min (n m : Nat) : sel (ilt (Int.ofNat m) (Int.ofNat n)) (Int.ofNat m) (Int.ofNat n) = Int.ofNat (min n m) := by
  simp only [sel, ilt, Bool.cond_decide, Int.ofNat_eq_natCast]
  omega

def cmpIT : List V → T (V × List Blk) := apI2 fun n f m g => .br (smallN n) (.br (smallN m) (out (iV (cmpI n f m g))) .fail) .fail

theorem p114 : PureC Tryz.prog Gl 93 cmpIT := by
  refine pureC_intro tabOK mixed Tryz.func93 (by kernel_rfl) (by kernel_rfl) fun vs v h' h => ?_
  obtain ⟨n, f, m, g, ha, h1⟩ := apI2_some h
  obtain ⟨hn, h2⟩ := sem_br_fail h1
  obtain ⟨hm, h3⟩ := sem_br_fail h2
  have := sem_leaf h3
  simp only [Prod.mk.injEq] at this
  obtain ⟨rfl, rfl⟩ := this
  have hn : n ≤ 4611686018427387904 := of_decide_eq_true hn
  have hm : m ≤ 4611686018427387904 := of_decide_eq_true hm
  have hx := cx_ok tb0_ok [(0, lp114 n f m g)]
  have hL := loopsBy_le [(0, lp114 n f m g)]
  have hr := fun L j => run114 L n f m g hn hm (min n m) 0 j (n + 1) (by omega) (by omega)
  rw [← sel_min n m] at hr
  refine ⟨_, cxOf Gl tb0 [(0, lp114 n f m g)], _, ha, rfl, hx.1, hx.2, ?_, RowsLE.refl _⟩
  unfold cmpI
  have hs : min n m = min n m := rfl
  rw [sel_min n m] at hr
  cases hc : cmpK f g (min n m) 0 with
  | lt =>
    rw [hc, ← sel_min n m] at hr
    exact told_le (onP_le hL hL) _ (wc114l _ _ n f m g 0 0 (isP_true (hr _ _)))
  | gt =>
    rw [hc, ← sel_min n m] at hr
    exact told_le (onP_le hL hL) _ (wc114g _ _ n f m g 0 0 (isP_true (hr _ _)))
  | eq =>
    rw [hc, ← sel_min n m] at hr
    by_cases c1 : n < m
    · simp only [if_pos c1]
      exact told_le (onP_le hL hL) _ (wc114a _ _ n f m g 0 0 (by rw [ilt_nat, decide_eq_true c1]) (isP_true (hr _ _)))
    · by_cases c2 : m < n
      · simp only [if_neg c1, if_pos c2]
        exact told_le (onP_le hL hL) _ (wc114b _ _ n f m g 0 0 (by rw [ilt_nat, decide_eq_false c1]) (by rw [ilt_nat, decide_eq_true c2]) (isP_true (hr _ _)))
      · simp only [if_neg c1, if_neg c2]
        exact told_le (onP_le hL hL) _ (wc114c _ _ n f m g 0 0 (by rw [ilt_nat, decide_eq_false c1]) (by rw [ilt_nat, decide_eq_false c2]) (isP_true (hr _ _)))

/-! ### Is one list the other one turned? -/

noncomputable def tb105 : List (Nat × (List V → T (V × List Blk))) := (51, leastT) :: (94, turnT) :: (93, cmpIT) :: []
theorem tb105_ok : AllPure Tryz.prog Gl tb105 := .cons p102 <| .cons p115 <| .cons p114 .nil

theorem wc105n (L : Nat → (St → T (Ex × St)) → St → T (Ex × St)) (n : Nat) (f : Nat → Int) (m : Nat) (g : Nat → Int) (h0 : ieq (Int.ofNat n) (Int.ofNat m) = false) : (finF (evalF tab ⟨callT tb105, L, Gl⟩ Tryz.f80 [intsV n f, intsV m g] [])).sem = some ((bV Bool.false), []) := by
  exact sem_of_path (ds := [false, false, false, false, false, false, false, false, false, false, false]) (cs := [(ieq (Int.ofNat n) (Int.ofNat m)), (ieq (Int.ofNat n) (Int.ofNat m)), (ieq (Int.ofNat n) (Int.ofNat m)), (ieq (Int.ofNat n) (Int.ofNat m)), (ieq (Int.ofNat n) (Int.ofNat m)), (ieq (Int.ofNat n) (Int.ofNat m)), (ieq (Int.ofNat n) (Int.ofNat m)), (ieq (Int.ofNat n) (Int.ofNat m)), (ieq (Int.ofNat n) (Int.ofNat m)), (ieq (Int.ofNat n) (Int.ofNat m)), (ieq (Int.ofNat n) (Int.ofNat m))]) (by kernel_rfl) (by simp only [h0] <;> rfl)

theorem wc105e (L : Nat → (St → T (Ex × St)) → St → T (Ex × St)) (n : Nat) (f : Nat → Int) (m : Nat) (g : Nat → Int) (h0 : ieq (Int.ofNat n) (Int.ofNat m) = true) (h1 : fitL n = true) (h2 : fit8 n = true) (h3 : turnOK n (Int.ofNat (leastN n f)) = true) (h4 : fitL m = true) (h5 : fit8 m = true) (h6 : turnOK m (Int.ofNat (leastN m g)) = true) (h7 : smallN n = true) (h8 : smallN m = true) : (finF (evalF tab ⟨callT tb105, L, Gl⟩ Tryz.f80 [intsV n f, intsV m g] [])).sem = some ((bV (ieq (cmpI n (turnF n f (leastN n f)) m (turnF m g (leastN m g))) 0)), []) := by
  exact sem_of_path (ds := [true, true, true, true, true, true, true, true, true, true, true, true, true, true, true, true, true, true, true, true, true, true, true, true, true]) (cs := [(ieq (Int.ofNat n) (Int.ofNat m)), (ieq (Int.ofNat n) (Int.ofNat m)), (ieq (Int.ofNat n) (Int.ofNat m)), (allN n (fun _ => Bool.true)), (fitL n), (ieq (Int.ofNat n) (Int.ofNat m)), (allN n (fun _ => Bool.true)), (fit8 n), (turnOK n (Int.ofNat (leastN n f))), (ieq (Int.ofNat n) (Int.ofNat m)), (ieq (Int.ofNat n) (Int.ofNat m)), (ieq (Int.ofNat n) (Int.ofNat m)), (allN m (fun _ => Bool.true)), (fitL m), (ieq (Int.ofNat n) (Int.ofNat m)), (allN m (fun _ => Bool.true)), (fit8 m), (turnOK m (Int.ofNat (leastN m g))), (ieq (Int.ofNat n) (Int.ofNat m)), (allN n (fun _ => Bool.true)), (allN m (fun _ => Bool.true)), (smallN n), (smallN m), (ieq (Int.ofNat n) (Int.ofNat m)), (ieq (Int.ofNat n) (Int.ofNat m))]) (by kernel_rfl) (by simp only [h0, h1, h2, h3, h4, h5, h6, h7, h8, allN_true] <;> rfl)

def sameTB (n : Nat) (f : Nat → Int) (m : Nat) (g : Nat → Int) : Bool := sel (ieq (Int.ofNat n) (Int.ofNat m)) (ieq (cmpI n (turnF n f (leastN n f)) m (turnF m g (leastN m g))) 0) false

theorem sameTB_iff (n : Nat) (f : Nat → Int) (m : Nat) (g : Nat → Int) : sameTB n f m g = true ↔ n = m ∧ ∀ i, i < n → turnF n f (leastN n f) i = turnF m g (leastN m g) i := by
  unfold sameTB
  rw [ieq_nat]
  by_cases h : n = m
  · rw [decide_eq_true h]
    show ieq _ 0 = true ↔ _
    simp only [ieq, beq_iff_eq]
    exact cmpI_zero _ _ _ _
  · rw [decide_eq_false h]
    exact ⟨fun h => (by cases h), fun h1 => absurd h1.1 h⟩

theorem turnOK_least (n : Nat) (f : Nat → Int) : turnOK n (Int.ofNat (leastN n f)) = true := by
  have := leastN_ok n f
  simp only [turnOK, Bool.or_eq_true, Bool.and_eq_true, decide_eq_true_eq, Int.ofNat_eq_natCast]
  omega

def sameTT : List V → T (V × List Blk) := apI2 fun n f m g => .br (fit8 n) (.br (fit8 m) (out (bV (sameTB n f m g))) .fail) .fail

theorem p105 : PureC Tryz.prog Gl 80 sameTT := by
  refine pureC_intro tabOK mixed Tryz.func80 (by kernel_rfl) (by kernel_rfl) fun vs v h' h => ?_
  obtain ⟨n, f, m, g, ha, h1⟩ := apI2_some h
  obtain ⟨hn, h2⟩ := sem_br_fail h1
  obtain ⟨hm, h3⟩ := sem_br_fail h2
  have := sem_leaf h3
  simp only [Prod.mk.injEq] at this
  obtain ⟨rfl, rfl⟩ := this
  have hx := cx_ok tb105_ok []
  refine ⟨_, cxOf Gl tb105 [], _, ha, rfl, hx.1, hx.2, ?_, RowsLE.refl _⟩
  unfold sameTB
  cases hc : ieq (Int.ofNat n) (Int.ofNat m) with
  | false => exact wc105n _ n f m g hc
  | true => exact wc105e _ n f m g hc (fit8_l hn) hn (turnOK_least n f) (fit8_l hm) hm (turnOK_least m g) (fit8_s hn) (fit8_s hm)

/-! ### Canon, Same -/

noncomputable def tb65 : List (Nat × (List V → T (V × List Blk))) := (50, codesT) :: (51, leastT) :: []
theorem tb65_ok : AllPure Tryz.prog Gl tb65 := .cons p101 <| .cons p102 .nil
def row65 (n : Nat) (f : Nat → E6) (k : Nat) : Blk := .row 38 6 (nadd (nadd 0 (nsub n k)) k) (growGet (nadd 0 (nsub n k)) k (growGet 0 (nsub n k) (fun _ => eV zeroE) (fun i => eV (f (nadd k i)))) (fun i => eV (f i)))

theorem wc65n (L : Nat → (St → T (Ex × St)) → St → T (Ex × St)) (n : Nat) (f : Nat → E6) (h0 : fitN n = true) (h1 : mayN n f = false) : (finF (evalF tab ⟨callT tb65, L, Gl⟩ Tryz.f22 [edgesV n f] [])).sem = some ((.tup [(.ref 0), (iV 30)]), [(.row 38 6 0 (fun _ => .und))]) := by
  exact sem_of_path (ds := [true, true, false, true]) (cs := [(allN n (fun _ => Bool.true)), (fitN n), (mayN n f), (bnot (ieq 30 0))]) (by kernel_rfl) (by simp only [h0, h1, allN_true] <;> rfl)

theorem wc65y (L : Nat → (St → T (Ex × St)) → St → T (Ex × St)) (n : Nat) (f : Nat → E6) (h0 : fitN n = true) (h1 : mayN n f = true) (h2 : fitL n = true) (h3 : mkOK 40 0 (Int.ofNat n) = true) (h13 : band (ile 0 (Int.ofNat (leastN n (fun i => (codeN (f i)))))) (ile (Int.ofNat (leastN n (fun i => (codeN (f i))))) (Int.ofNat n)) = true) (h14 : apOK 0 (nsub n (leastN n (fun i => (codeN (f i))))) 40 = true) (h15 : apOK (nadd 0 (nsub n (leastN n (fun i => (codeN (f i)))))) (leastN n (fun i => (codeN (f i)))) 40 = true) : (finF (evalF tab ⟨callT tb65, L, Gl⟩ Tryz.f22 [edgesV n f] [])).sem = some ((.tup [(.ref 0), (iV 0)]), [row65 n f (leastN n (fun i => (codeN (f i))))]) := by
  exact sem_of_path (ds := [true, true, true, false, true, true, true, true, true, true, true]) (cs := [(allN n (fun _ => Bool.true)), (fitN n), (mayN n f), (bnot (ieq 0 0)), (allN n (fun _ => Bool.true)), (fitL n), (mkOK 40 0 (Int.ofNat n)), (band (ile 0 (Int.ofNat (leastN n (fun i => (codeN (f i)))))) (ile (Int.ofNat (leastN n (fun i => (codeN (f i))))) (Int.ofNat n))), (apOK 0 (nsub n (leastN n (fun i => (codeN (f i))))) 40), (band (ile 0 (Int.ofNat (leastN n (fun i => (codeN (f i)))))) (ile (Int.ofNat (leastN n (fun i => (codeN (f i))))) (Int.ofNat n))), (apOK (nadd 0 (nsub n (leastN n (fun i => (codeN (f i)))))) (leastN n (fun i => (codeN (f i)))) 40)]) (by kernel_rfl) (by simp only [h13] <;> simp only [h0, h1, h2, h3, h14, h15, allN_true] <;> rfl)

def canF (n : Nat) (f : Nat → E6) (i : Nat) : E6 := f ((leastN n (fun i => codeN (f i)) + i) % n)
def canonT : List V → T (V × List Blk) := apL1 fun n f => .br (fitN n) (.br (mayN n f) (.leaf (.tup [.ref 0, iV 0], [.row 38 6 n fun i => eV (canF n f i)])) (.leaf (.tup [.ref 0, iV 30], [.row 38 6 0 fun _ => .und]))) .fail

theorem p65 : PureC Tryz.prog Gl 22 canonT := by
  refine pureC_intro tabOK mixed Tryz.func22 (by kernel_rfl) (by kernel_rfl) fun vs v h' h => ?_
  obtain ⟨n, f, ha, h⟩ := apL1_some h
  obtain ⟨hn, h⟩ := sem_br_fail h
  have hx := cx_ok tb65_ok []
  cases hm : mayN n f with
  | true =>
    rw [hm] at h
    have := sem_leaf h
    simp only [Prod.mk.injEq] at this
    obtain ⟨rfl, rfl⟩ := this
    have hn' : n * 40 ≤ 140737488355328 := of_decide_eq_true hn
    have hk := leastN_ok n (fun i => codeN (f i))
    have e3 : ∀ k, nadd 0 (nsub n k) = n - k := fun k => by simp [nadd, nsub]
    have hw := wc65y (loopsBy []) n f hn hm (fit8_l (fitN_8 hn)) (by
        simp only [mkOK, Bool.and_eq_true, decide_eq_true_eq, Int.ofNat_eq_natCast]; omega) (by
        rw [ile_nat, show (0 : Int) = Int.ofNat 0 from rfl, ile_nat]; simp [band]; omega) (by
        exact ap_ok (by show (0 + (n - leastN n (fun i => codeN (f i)))) * 40 ≤ _; omega)) (by
        rw [e3]; exact ap_ok (by omega))
    obtain ⟨r1, r2⟩ := turned_row n (leastN n (fun i => codeN (f i))) (fun _ => eV zeroE) f eV hk
    unfold row65 at hw
    rw [r1] at hw
    exact ⟨_, cxOf Gl tb65 [], _, ha, rfl, hx.1, hx.2, hw, RowsLE.one fun j hj => (r2 j hj).symm⟩
  | false =>
    rw [hm] at h
    have := sem_leaf h
    simp only [Prod.mk.injEq] at this
    obtain ⟨rfl, rfl⟩ := this
    exact ⟨_, cxOf Gl tb65 [], _, ha, rfl, hx.1, hx.2, wc65n _ n f hn hm, RowsLE.refl _⟩

noncomputable def tb67 : List (Nat × (List V → T (V × List Blk))) := (50, codesT) :: (80, sameTT) :: []
theorem tb67_ok : AllPure Tryz.prog Gl tb67 := .cons p101 <| .cons p105 .nil

theorem wc67a (L : Nat → (St → T (Ex × St)) → St → T (Ex × St)) (n : Nat) (f : Nat → E6) (m : Nat) (g : Nat → E6) (h0 : fitN n = true) (h2 : mayN n f = false) (h1 : fitN m = true) (h3 : mayN m g = false) : (finF (evalF tab ⟨callT tb67, L, Gl⟩ Tryz.f49 [edgesV n f, edgesV m g] [])).sem = some ((.tup [(bV Bool.false), (iV 30)]), []) := by
  exact sem_of_path (ds := [true, true, false, true, true, false, true, true, true, true]) (cs := [(allN n (fun _ => Bool.true)), (fitN n), (mayN n f), (allN m (fun _ => Bool.true)), (fitN m), (mayN m g), (bnot (ieq 30 0)), (bnot (ieq 30 0)), (bnot (ieq 30 0)), Bool.true]) (by kernel_rfl) (by simp only [h0, h2, h1, h3, allN_true] <;> rfl)

theorem wc67b (L : Nat → (St → T (Ex × St)) → St → T (Ex × St)) (n : Nat) (f : Nat → E6) (m : Nat) (g : Nat → E6) (h0 : fitN n = true) (h2 : mayN n f = false) (h1 : fitN m = true) (h3 : mayN m g = true) : (finF (evalF tab ⟨callT tb67, L, Gl⟩ Tryz.f49 [edgesV n f, edgesV m g] [])).sem = some ((.tup [(bV Bool.false), (iV 30)]), []) := by
  exact sem_of_path (ds := [true, true, false, true, true, true, true, true, true, true]) (cs := [(allN n (fun _ => Bool.true)), (fitN n), (mayN n f), (allN m (fun _ => Bool.true)), (fitN m), (mayN m g), (bnot (ieq 30 0)), (bnot (ieq 30 0)), (bnot (ieq 30 0)), Bool.true]) (by kernel_rfl) (by simp only [h0, h2, h1, h3, allN_true] <;> rfl)

theorem wc67c (L : Nat → (St → T (Ex × St)) → St → T (Ex × St)) (n : Nat) (f : Nat → E6) (m : Nat) (g : Nat → E6) (h0 : fitN n = true) (h2 : mayN n f = true) (h1 : fitN m = true) (h3 : mayN m g = false) : (finF (evalF tab ⟨callT tb67, L, Gl⟩ Tryz.f49 [edgesV n f, edgesV m g] [])).sem = some ((.tup [(bV Bool.false), (iV 30)]), []) := by
  exact sem_of_path (ds := [true, true, true, true, true, false, false, false, false, true]) (cs := [(allN n (fun _ => Bool.true)), (fitN n), (mayN n f), (allN m (fun _ => Bool.true)), (fitN m), (mayN m g), (bnot (ieq 0 0)), (bnot (ieq 0 0)), (bnot (ieq 0 0)), (bnot (ieq 30 0))]) (by kernel_rfl) (by simp only [h0, h2, h1, h3, allN_true] <;> rfl)

theorem wc67d (L : Nat → (St → T (Ex × St)) → St → T (Ex × St)) (n : Nat) (f : Nat → E6) (m : Nat) (g : Nat → E6) (h0 : fitN n = true) (h2 : mayN n f = true) (h1 : fitN m = true) (h3 : mayN m g = true) (h4 : fit8 n = true) (h5 : fit8 m = true) : (finF (evalF tab ⟨callT tb67, L, Gl⟩ Tryz.f49 [edgesV n f, edgesV m g] [])).sem = some ((.tup [(bV (sameTB n (fun i => (codeN (f i))) m (fun i => (codeN (g i))))), (iV 0)]), []) := by
  exact sem_of_path (ds := [true, true, true, true, true, true, false, false, false, false, true, true, true, true]) (cs := [(allN n (fun _ => Bool.true)), (fitN n), (mayN n f), (allN m (fun _ => Bool.true)), (fitN m), (mayN m g), (bnot (ieq 0 0)), (bnot (ieq 0 0)), (bnot (ieq 0 0)), (bnot (ieq 0 0)), (allN n (fun _ => Bool.true)), (allN m (fun _ => Bool.true)), (fit8 n), (fit8 m)]) (by kernel_rfl) (by simp only [h0, h2, h1, h3, h4, h5, allN_true] <;> rfl)

def sameC (n : Nat) (f : Nat → E6) (m : Nat) (g : Nat → E6) : Bool := sameTB n (fun i => codeN (f i)) m (fun i => codeN (g i))
def sameCT : List V → T (V × List Blk) := apL2 fun n f m g => .br (fitN n) (.br (fitN m) (.br (band (mayN n f) (mayN m g)) (out (.tup [bV (sameC n f m g), iV 0])) (out (.tup [bV false, iV 30]))) .fail) .fail

theorem p67 : PureC Tryz.prog Gl 49 sameCT := by
  refine pureC_intro tabOK mixed Tryz.func49 (by kernel_rfl) (by kernel_rfl) fun vs v h' h => ?_
  obtain ⟨n, f, m, g, ha, h1⟩ := apL2_some h
  obtain ⟨hn, h2⟩ := sem_br_fail h1
  obtain ⟨hm, h3⟩ := sem_br_fail h2
  have hx := cx_ok tb67_ok []
  have h8 := fitN_8 hn
  have h9 := fitN_8 hm
  cases hf : mayN n f with
  | true =>
    cases hg : mayN m g with
    | true =>
      rw [hf, hg] at h3
      have := sem_leaf h3
      simp only [Prod.mk.injEq] at this
      obtain ⟨rfl, rfl⟩ := this
      exact ⟨_, cxOf Gl tb67 [], _, ha, rfl, hx.1, hx.2, wc67d _ n f m g hn hf hm hg h8 h9, RowsLE.refl _⟩
    | false =>
      rw [hf, hg] at h3
      have := sem_leaf h3
      simp only [Prod.mk.injEq] at this
      obtain ⟨rfl, rfl⟩ := this
      exact ⟨_, cxOf Gl tb67 [], _, ha, rfl, hx.1, hx.2, wc67c _ n f m g hn hf hm hg, RowsLE.refl _⟩
  | false =>
    rw [hf] at h3
    have := sem_leaf h3
    simp only [Prod.mk.injEq] at this
    obtain ⟨rfl, rfl⟩ := this
    cases hg : mayN m g with
    | true => exact ⟨_, cxOf Gl tb67 [], _, ha, rfl, hx.1, hx.2, wc67b _ n f m g hn hf hm hg, RowsLE.refl _⟩
    | false => exact ⟨_, cxOf Gl tb67 [], _, ha, rfl, hx.1, hx.2, wc67a _ n f m g hn hf hm hg, RowsLE.refl _⟩

theorem e42 (Γ : Cx) (vs : List V) (h : List Blk) : evalF tab Γ Tryz.f6 vs h = evalF tab Γ Tryz.f6 vs h := by kernel_rfl

theorem p42 : PureC Tryz.prog Gl 6 sameT := by
  refine pureC_intro tabOK mixed Tryz.func6 (by kernel_rfl) (by kernel_rfl) fun vs v h' h => ?_
  obtain ⟨n, f, m, g, ha, h⟩ := apL2_some h
  obtain ⟨hn, h⟩ := sem_br_fail h
  have := sem_leaf h
  simp only [Prod.mk.injEq] at this
  obtain ⟨rfl, rfl⟩ := this
  have hx := cx_ok tb8_ok [(0, lp36 n)]
  exact ⟨_, cx9 [(0, lp36 n)], _, ha, rfl, hx.1, hx.2, by rw [e42]; exact same36 n m f g (of_decide_eq_true hn), RowsLE.refl _⟩

/-! ### The law -/

theorem cdN_inj {a b : E6} (ha : codeF a = 0) (hb : codeF b = 0) (h : codeN a = codeN b) : a = b := by
  rcases codeF_cases a with ⟨k, _, _, h1, h2, _⟩ | ⟨h1, _⟩
  · rcases codeF_cases b with ⟨l, _, _, h3, h4, _⟩ | ⟨h3, _⟩
    · rw [h1, h3] at h
      have := Int.ofNat.inj h
      rw [← h2, ← h4, this]
    · rw [hb] at h3; cases h3
  · rw [ha] at h1; cases h1

theorem sameB_at {n : Nat} {f : Nat → E6} {m : Nat} {g : Nat → E6} : sameB n f m g = true ↔ n = m ∧ ∀ i, i < n → f i = g i := by
  unfold sameB
  rw [ieq_nat]
  by_cases h : n = m
  · rw [decide_eq_true h]
    show eqFrom f g n 0 = true ↔ _
    rw [eqFrom_iff]
    exact ⟨fun h1 => ⟨h, fun i hi => h1 i (Nat.zero_le _) (by omega)⟩, fun h1 j _ h3 => h1.2 j (by omega)⟩
  · rw [decide_eq_false h]
    exact ⟨fun h => (by cases h), fun h1 => absurd h1.1 h⟩

/-! ### The first number of which something is so -/

/-- The first of some that is so. -/
def firstQ (q : Nat → Bool) : Nat → Nat → Option Nat
  | 0, _ => none
  | d + 1, i => match q i with
    | true => some i
    | false => firstQ q d (i + 1)

theorem firstQ_t {q : Nat → Bool} {d i : Nat} (h : q i = true) : firstQ q (d + 1) i = some i := by rw [firstQ, h]
theorem firstQ_f {q : Nat → Bool} {d i : Nat} (h : q i = false) : firstQ q (d + 1) i = firstQ q d (i + 1) := by rw [firstQ, h]

theorem firstQ_congr {q p : Nat → Bool} : ∀ d i, (∀ k, i ≤ k → k < i + d → q k = p k) → firstQ q d i = firstQ p d i
  | 0, _, _ => rfl
  | d + 1, i, h => by
    rw [firstQ, firstQ, h i (Nat.le_refl _) (by omega), firstQ_congr d (i + 1) fun k h1 h2 => h k (by omega) (by omega)]

theorem firstQ_some {q : Nat → Bool} : ∀ {d i t : Nat}, firstQ q d i = some t → i ≤ t ∧ t < i + d ∧ q t = true
  | 0, _, _, h => by cases h
  | d + 1, i, t, h => by
    cases hq : q i with
    | true =>
      rw [firstQ_t hq] at h
      simp only [Option.some.injEq] at h
      subst h
      exact ⟨Nat.le_refl _, by omega, hq⟩
    | false =>
      rw [firstQ_f hq] at h
      have := firstQ_some h
      exact ⟨by omega, by omega, this.2.2⟩


theorem ieq_eq {a b : Int} (h : ieq a b = true) : a = b := by simpa [ieq] using h

end Go.Proofs.YtkcbdemfmjciiaaGreatDoor.Ed




