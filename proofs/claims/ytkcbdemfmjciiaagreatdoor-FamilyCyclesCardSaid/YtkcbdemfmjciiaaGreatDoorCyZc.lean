/-
  The least turned list the document's way; the law CycleTurned as a function. No conditions.
-/
import Derived.Test.YtkcbdemfmjciiaaGreatDoorCyZ
import Derived.Test.YtkcbdemfmjciiaaGreatDoorCyUa
namespace Go.Proofs.YtkcbdemfmjciiaaGreatDoor.Ed
open Go.Sy Go


/-! ### Which turned list is ahead -/

/-- Is a number a place of a list? -/
def inN (n : Nat) (a : Int) : Bool := band (ile 0 a) (ilt a (Int.ofNat n))
theorem inN_nat {n a : Nat} (h : a < n) : inN n (Int.ofNat a) = true := ofNat_in h
theorem inN_some {n : Nat} {a : Int} (h : inN n a = true) : a = Int.ofNat (toN a) ∧ toN a < n := by
  simp only [inN, band, ile, ilt, Bool.and_eq_true, decide_eq_true_eq, Int.ofNat_eq_natCast] at h
  simp only [toN, Int.ofNat_eq_natCast]
  omega

def aheadO (n : Nat) (h : Nat → Int) (a b : Nat) : Nat → Nat → Option Bool
  | 0, _ => none
  | d + 1, i => if h ((a + i) % n) = h ((b + i) % n) then aheadO n h a b d (i + 1) else some (decide (h ((a + i) % n) < h ((b + i) % n)))
def aheadB (n : Nat) (h : Nat → Int) (a b : Nat) : Bool := (aheadO n h a b n 0).getD false

theorem aheadO_iff {n : Nat} {h : Nat → Int} {a b : Nat} : ∀ d i, n = i + d → (∀ t, t < i → rotH n h a t = rotH n h b t) → ((aheadO n h a b d i).getD false = true ↔ lexLt n h a b)
  | 0, i, hd, hi => by
    refine ⟨fun h1 => (by cases h1), fun ⟨s, h1, _, h3⟩ => ?_⟩
    rw [hi s (by omega)] at h3
    omega
  | d + 1, i, hd, hi => by
    unfold aheadO
    by_cases he : h ((a + i) % n) = h ((b + i) % n)
    · rw [if_pos he]
      refine aheadO_iff d (i + 1) (by omega) fun t ht => ?_
      by_cases hti : t = i
      · rw [hti]; exact he
      · exact hi t (by omega)
    · rw [if_neg he]
      refine ⟨fun h1 => ⟨i, by omega, hi, of_decide_eq_true h1⟩, fun ⟨s, h1, h2, h3⟩ => decide_eq_true ?_⟩
      rcases Nat.lt_trichotomy s i with hs | hs | hs
      · rw [hi s hs] at h3; omega
      · rw [hs] at h3; exact h3
      · exact absurd (h2 i hs) he

theorem aheadB_iff {n : Nat} {h : Nat → Int} {a b : Nat} : aheadB n h a b = true ↔ lexLt n h a b := aheadO_iff n 0 (by omega) fun t ht => absurd ht (Nat.not_lt_zero _)

def en113r (n : Nat) (h : Nat → Int) (a b : Nat) (v : Bool) : Ex × St := (.rt, ⟨[.und, .und, .und, .und, .und, .und, bV v, .und, .und, .und, .und, .und, .und, .und, .und, .und, .und, .und, .und, .und, .und, .und, .und, .und, .und, .und, .und, .und, .und, .und, .und, .und, .und, .und, .und, .und, .und, .und, .und, .und], []⟩)
def lp113 (n : Nat) (h : Nat → Int) (a b : Nat) : Lp := ⟨[true, true, true, false, false, false, true, true, true, false, false, false, false, false, false, false, false, false, false, false, false, false, false, false, false, false, false, false, false, false, false, false, false, false, false, false, false, false, false, false], 0, [false, false, false, false, false, false, true, false, false, false, false, false, false, false, false, false, false, false, false, false, false, false, false, false, false, false, false, false, false, false, false, false, false, false, false, false, false, false, false, false], 0, n + 1⟩
def st113 (n : Nat) (h : Nat → Int) (a b : Nat) (i : Nat) (j : Nat → V) : St := ⟨[.sl 1 n fun k => iV (h k), iV (Int.ofNat a), iV (Int.ofNat b), j 3, j 4, j 5, bV false, iV (Int.ofNat n), iV (Int.ofNat i), j 9, j 10, j 11, j 12, j 13, j 14, j 15, j 16, j 17, j 18, j 19, j 20, j 21, j 22, j 23, j 24, j 25, j 26, j 27, j 28, j 29, j 30, j 31, j 32, j 33, j 34, j 35, j 36, j 37, j 38, j 39], []⟩
def en113e (n : Nat) (h : Nat → Int) (a b : Nat) (i : Nat) : Ex × St := (.ex 0, ⟨[.und, .und, .und, .und, .und, .und, bV false, .und, .und, .und, .und, .und, .und, .und, .und, .und, .und, .und, .und, .und, .und, .und, .und, .und, .und, .und, .und, .und, .und, .und, .und, .und, .und, .und, .und, .und, .und, .und, .und, .und], []⟩)
noncomputable def body113 (L : Nat → (St → T (Ex × St)) → St → T (Ex × St)) : St → T (Ex × St) := fun st => evalC tab ⟨callT tb0, L, Gl⟩ (loopBody Tryz.f88 0) 0 st
theorem rc113e (L : Nat → (St → T (Ex × St)) → St → T (Ex × St)) (n : Nat) (h : Nat → Int) (a b : Nat) (i : Nat)  (j : Nat → V) (h0 : ilt (Int.ofNat i) (Int.ofNat n) = false) : ((body113 L (st113 n h a b i j)).bind fun r => T.leaf (cutR (lp113 n h a b) r)).sem = some ((.ex 0), ⟨[.und, .und, .und, .und, .und, .und, (bV Bool.false), .und, .und, .und, .und, .und, .und, .und, .und, .und, .und, .und, .und, .und, .und, .und, .und, .und, .und, .und, .und, .und, .und, .und, .und, .und, .und, .und, .und, .und, .und, .und, .und, .und], []⟩) := by
  exact sem_of_path (ds := [false]) (cs := [(ilt (Int.ofNat i) (Int.ofNat n))]) (by kernel_rfl) (by simp only [h0] <;> rfl)
theorem rc113n (L : Nat → (St → T (Ex × St)) → St → T (Ex × St)) (n : Nat) (h : Nat → Int) (a b : Nat) (i : Nat)  (j : Nat → V) (h0 : ilt (Int.ofNat i) (Int.ofNat n) = true) (h1 : ieq (Int.ofNat n) 0 = false) (h20 : band (ile 0 (itmod (wr IntKind.i64 (iadd (Int.ofNat a) (Int.ofNat i))) (Int.ofNat n))) (ilt (itmod (wr IntKind.i64 (iadd (Int.ofNat a) (Int.ofNat i))) (Int.ofNat n)) (Int.ofNat n)) = true) (h22 : band (ile 0 (itmod (wr IntKind.i64 (iadd (Int.ofNat b) (Int.ofNat i))) (Int.ofNat n))) (ilt (itmod (wr IntKind.i64 (iadd (Int.ofNat b) (Int.ofNat i))) (Int.ofNat n)) (Int.ofNat n)) = true) (h2 : ieq (h (toN (itmod (wr IntKind.i64 (iadd (Int.ofNat a) (Int.ofNat i))) (Int.ofNat n)))) (h (toN (itmod (wr IntKind.i64 (iadd (Int.ofNat b) (Int.ofNat i))) (Int.ofNat n)))) = true) : ((body113 L (st113 n h a b i j)).bind fun r => T.leaf (cutR (lp113 n h a b) r)).sem = some (.nm, ⟨[(.sl 1 n (fun k => (iV (h k)))), (iV (Int.ofNat a)), (iV (Int.ofNat b)), .und, .und, .und, (bV Bool.false), (iV (Int.ofNat n)), (iV (wr IntKind.i64 (iadd (Int.ofNat i) 1))), .und, .und, .und, .und, .und, .und, .und, .und, .und, .und, .und, .und, .und, .und, .und, .und, .und, .und, .und, .und, .und, .und, .und, .und, .und, .und, .und, .und, .und, .und, .und], []⟩) := by
  exact sem_of_path (ds := [true, false, true, false, true, false]) (cs := [(ilt (Int.ofNat i) (Int.ofNat n)), (ieq (Int.ofNat n) 0), (band (ile 0 (itmod (wr IntKind.i64 (iadd (Int.ofNat a) (Int.ofNat i))) (Int.ofNat n))) (ilt (itmod (wr IntKind.i64 (iadd (Int.ofNat a) (Int.ofNat i))) (Int.ofNat n)) (Int.ofNat n))), (ieq (Int.ofNat n) 0), (band (ile 0 (itmod (wr IntKind.i64 (iadd (Int.ofNat b) (Int.ofNat i))) (Int.ofNat n))) (ilt (itmod (wr IntKind.i64 (iadd (Int.ofNat b) (Int.ofNat i))) (Int.ofNat n)) (Int.ofNat n))), (bnot (ieq (h (toN (itmod (wr IntKind.i64 (iadd (Int.ofNat a) (Int.ofNat i))) (Int.ofNat n)))) (h (toN (itmod (wr IntKind.i64 (iadd (Int.ofNat b) (Int.ofNat i))) (Int.ofNat n))))))]) (by kernel_rfl) (by simp only [h20, h22] <;> simp only [h0, h1, h2] <;> rfl)
theorem rc113r (L : Nat → (St → T (Ex × St)) → St → T (Ex × St)) (n : Nat) (h : Nat → Int) (a b : Nat) (i : Nat)  (j : Nat → V) (h0 : ilt (Int.ofNat i) (Int.ofNat n) = true) (h1 : ieq (Int.ofNat n) 0 = false) (h20 : band (ile 0 (itmod (wr IntKind.i64 (iadd (Int.ofNat a) (Int.ofNat i))) (Int.ofNat n))) (ilt (itmod (wr IntKind.i64 (iadd (Int.ofNat a) (Int.ofNat i))) (Int.ofNat n)) (Int.ofNat n)) = true) (h22 : band (ile 0 (itmod (wr IntKind.i64 (iadd (Int.ofNat b) (Int.ofNat i))) (Int.ofNat n))) (ilt (itmod (wr IntKind.i64 (iadd (Int.ofNat b) (Int.ofNat i))) (Int.ofNat n)) (Int.ofNat n)) = true) (h2 : ieq (h (toN (itmod (wr IntKind.i64 (iadd (Int.ofNat a) (Int.ofNat i))) (Int.ofNat n)))) (h (toN (itmod (wr IntKind.i64 (iadd (Int.ofNat b) (Int.ofNat i))) (Int.ofNat n)))) = false) : ((body113 L (st113 n h a b i j)).bind fun r => T.leaf (cutR (lp113 n h a b) r)).sem = some (.rt, ⟨[.und, .und, .und, .und, .und, .und, (bV (ilt (h (toN (itmod (wr IntKind.i64 (iadd (Int.ofNat a) (Int.ofNat i))) (Int.ofNat n)))) (h (toN (itmod (wr IntKind.i64 (iadd (Int.ofNat b) (Int.ofNat i))) (Int.ofNat n)))))), .und, .und, .und, .und, .und, .und, .und, .und, .und, .und, .und, .und, .und, .und, .und, .und, .und, .und, .und, .und, .und, .und, .und, .und, .und, .und, .und, .und, .und, .und, .und, .und, .und], []⟩) := by
  exact sem_of_path (ds := [true, false, true, false, true, true]) (cs := [(ilt (Int.ofNat i) (Int.ofNat n)), (ieq (Int.ofNat n) 0), (band (ile 0 (itmod (wr IntKind.i64 (iadd (Int.ofNat a) (Int.ofNat i))) (Int.ofNat n))) (ilt (itmod (wr IntKind.i64 (iadd (Int.ofNat a) (Int.ofNat i))) (Int.ofNat n)) (Int.ofNat n))), (ieq (Int.ofNat n) 0), (band (ile 0 (itmod (wr IntKind.i64 (iadd (Int.ofNat b) (Int.ofNat i))) (Int.ofNat n))) (ilt (itmod (wr IntKind.i64 (iadd (Int.ofNat b) (Int.ofNat i))) (Int.ofNat n)) (Int.ofNat n))), (bnot (ieq (h (toN (itmod (wr IntKind.i64 (iadd (Int.ofNat a) (Int.ofNat i))) (Int.ofNat n)))) (h (toN (itmod (wr IntKind.i64 (iadd (Int.ofNat b) (Int.ofNat i))) (Int.ofNat n))))))]) (by kernel_rfl) (by simp only [h20, h22] <;> simp only [h0, h1, h2] <;> rfl)
def jk113 (n : Nat) (h : Nat → Int) (a b : Nat)  : Nat → V
  | 11 => (.sl 1 n (fun i => (iV (h i))))
  | 12 => (iV (Int.ofNat n))
  | _ => undefV

theorem wc113e (L : Nat → (St → T (Ex × St)) → St → T (Ex × St)) (p0 : (St → T (Ex × St)) → St → Bool) (n : Nat) (h : Nat → Int) (a b : Nat) (i : Nat)  (hp0 : p0 (body113 (onP 0 p0 (en113e n h a b i) L)) (st113 n h a b 0 (jk113 n h a b )) = true) : (finF (evalF tab ⟨callT tb0, (onP 0 p0 (en113e n h a b i) L), Gl⟩ Tryz.f88 [intsV n h, iV (Int.ofNat a), iV (Int.ofNat b)] [])).sem = some ((bV Bool.false), []) := by
  exact sem_of_path (ds := [true]) (cs := [(p0 (body113 (onP 0 p0 (en113e n h a b i) L)) (st113 n h a b 0 (jk113 n h a b )))]) (by kernel_rfl) (by simp only [hp0] <;> rfl)

theorem wc113r (L : Nat → (St → T (Ex × St)) → St → T (Ex × St)) (p0 : (St → T (Ex × St)) → St → Bool) (n : Nat) (h : Nat → Int) (a b : Nat) (v : Bool)  (hp0 : p0 (body113 (onP 0 p0 (en113r n h a b v) L)) (st113 n h a b 0 (jk113 n h a b )) = true) : (finF (evalF tab ⟨callT tb0, (onP 0 p0 (en113r n h a b v) L), Gl⟩ Tryz.f88 [intsV n h, iV (Int.ofNat a), iV (Int.ofNat b)] [])).sem = some ((bV v), []) := by
  exact sem_of_path (ds := [true]) (cs := [(p0 (body113 (onP 0 p0 (en113r n h a b v) L)) (st113 n h a b 0 (jk113 n h a b )))]) (by kernel_rfl) (by simp only [hp0] <;> rfl)

theorem at113 (n a i : Nat) (ha : a < n) (hn : n ≤ 4611686018427387904) (hi : i < n) : itmod (wr IntKind.i64 (iadd (Int.ofNat a) (Int.ofNat i))) (Int.ofNat n) = Int.ofNat ((a + i) % n) ∧ (a + i) % n < n := by
  rw [wr_add (by omega), mod_nat]
  exact ⟨rfl, Nat.mod_lt _ (by omega)⟩
theorem in113 (n a i : Nat) (ha : a < n) (hn : n ≤ 4611686018427387904) (hi : i < n) : band (ile 0 (itmod (wr IntKind.i64 (iadd (Int.ofNat a) (Int.ofNat i))) (Int.ofNat n))) (ilt (itmod (wr IntKind.i64 (iadd (Int.ofNat a) (Int.ofNat i))) (Int.ofNat n)) (Int.ofNat n)) = true := by
  obtain ⟨e1, l1⟩ := at113 n a i ha hn hi
  rw [e1]
  exact ofNat_in l1
theorem nz113 (n i : Nat) (hi : i < n) : ieq (Int.ofNat n) 0 = false := by rw [show (0 : Int) = Int.ofNat 0 from rfl, ieq_nat, decide_eq_false (by omega)]

theorem run113 (L : Nat → (St → T (Ex × St)) → St → T (Ex × St)) (n : Nat) (h : Nat → Int) (a b : Nat) (hn : n ≤ 4611686018427387904) (ha : a < n) (hb : b < n) : ∀ (d i : Nat) (j : Nat → V) (q : Nat), n = i + d → d < q →
    (iterT (body113 L) (lp113 n h a b) q (st113 n h a b i j)).sem = some (match aheadO n h a b d i with | none => en113e n h a b 0 | some v => en113r n h a b v)
  | 0, i, j, q + 1, h1, _ => by
    have : n = i := by omega
    subst this
    exact iter_round (rc113e L n h a b n j (ofNat_ge (Nat.le_refl _)))
  | d + 1, i, j, q + 1, h1, h2 => by
    have hi : i < n := by omega
    obtain ⟨e1, l1⟩ := at113 n a i ha hn hi
    obtain ⟨e2, l2⟩ := at113 n b i hb hn hi
    unfold aheadO
    by_cases he : h ((a + i) % n) = h ((b + i) % n)
    · have hq : ieq (h (toN (itmod (wr IntKind.i64 (iadd (Int.ofNat a) (Int.ofNat i))) (Int.ofNat n)))) (h (toN (itmod (wr IntKind.i64 (iadd (Int.ofNat b) (Int.ofNat i))) (Int.ofNat n)))) = true := by
        rw [e1, e2]
        show ieq (h ((a + i) % n)) (h ((b + i) % n)) = true
        rw [he]
        exact ieq_rfl _
      rw [if_pos he, iter_round (rc113n L n h a b i j (ofNat_lt hi) (nz113 n i hi) (in113 n a i ha hn hi) (in113 n b i hb hn hi) hq), goOn_nm, succ_wr hi hn]
      exact run113 L n h a b hn ha hb d (i + 1) (fun _ => .und) q (by omega) (by omega)
    · have hq : ieq (h (toN (itmod (wr IntKind.i64 (iadd (Int.ofNat a) (Int.ofNat i))) (Int.ofNat n)))) (h (toN (itmod (wr IntKind.i64 (iadd (Int.ofNat b) (Int.ofNat i))) (Int.ofNat n)))) = false := by
        rw [e1, e2]
        show ieq (h ((a + i) % n)) (h ((b + i) % n)) = false
        simp [ieq, he]
      have hr := rc113r L n h a b i j (ofNat_lt hi) (nz113 n i hi) (in113 n a i ha hn hi) (in113 n b i hb hn hi) hq
      rw [e1, e2] at hr
      rw [if_neg he]
      exact iter_round hr

def aheadT : List V → T (V × List Blk)
  | [v, .val (.int .i64 a), .val (.int .i64 b)] => apI v fun n h => .br (fit8 n) (.br (band (inN n a) (inN n b)) (out (bV (aheadB n h (toN a) (toN b)))) .fail) .fail
  | _ => .fail

theorem band_some {a b : Bool} (h : band a b = true) : a = true ∧ b = true := by simpa [band] using h

theorem p113 : PureC Tryz.prog Gl 88 aheadT := by
  refine pureC_intro tabOK mixed Tryz.func88 (by kernel_rfl) (by kernel_rfl) fun vs v h' hh => ?_
  unfold aheadT at hh
  split at hh
  · rename_i u a b
    obtain ⟨n, h, hv, h1⟩ := apI_some hh
    obtain ⟨h8, h2⟩ := sem_br_fail h1
    obtain ⟨hab, h3⟩ := sem_br_fail h2
    have := sem_leaf h3
    simp only [Prod.mk.injEq] at this
    obtain ⟨rfl, rfl⟩ := this
    obtain ⟨ha, hb⟩ := band_some hab
    obtain ⟨ea, la⟩ := inN_some ha
    obtain ⟨eb, lb⟩ := inN_some hb
    have hA : ArgLE [u, iV a, iV b] [intsV n h, iV (Int.ofNat (toN a)), iV (Int.ofNat (toN b))] := fun S w cs q => by
      rw [← ea, ← eb]
      obtain ⟨c, l, rfl, q1, q2⟩ := q
      exact ⟨c, l, rfl, hv S w c q1, q2⟩
    have hx := cx_ok tb0_ok [(0, lp113 n h (toN a) (toN b))]
    have hL := loopsBy_le [(0, lp113 n h (toN a) (toN b))]
    have hr := fun L => run113 L n h (toN a) (toN b) (fit8_small h8) la lb n 0 (jk113 n h (toN a) (toN b)) (n + 1) (by omega) (by omega)
    refine ⟨_, cxOf Gl tb0 [(0, lp113 n h (toN a) (toN b))], _, hA, rfl, hx.1, hx.2, ?_, RowsLE.refl _⟩
    unfold aheadB
    cases hc : aheadO n h (toN a) (toN b) n 0 with
    | none =>
      rw [hc] at hr
      exact told_le (onP_le hL hL) _ (wc113e _ _ n h (toN a) (toN b) 0 (isP_true (hr _)))
    | some v =>
      rw [hc] at hr
      exact told_le (onP_le hL hL) _ (wc113r _ _ n h (toN a) (toN b) v (isP_true (hr _)))
  · cases hh

noncomputable def tb104 : List (Nat × (List V → T (V × List Blk))) := (88, aheadT) :: []
theorem tb104_ok : AllPure Tryz.prog Gl tb104 := .cons p113 .nil

/-! ### The least turned list, the document's way -/

def refG (n : Nat) (h : Nat → Int) : Nat → Nat → Nat → Nat
  | 0, _, b => b
  | d + 1, i, b => if aheadB n h i b = true then refG n h d (i + 1) i else refG n h d (i + 1) b
def refL (n : Nat) (h : Nat → Int) : Nat := refG n h (n - 1) 1 0

theorem refG_min {n : Nat} {h : Nat → Int} : ∀ d i b, n = i + d → b < i → (∀ q, q < i → ¬ lexLt n h q b) → isMin n h (refG n h d i b)
  | 0, i, b, hd, hb, hq => ⟨by show b < n; omega, fun q hq' => hq q (by omega)⟩
  | d + 1, i, b, hd, hb, hq => by
    unfold refG
    by_cases ha : aheadB n h i b = true
    · rw [if_pos ha]
      have hl := aheadB_iff.1 ha
      refine refG_min d (i + 1) i (by omega) (by omega) fun q hq' hlt => ?_
      by_cases hqi : q = i
      · rw [hqi] at hlt; exact lexLt_irrefl hlt
      · exact hq q (by omega) (lexLt_trans hlt hl)
    · rw [if_neg ha]
      refine refG_min d (i + 1) b (by omega) (by omega) fun q hq' hlt => ?_
      by_cases hqi : q = i
      · rw [hqi] at hlt; exact ha (aheadB_iff.2 hlt)
      · exact hq q (by omega) hlt

theorem refL_min {n : Nat} (h : Nat → Int) (hn : 0 < n) : isMin n h (refL n h) := refG_min (n - 1) 1 0 (by omega) (by omega) fun q hq => by
  have : q = 0 := by omega
  subst this
  exact lexLt_irrefl

def lp104 (n : Nat) (h : Nat → Int) : Lp := ⟨[true, false, true, true, true, false, false, false, false, false, false, false, false, false, false, false, false], 0, [false, false, true, true, false, false, false, false, false, false, false, false, false, false, false, false, false], 0, n + 1⟩
def st104 (n : Nat) (h : Nat → Int) (b i : Nat) (j : Nat → V) : St := ⟨[.sl 1 n fun k => iV (h k), j 1, iV 0, iV (Int.ofNat b), iV (Int.ofNat i), j 5, j 6, j 7, j 8, j 9, j 10, j 11, j 12, j 13, j 14, j 15, j 16], []⟩
def en104e (n : Nat) (h : Nat → Int) (b i : Nat) : Ex × St := (.ex 0, ⟨[.und, .und, iV 0, iV (Int.ofNat b), .und, .und, .und, .und, .und, .und, .und, .und, .und, .und, .und, .und, .und], []⟩)
noncomputable def body104 (L : Nat → (St → T (Ex × St)) → St → T (Ex × St)) : St → T (Ex × St) := fun st => evalC tab ⟨callT tb104, L, Gl⟩ (loopBody Tryz.f73 0) 0 st
theorem rc104e (L : Nat → (St → T (Ex × St)) → St → T (Ex × St)) (n : Nat) (h : Nat → Int) (b i : Nat)  (j : Nat → V) (h0 : ilt (Int.ofNat i) (Int.ofNat n) = false) : ((body104 L (st104 n h b i j)).bind fun r => T.leaf (cutR (lp104 n h) r)).sem = some ((.ex 0), ⟨[.und, .und, (iV 0), (iV (Int.ofNat b)), .und, .und, .und, .und, .und, .und, .und, .und, .und, .und, .und, .und, .und], []⟩) := by
  exact sem_of_path (ds := [false]) (cs := [(ilt (Int.ofNat i) (Int.ofNat n))]) (by kernel_rfl) (by simp only [h0] <;> rfl)
theorem rc104y (L : Nat → (St → T (Ex × St)) → St → T (Ex × St)) (n : Nat) (h : Nat → Int) (b i : Nat)  (j : Nat → V) (h0 : ilt (Int.ofNat i) (Int.ofNat n) = true) (h18 : fit8 n = true) (h19 : inN n (Int.ofNat i) = true) (h20 : inN n (Int.ofNat b) = true) (h1 : aheadB n h i b = true) : ((body104 L (st104 n h b i j)).bind fun r => T.leaf (cutR (lp104 n h) r)).sem = some (.nm, ⟨[(.sl 1 n (fun k => (iV (h k)))), .und, (iV 0), (iV (Int.ofNat i)), (iV (wr IntKind.i64 (iadd (Int.ofNat i) 1))), .und, .und, .und, .und, .und, .und, .und, .und, .und, .und, .und, .und], []⟩) := by
  exact sem_of_path (ds := [true, true, true, true, true]) (cs := [(ilt (Int.ofNat i) (Int.ofNat n)), (allN n (fun _ => Bool.true)), (fit8 n), (band (inN n (Int.ofNat i)) (inN n (Int.ofNat b))), (aheadB n h i b)]) (by kernel_rfl) (by simp only [h0, h18, h19, h20, h1, allN_true] <;> rfl)
theorem rc104n (L : Nat → (St → T (Ex × St)) → St → T (Ex × St)) (n : Nat) (h : Nat → Int) (b i : Nat)  (j : Nat → V) (h0 : ilt (Int.ofNat i) (Int.ofNat n) = true) (h18 : fit8 n = true) (h19 : inN n (Int.ofNat i) = true) (h20 : inN n (Int.ofNat b) = true) (h1 : aheadB n h i b = false) : ((body104 L (st104 n h b i j)).bind fun r => T.leaf (cutR (lp104 n h) r)).sem = some (.nm, ⟨[(.sl 1 n (fun k => (iV (h k)))), .und, (iV 0), (iV (Int.ofNat b)), (iV (wr IntKind.i64 (iadd (Int.ofNat i) 1))), .und, .und, .und, .und, .und, .und, .und, .und, .und, .und, .und, .und], []⟩) := by
  exact sem_of_path (ds := [true, true, true, true, false]) (cs := [(ilt (Int.ofNat i) (Int.ofNat n)), (allN n (fun _ => Bool.true)), (fit8 n), (band (inN n (Int.ofNat i)) (inN n (Int.ofNat b))), (aheadB n h i b)]) (by kernel_rfl) (by simp only [h0, h18, h19, h20, h1, allN_true] <;> rfl)
def jk104 (n : Nat) (h : Nat → Int)  : Nat → V
  | _ => undefV

theorem wc104 (L : Nat → (St → T (Ex × St)) → St → T (Ex × St)) (p0 : (St → T (Ex × St)) → St → Bool) (n : Nat) (h : Nat → Int) (b i : Nat)  (hp0 : p0 (body104 (onP 0 p0 (en104e n h b i) L)) (st104 n h 0 1 (jk104 n h )) = true) : (finF (evalF tab ⟨callT tb104, (onP 0 p0 (en104e n h b i) L), Gl⟩ Tryz.f73 [intsV n h] [])).sem = some ((iV (Int.ofNat b)), []) := by
  exact sem_of_path (ds := [true]) (cs := [(p0 (body104 (onP 0 p0 (en104e n h b i) L)) (st104 n h 0 1 (jk104 n h )))]) (by kernel_rfl) (by simp only [hp0] <;> rfl)

theorem run104 (L : Nat → (St → T (Ex × St)) → St → T (Ex × St)) (n : Nat) (h : Nat → Int) (h8 : fit8 n = true) : ∀ (d i b : Nat) (j : Nat → V) (q : Nat), n = i + d → b < i → d < q →
    (iterT (body104 L) (lp104 n h) q (st104 n h b i j)).sem = some (en104e n h (refG n h d i b) n)
  | 0, i, b, j, q + 1, h1, _, _ => by
    have : n = i := by omega
    subst this
    exact iter_round (rc104e L n h b n j (ofNat_ge (Nat.le_refl _)))
  | d + 1, i, b, j, q + 1, h1, hb, h2 => by
    have hi : i < n := by omega
    unfold refG
    cases ha : aheadB n h i b with
    | true =>
      rw [if_pos rfl, iter_round (rc104y L n h b i j (ofNat_lt hi) h8 (inN_nat hi) (inN_nat (by omega)) ha), goOn_nm, succ_wr hi (fit8_small h8)]
      exact run104 L n h h8 d (i + 1) i (fun _ => .und) q (by omega) (by omega) (by omega)
    | false =>
      rw [if_neg (by decide), iter_round (rc104n L n h b i j (ofNat_lt hi) h8 (inN_nat hi) (inN_nat (by omega)) ha), goOn_nm, succ_wr hi (fit8_small h8)]
      exact run104 L n h h8 d (i + 1) b (fun _ => .und) q (by omega) (by omega) (by omega)

def refLT : List V → T (V × List Blk) := apI1 fun n h => .br (fit8 n) (out (iV (Int.ofNat (refL n h)))) .fail

theorem p104 : PureC Tryz.prog Gl 73 refLT := by
  refine pureC_intro tabOK mixed Tryz.func73 (by kernel_rfl) (by kernel_rfl) fun vs v h' hh => ?_
  obtain ⟨n, h, hA, h1⟩ := apI1_some hh
  obtain ⟨h8, h3⟩ := sem_br_fail h1
  have := sem_leaf h3
  simp only [Prod.mk.injEq] at this
  obtain ⟨rfl, rfl⟩ := this
  have hx := cx_ok tb104_ok [(0, lp104 n h)]
  have hL := loopsBy_le [(0, lp104 n h)]
  refine ⟨_, cxOf Gl tb104 [(0, lp104 n h)], _, hA, rfl, hx.1, hx.2, ?_, RowsLE.refl _⟩
  unfold refL
  rcases Nat.eq_zero_or_pos n with rfl | hn
  · exact told_le (onP_le hL hL) _ (wc104 _ _ 0 h 0 0 (isP_true (iter_round (rc104e _ 0 h 0 1 (jk104 0 h) (ofNat_ge (by omega))))))
  · exact told_le (onP_le hL hL) _ (wc104 _ _ n h _ n (isP_true (run104 _ n h h8 (n - 1) 1 0 (jk104 n h) (n + 1) (by omega) (by omega) (by omega))))

/-! ### Is one list the other one turned, the document's way -/

def sameD (n : Nat) (f : Nat → Int) (a : Nat) (g : Nat → Int) : Nat → Nat → Bool
  | 0, _ => true
  | d + 1, i => if f ((a + i) % n) = g i then sameD n f a g d (i + 1) else false
def sameK (n : Nat) (f : Nat → Int) (a : Nat) (g : Nat → Int) : Bool := sameD n f a g n 0

theorem sameD_iff {n : Nat} {f : Nat → Int} {a : Nat} {g : Nat → Int} : ∀ d i, (sameD n f a g d i = true ↔ ∀ t, i ≤ t → t < i + d → f ((a + t) % n) = g t)
  | 0, i => ⟨fun _ t h1 h2 => by omega, fun _ => rfl⟩
  | d + 1, i => by
    unfold sameD
    by_cases he : f ((a + i) % n) = g i
    · rw [if_pos he, sameD_iff d (i + 1)]
      refine ⟨fun h t h1 h2 => ?_, fun h t h1 h2 => h t (by omega) (by omega)⟩
      by_cases ht : t = i
      · rw [ht]; exact he
      · exact h t (by omega) (by omega)
    · rw [if_neg he]
      exact ⟨fun h => (by cases h), fun h => absurd (h i (Nat.le_refl _) (by omega)) he⟩

theorem sameK_iff {n : Nat} {f : Nat → Int} {a : Nat} {g : Nat → Int} : sameK n f a g = true ↔ ∀ t, t < n → f ((a + t) % n) = g t := by
  unfold sameK
  rw [sameD_iff]
  exact ⟨fun h t ht => h t (Nat.zero_le _) (by omega), fun h t _ ht => h t (by omega)⟩

def sameG (n : Nat) (f : Nat → Int) (g : Nat → Int) : Nat → Nat → Bool
  | 0, _ => false
  | d + 1, i => if sameK n f i g = true then true else sameG n f g d (i + 1)
def sameR (n : Nat) (f : Nat → Int) (m : Nat) (g : Nat → Int) : Bool := if n = m then (if n = 0 then true else sameG n f g n 0) else false

theorem sameG_iff {n : Nat} {f g : Nat → Int} : ∀ d i, (sameG n f g d i = true ↔ ∃ k, i ≤ k ∧ k < i + d ∧ sameK n f k g = true)
  | 0, i => ⟨fun h => (by cases h), fun ⟨k, h1, h2, _⟩ => by omega⟩
  | d + 1, i => by
    unfold sameG
    by_cases he : sameK n f i g = true
    · rw [if_pos he]
      exact ⟨fun _ => ⟨i, Nat.le_refl _, by omega, he⟩, fun _ => rfl⟩
    · rw [if_neg he, sameG_iff d (i + 1)]
      refine ⟨fun ⟨k, h1, h2, h3⟩ => ⟨k, by omega, by omega, h3⟩, fun ⟨k, h1, h2, h3⟩ => ?_⟩
      by_cases hk : k = i
      · rw [hk] at h3; exact absurd h3 he
      · exact ⟨k, by omega, by omega, h3⟩

theorem sameR_iff {n : Nat} {f : Nat → Int} {m : Nat} {g : Nat → Int} : sameR n f m g = true ↔ n = m ∧ (n = 0 ∨ ∃ k, k < n ∧ ∀ t, t < n → f ((k + t) % n) = g t) := by
  unfold sameR
  by_cases h : n = m
  · rw [if_pos h]
    by_cases h0 : n = 0
    · rw [if_pos h0]
      exact ⟨fun _ => ⟨h, .inl h0⟩, fun _ => rfl⟩
    · rw [if_neg h0, sameG_iff]
      refine ⟨fun ⟨k, _, h2, h3⟩ => ⟨h, .inr ⟨k, by omega, sameK_iff.1 h3⟩⟩, fun ⟨_, h2⟩ => ?_⟩
      rcases h2 with h2 | ⟨k, h2, h3⟩
      · exact absurd h2 h0
      · exact ⟨k, Nat.zero_le _, by omega, sameK_iff.2 h3⟩
  · rw [if_neg h]
    exact ⟨fun h1 => (by cases h1), fun h1 => absurd h1.1 h⟩

/-- Both ways tell the same. -/
theorem sameR_TB (n : Nat) (f : Nat → Int) (m : Nat) (g : Nat → Int) : sameR n f m g = sameTB n f m g := by
  rw [Bool.eq_iff_iff, sameR_iff, sameTB_iff]
  refine and_congr_right fun h => ?_
  subst h
  rcases Nat.eq_zero_or_pos n with rfl | hn
  · exact ⟨fun _ i hi => absurd hi (Nat.not_lt_zero _), fun _ => .inl rfl⟩
  · constructor
    · rintro (h0 | ⟨k, hk, h1⟩)
      · omega
      · intro i hi
        exact (least_turned hn (fun t ht => (h1 t ht).symm) i hi).symm
    · intro h1
      have hp := (leastN_min n f hn).1
      have hq := (leastN_min n g hn).1
      generalize leastN n f = p at *
      generalize leastN n g = q at *
      refine .inr ⟨(p + (n - q)) % n, Nat.mod_lt _ hn, fun t ht => ?_⟩
      have h2 := h1 ((t + (n - q)) % n) (Nat.mod_lt _ hn)
      unfold turnF at h2
      have e1 : (q + (t + (n - q)) % n) % n = t := by
        rw [Nat.add_mod_mod, show q + (t + (n - q)) = t + n by omega, Nat.add_mod_right, Nat.mod_eq_of_lt ht]
      have e2 : (p + (t + (n - q)) % n) % n = ((p + (n - q)) % n + t) % n := by
        rw [Nat.add_mod_mod, Nat.mod_add_mod, show p + (t + (n - q)) = p + (n - q) + t by omega]
      rw [e1, e2] at h2
      exact h2

def lp116 (n : Nat) (f : Nat → Int) (a m : Nat) (g : Nat → Int) : Lp := ⟨[true, true, true, false, false, false, true, true, true, false, false, false, false, false, false, false, false, false, false, false, false, false, false, false, false, false, false, false, false], 0, [false, false, false, false, false, false, true, false, false, false, false, false, false, false, false, false, false, false, false, false, false, false, false, false, false, false, false, false, false], 0, n + 1⟩
def st116 (n : Nat) (f : Nat → Int) (a m : Nat) (g : Nat → Int) (i : Nat) (j : Nat → V) : St := ⟨[.sl 1 n fun k => iV (f k), iV (Int.ofNat a), .sl 1 m fun k => iV (g k), j 3, j 4, j 5, bV false, iV (Int.ofNat n), iV (Int.ofNat i), j 9, j 10, j 11, j 12, j 13, j 14, j 15, j 16, j 17, j 18, j 19, j 20, j 21, j 22, j 23, j 24, j 25, j 26, j 27, j 28], []⟩
def en116r (n : Nat) (f : Nat → Int) (a m : Nat) (g : Nat → Int) (i : Nat) : Ex × St := (.rt, ⟨[.und, .und, .und, .und, .und, .und, bV false, .und, .und, .und, .und, .und, .und, .und, .und, .und, .und, .und, .und, .und, .und, .und, .und, .und, .und, .und, .und, .und, .und], []⟩)
def en116e (n : Nat) (f : Nat → Int) (a m : Nat) (g : Nat → Int) (i : Nat) : Ex × St := (.ex 0, ⟨[.und, .und, .und, .und, .und, .und, bV false, .und, .und, .und, .und, .und, .und, .und, .und, .und, .und, .und, .und, .und, .und, .und, .und, .und, .und, .und, .und, .und, .und], []⟩)
noncomputable def body116 (L : Nat → (St → T (Ex × St)) → St → T (Ex × St)) : St → T (Ex × St) := fun st => evalC tab ⟨callT tb0, L, Gl⟩ (loopBody Tryz.f101 0) 0 st
theorem rc116e (L : Nat → (St → T (Ex × St)) → St → T (Ex × St)) (n : Nat) (f : Nat → Int) (a m : Nat) (g : Nat → Int) (i : Nat)  (j : Nat → V) (h0 : ilt (Int.ofNat i) (Int.ofNat n) = false) : ((body116 L (st116 n f a m g i j)).bind fun r => T.leaf (cutR (lp116 n f a m g) r)).sem = some ((.ex 0), ⟨[.und, .und, .und, .und, .und, .und, (bV Bool.false), .und, .und, .und, .und, .und, .und, .und, .und, .und, .und, .und, .und, .und, .und, .und, .und, .und, .und, .und, .und, .und, .und], []⟩) := by
  exact sem_of_path (ds := [false]) (cs := [(ilt (Int.ofNat i) (Int.ofNat n))]) (by kernel_rfl) (by simp only [h0] <;> rfl)
theorem rc116n (L : Nat → (St → T (Ex × St)) → St → T (Ex × St)) (n : Nat) (f : Nat → Int) (a m : Nat) (g : Nat → Int) (i : Nat)  (j : Nat → V) (h0 : ilt (Int.ofNat i) (Int.ofNat n) = true) (h1 : ieq (Int.ofNat n) 0 = false) (h21 : band (ile 0 (itmod (wr IntKind.i64 (iadd (Int.ofNat a) (Int.ofNat i))) (Int.ofNat n))) (ilt (itmod (wr IntKind.i64 (iadd (Int.ofNat a) (Int.ofNat i))) (Int.ofNat n)) (Int.ofNat n)) = true) (h22 : ile 0 (Int.ofNat i) = true) (h2 : ilt (Int.ofNat i) (Int.ofNat m) = true) (h3 : ieq (f (toN (itmod (wr IntKind.i64 (iadd (Int.ofNat a) (Int.ofNat i))) (Int.ofNat n)))) (g i) = true) : ((body116 L (st116 n f a m g i j)).bind fun r => T.leaf (cutR (lp116 n f a m g) r)).sem = some (.nm, ⟨[(.sl 1 n (fun k => (iV (f k)))), (iV (Int.ofNat a)), (.sl 1 m (fun k => (iV (g k)))), .und, .und, .und, (bV Bool.false), (iV (Int.ofNat n)), (iV (wr IntKind.i64 (iadd (Int.ofNat i) 1))), .und, .und, .und, .und, .und, .und, .und, .und, .und, .und, .und, .und, .und, .und, .und, .und, .und, .und, .und, .und], []⟩) := by
  exact sem_of_path (ds := [true, false, true, true, false]) (cs := [(ilt (Int.ofNat i) (Int.ofNat n)), (ieq (Int.ofNat n) 0), (band (ile 0 (itmod (wr IntKind.i64 (iadd (Int.ofNat a) (Int.ofNat i))) (Int.ofNat n))) (ilt (itmod (wr IntKind.i64 (iadd (Int.ofNat a) (Int.ofNat i))) (Int.ofNat n)) (Int.ofNat n))), (band (ile 0 (Int.ofNat i)) (ilt (Int.ofNat i) (Int.ofNat m))), (bnot (ieq (f (toN (itmod (wr IntKind.i64 (iadd (Int.ofNat a) (Int.ofNat i))) (Int.ofNat n)))) (g i)))]) (by kernel_rfl) (by simp only [h21] <;> simp only [h0, h1, h22, h2, h3] <;> rfl)
theorem rc116r (L : Nat → (St → T (Ex × St)) → St → T (Ex × St)) (n : Nat) (f : Nat → Int) (a m : Nat) (g : Nat → Int) (i : Nat)  (j : Nat → V) (h0 : ilt (Int.ofNat i) (Int.ofNat n) = true) (h1 : ieq (Int.ofNat n) 0 = false) (h21 : band (ile 0 (itmod (wr IntKind.i64 (iadd (Int.ofNat a) (Int.ofNat i))) (Int.ofNat n))) (ilt (itmod (wr IntKind.i64 (iadd (Int.ofNat a) (Int.ofNat i))) (Int.ofNat n)) (Int.ofNat n)) = true) (h22 : ile 0 (Int.ofNat i) = true) (h2 : ilt (Int.ofNat i) (Int.ofNat m) = true) (h3 : ieq (f (toN (itmod (wr IntKind.i64 (iadd (Int.ofNat a) (Int.ofNat i))) (Int.ofNat n)))) (g i) = false) : ((body116 L (st116 n f a m g i j)).bind fun r => T.leaf (cutR (lp116 n f a m g) r)).sem = some (.rt, ⟨[.und, .und, .und, .und, .und, .und, (bV Bool.false), .und, .und, .und, .und, .und, .und, .und, .und, .und, .und, .und, .und, .und, .und, .und, .und, .und, .und, .und, .und, .und, .und], []⟩) := by
  exact sem_of_path (ds := [true, false, true, true, true]) (cs := [(ilt (Int.ofNat i) (Int.ofNat n)), (ieq (Int.ofNat n) 0), (band (ile 0 (itmod (wr IntKind.i64 (iadd (Int.ofNat a) (Int.ofNat i))) (Int.ofNat n))) (ilt (itmod (wr IntKind.i64 (iadd (Int.ofNat a) (Int.ofNat i))) (Int.ofNat n)) (Int.ofNat n))), (band (ile 0 (Int.ofNat i)) (ilt (Int.ofNat i) (Int.ofNat m))), (bnot (ieq (f (toN (itmod (wr IntKind.i64 (iadd (Int.ofNat a) (Int.ofNat i))) (Int.ofNat n)))) (g i)))]) (by kernel_rfl) (by simp only [h21] <;> simp only [h0, h1, h22, h2, h3] <;> rfl)
def jk116 (n : Nat) (f : Nat → Int) (a m : Nat) (g : Nat → Int)  : Nat → V
  | 9 => (.sl 1 n (fun i => (iV (f i))))
  | 10 => (iV (Int.ofNat n))
  | _ => undefV

theorem wc116e (L : Nat → (St → T (Ex × St)) → St → T (Ex × St)) (p0 : (St → T (Ex × St)) → St → Bool) (n : Nat) (f : Nat → Int) (a m : Nat) (g : Nat → Int) (i : Nat)  (hp0 : p0 (body116 (onP 0 p0 (en116e n f a m g i) L)) (st116 n f a m g 0 (jk116 n f a m g )) = true) : (finF (evalF tab ⟨callT tb0, (onP 0 p0 (en116e n f a m g i) L), Gl⟩ Tryz.f101 [intsV n f, iV (Int.ofNat a), intsV m g] [])).sem = some ((bV Bool.true), []) := by
  exact sem_of_path (ds := [true]) (cs := [(p0 (body116 (onP 0 p0 (en116e n f a m g i) L)) (st116 n f a m g 0 (jk116 n f a m g )))]) (by kernel_rfl) (by simp only [hp0] <;> rfl)

theorem wc116r (L : Nat → (St → T (Ex × St)) → St → T (Ex × St)) (p0 : (St → T (Ex × St)) → St → Bool) (n : Nat) (f : Nat → Int) (a m : Nat) (g : Nat → Int) (i : Nat)  (hp0 : p0 (body116 (onP 0 p0 (en116r n f a m g i) L)) (st116 n f a m g 0 (jk116 n f a m g )) = true) : (finF (evalF tab ⟨callT tb0, (onP 0 p0 (en116r n f a m g i) L), Gl⟩ Tryz.f101 [intsV n f, iV (Int.ofNat a), intsV m g] [])).sem = some ((bV Bool.false), []) := by
  exact sem_of_path (ds := [true]) (cs := [(p0 (body116 (onP 0 p0 (en116r n f a m g i) L)) (st116 n f a m g 0 (jk116 n f a m g )))]) (by kernel_rfl) (by simp only [hp0] <;> rfl)

theorem run116 (L : Nat → (St → T (Ex × St)) → St → T (Ex × St)) (n : Nat) (f : Nat → Int) (a : Nat) (g : Nat → Int) (hn : n ≤ 4611686018427387904) (ha : a < n) : ∀ (d i : Nat) (j : Nat → V) (q : Nat), n = i + d → d < q →
    (iterT (body116 L) (lp116 n f a n g) q (st116 n f a n g i j)).sem = some (match sameD n f a g d i with | true => en116e n f a n g 0 | false => en116r n f a n g 0)
  | 0, i, j, q + 1, h1, _ => by
    have : n = i := by omega
    subst this
    exact iter_round (rc116e L n f a n g n j (ofNat_ge (Nat.le_refl _)))
  | d + 1, i, j, q + 1, h1, h2 => by
    have hi : i < n := by omega
    obtain ⟨e1, l1⟩ := at113 n a i ha hn hi
    unfold sameD
    by_cases he : f ((a + i) % n) = g i
    · have hq : ieq (f (toN (itmod (wr IntKind.i64 (iadd (Int.ofNat a) (Int.ofNat i))) (Int.ofNat n)))) (g i) = true := by
        rw [e1]
        show ieq (f ((a + i) % n)) (g i) = true
        rw [he]
        exact ieq_rfl _
      rw [if_pos he, iter_round (rc116n L n f a n g i j (ofNat_lt hi) (nz113 n i hi) (in113 n a i ha hn hi) (ile_0 i) (ofNat_lt hi) hq), goOn_nm, succ_wr hi hn]
      exact run116 L n f a g hn ha d (i + 1) (fun _ => .und) q (by omega) (by omega)
    · have hq : ieq (f (toN (itmod (wr IntKind.i64 (iadd (Int.ofNat a) (Int.ofNat i))) (Int.ofNat n)))) (g i) = false := by
        rw [e1]
        show ieq (f ((a + i) % n)) (g i) = false
        simp [ieq, he]
      rw [if_neg he]
      exact iter_round (rc116r L n f a n g i j (ofNat_lt hi) (nz113 n i hi) (in113 n a i ha hn hi) (ile_0 i) (ofNat_lt hi) hq)

def sameKT : List V → T (V × List Blk)
  | [v, .val (.int .i64 a), u] => apI v fun n f => apI u fun m g => .br (fit8 n) (.br (nbeq n m) (.br (inN n a) (out (bV (sameK n f (toN a) g))) .fail) .fail) .fail
  | _ => .fail

theorem p116 : PureC Tryz.prog Gl 101 sameKT := by
  refine pureC_intro tabOK mixed Tryz.func101 (by kernel_rfl) (by kernel_rfl) fun vs v h' hh => ?_
  unfold sameKT at hh
  split at hh
  · rename_i u a u2
    obtain ⟨n, f, hv, h1⟩ := apI_some hh
    obtain ⟨m, g, hv2, h2⟩ := apI_some h1
    obtain ⟨h8, h3⟩ := sem_br_fail h2
    obtain ⟨hnm, h4⟩ := sem_br_fail h3
    obtain ⟨ha, h5⟩ := sem_br_fail h4
    have := sem_leaf h5
    simp only [Prod.mk.injEq] at this
    obtain ⟨rfl, rfl⟩ := this
    have hnm : n = m := Nat.eq_of_beq_eq_true hnm
    subst hnm
    obtain ⟨ea, la⟩ := inN_some ha
    have hA : ArgLE [u, iV a, u2] [intsV n f, iV (Int.ofNat (toN a)), intsV n g] := fun S w cs q => by
      rw [← ea]
      obtain ⟨c, l, rfl, q1, c2, l2, rfl, q2, c3, l3, rfl, q3, q4⟩ := q
      exact ⟨c, _, rfl, hv S w c q1, c2, _, rfl, q2, c3, _, rfl, hv2 S w c3 q3, q4⟩
    have hx := cx_ok tb0_ok [(0, lp116 n f (toN a) n g)]
    have hL := loopsBy_le [(0, lp116 n f (toN a) n g)]
    have hr := fun L => run116 L n f (toN a) g (fit8_small h8) la n 0 (jk116 n f (toN a) n g) (n + 1) (by omega) (by omega)
    refine ⟨_, cxOf Gl tb0 [(0, lp116 n f (toN a) n g)], _, hA, rfl, hx.1, hx.2, ?_, RowsLE.refl _⟩
    unfold sameK
    cases hc : sameD n f (toN a) g n 0 with
    | true =>
      rw [hc] at hr
      exact told_le (onP_le hL hL) _ (wc116e _ _ n f (toN a) n g 0 (isP_true (hr _)))
    | false =>
      rw [hc] at hr
      exact told_le (onP_le hL hL) _ (wc116r _ _ n f (toN a) n g 0 (isP_true (hr _)))
  · cases hh

noncomputable def tb106 : List (Nat × (List V → T (V × List Blk))) := (101, sameKT) :: []
theorem tb106_ok : AllPure Tryz.prog Gl tb106 := .cons p116 .nil

def lp106 (n : Nat) (f : Nat → Int) (m : Nat) (g : Nat → Int) : Lp := ⟨[true, true, false, false, true, true, false, false, false, false, false, false, false, false, false, false, false, false, false, false, false, false, false, false], 0, [false, false, false, false, true, false, false, false, false, false, false, false, false, false, false, false, false, false, false, false, false, false, false, false], 0, n + 1⟩
def st106 (n : Nat) (f : Nat → Int) (m : Nat) (g : Nat → Int) (i : Nat) (j : Nat → V) : St := ⟨[.sl 1 n fun k => iV (f k), .sl 1 m fun k => iV (g k), j 2, j 3, bV false, iV (Int.ofNat i), j 6, j 7, j 8, j 9, j 10, j 11, j 12, j 13, j 14, j 15, j 16, j 17, j 18, j 19, j 20, j 21, j 22, j 23], []⟩
def en106r (n : Nat) (f : Nat → Int) (m : Nat) (g : Nat → Int) (i : Nat) : Ex × St := (.rt, ⟨[.und, .und, .und, .und, bV true, .und, .und, .und, .und, .und, .und, .und, .und, .und, .und, .und, .und, .und, .und, .und, .und, .und, .und, .und], []⟩)
def en106e (n : Nat) (f : Nat → Int) (m : Nat) (g : Nat → Int) (i : Nat) : Ex × St := (.ex 0, ⟨[.und, .und, .und, .und, bV false, .und, .und, .und, .und, .und, .und, .und, .und, .und, .und, .und, .und, .und, .und, .und, .und, .und, .und, .und], []⟩)
noncomputable def body106 (L : Nat → (St → T (Ex × St)) → St → T (Ex × St)) : St → T (Ex × St) := fun st => evalC tab ⟨callT tb106, L, Gl⟩ (loopBody Tryz.f89 0) 0 st
theorem rc106e (L : Nat → (St → T (Ex × St)) → St → T (Ex × St)) (n : Nat) (f : Nat → Int) (m : Nat) (g : Nat → Int) (i : Nat)  (j : Nat → V) (h0 : ilt (Int.ofNat i) (Int.ofNat n) = false) : ((body106 L (st106 n f m g i j)).bind fun r => T.leaf (cutR (lp106 n f m g) r)).sem = some ((.ex 0), ⟨[.und, .und, .und, .und, (bV Bool.false), .und, .und, .und, .und, .und, .und, .und, .und, .und, .und, .und, .und, .und, .und, .und, .und, .und, .und, .und], []⟩) := by
  exact sem_of_path (ds := [false]) (cs := [(ilt (Int.ofNat i) (Int.ofNat n))]) (by kernel_rfl) (by simp only [h0] <;> rfl)
theorem rc106n (L : Nat → (St → T (Ex × St)) → St → T (Ex × St)) (n : Nat) (f : Nat → Int) (m : Nat) (g : Nat → Int) (i : Nat)  (j : Nat → V) (h0 : ilt (Int.ofNat i) (Int.ofNat n) = true) (h18 : fit8 n = true) (h19 : nbeq n m = true) (h20 : inN n (Int.ofNat i) = true) (h1 : sameK n f i g = false) : ((body106 L (st106 n f m g i j)).bind fun r => T.leaf (cutR (lp106 n f m g) r)).sem = some (.nm, ⟨[(.sl 1 n (fun k => (iV (f k)))), (.sl 1 m (fun k => (iV (g k)))), .und, .und, (bV Bool.false), (iV (wr IntKind.i64 (iadd (Int.ofNat i) 1))), .und, .und, .und, .und, .und, .und, .und, .und, .und, .und, .und, .und, .und, .und, .und, .und, .und, .und], []⟩) := by
  exact sem_of_path (ds := [true, true, true, true, true, true, false]) (cs := [(ilt (Int.ofNat i) (Int.ofNat n)), (allN n (fun _ => Bool.true)), (allN m (fun _ => Bool.true)), (fit8 n), (nbeq n m), (inN n (Int.ofNat i)), (sameK n f i g)]) (by kernel_rfl) (by simp only [h0, h18, h19, h20, h1, allN_true] <;> rfl)
theorem rc106r (L : Nat → (St → T (Ex × St)) → St → T (Ex × St)) (n : Nat) (f : Nat → Int) (m : Nat) (g : Nat → Int) (i : Nat)  (j : Nat → V) (h0 : ilt (Int.ofNat i) (Int.ofNat n) = true) (h18 : fit8 n = true) (h19 : nbeq n m = true) (h20 : inN n (Int.ofNat i) = true) (h1 : sameK n f i g = true) : ((body106 L (st106 n f m g i j)).bind fun r => T.leaf (cutR (lp106 n f m g) r)).sem = some (.rt, ⟨[.und, .und, .und, .und, (bV Bool.true), .und, .und, .und, .und, .und, .und, .und, .und, .und, .und, .und, .und, .und, .und, .und, .und, .und, .und, .und], []⟩) := by
  exact sem_of_path (ds := [true, true, true, true, true, true, true]) (cs := [(ilt (Int.ofNat i) (Int.ofNat n)), (allN n (fun _ => Bool.true)), (allN m (fun _ => Bool.true)), (fit8 n), (nbeq n m), (inN n (Int.ofNat i)), (sameK n f i g)]) (by kernel_rfl) (by simp only [h0, h18, h19, h20, h1, allN_true] <;> rfl)
def jk106 (n : Nat) (f : Nat → Int) (m : Nat) (g : Nat → Int)  : Nat → V
  | 6 => (.sl 1 n (fun i => (iV (f i))))
  | 7 => (iV (Int.ofNat n))
  | 8 => (.sl 1 m (fun i => (iV (g i))))
  | 9 => (iV (Int.ofNat m))
  | 10 => (bV (bnot (ieq (Int.ofNat n) (Int.ofNat m))))
  | 11 => (.sl 1 n (fun i => (iV (f i))))
  | 12 => (iV (Int.ofNat n))
  | 13 => (bV (ieq (Int.ofNat n) 0))
  | _ => undefV

theorem wc106e (L : Nat → (St → T (Ex × St)) → St → T (Ex × St)) (p0 : (St → T (Ex × St)) → St → Bool) (n : Nat) (f : Nat → Int) (m : Nat) (g : Nat → Int) (i : Nat) (h0 : ieq (Int.ofNat n) (Int.ofNat m) = true) (h1 : ieq (Int.ofNat n) 0 = false) (hp0 : p0 (body106 (onP 0 p0 (en106e n f m g i) L)) (st106 n f m g 0 (jk106 n f m g )) = true) : (finF (evalF tab ⟨callT tb106, (onP 0 p0 (en106e n f m g i) L), Gl⟩ Tryz.f89 [intsV n f, intsV m g] [])).sem = some ((bV Bool.false), []) := by
  exact sem_of_path (ds := [false, false, true]) (cs := [(bnot (ieq (Int.ofNat n) (Int.ofNat m))), (ieq (Int.ofNat n) 0), (p0 (body106 (onP 0 p0 (en106e n f m g i) L)) (st106 n f m g 0 (jk106 n f m g )))]) (by kernel_rfl) (by simp only [hp0] <;> simp only [h0, h1] <;> rfl)

theorem wc106r (L : Nat → (St → T (Ex × St)) → St → T (Ex × St)) (p0 : (St → T (Ex × St)) → St → Bool) (n : Nat) (f : Nat → Int) (m : Nat) (g : Nat → Int) (i : Nat) (h0 : ieq (Int.ofNat n) (Int.ofNat m) = true) (h1 : ieq (Int.ofNat n) 0 = false) (hp0 : p0 (body106 (onP 0 p0 (en106r n f m g i) L)) (st106 n f m g 0 (jk106 n f m g )) = true) : (finF (evalF tab ⟨callT tb106, (onP 0 p0 (en106r n f m g i) L), Gl⟩ Tryz.f89 [intsV n f, intsV m g] [])).sem = some ((bV Bool.true), []) := by
  exact sem_of_path (ds := [false, false, true]) (cs := [(bnot (ieq (Int.ofNat n) (Int.ofNat m))), (ieq (Int.ofNat n) 0), (p0 (body106 (onP 0 p0 (en106r n f m g i) L)) (st106 n f m g 0 (jk106 n f m g )))]) (by kernel_rfl) (by simp only [hp0] <;> simp only [h0, h1] <;> rfl)

theorem wc106a (L : Nat → (St → T (Ex × St)) → St → T (Ex × St)) (n : Nat) (f : Nat → Int) (m : Nat) (g : Nat → Int) (h0 : ieq (Int.ofNat n) (Int.ofNat m) = false) : (finF (evalF tab ⟨callT tb106, L, Gl⟩ Tryz.f89 [intsV n f, intsV m g] [])).sem = some ((bV Bool.false), []) := by
  exact sem_of_path (ds := [true]) (cs := [(bnot (ieq (Int.ofNat n) (Int.ofNat m)))]) (by kernel_rfl) (by simp only [h0] <;> rfl)

theorem wc106b (L : Nat → (St → T (Ex × St)) → St → T (Ex × St)) (n : Nat) (f : Nat → Int) (m : Nat) (g : Nat → Int) (h0 : ieq (Int.ofNat n) (Int.ofNat m) = true) (h1 : ieq (Int.ofNat n) 0 = true) : (finF (evalF tab ⟨callT tb106, L, Gl⟩ Tryz.f89 [intsV n f, intsV m g] [])).sem = some ((bV Bool.true), []) := by
  exact sem_of_path (ds := [false, true]) (cs := [(bnot (ieq (Int.ofNat n) (Int.ofNat m))), (ieq (Int.ofNat n) 0)]) (by kernel_rfl) (by simp only [h0, h1] <;> rfl)

theorem run106 (L : Nat → (St → T (Ex × St)) → St → T (Ex × St)) (n : Nat) (f g : Nat → Int) (h8 : fit8 n = true) : ∀ (d i : Nat) (j : Nat → V) (q : Nat), n = i + d → d < q →
    (iterT (body106 L) (lp106 n f n g) q (st106 n f n g i j)).sem = some (match sameG n f g d i with | true => en106r n f n g 0 | false => en106e n f n g 0)
  | 0, i, j, q + 1, h1, _ => by
    have : n = i := by omega
    subst this
    exact iter_round (rc106e L n f n g n j (ofNat_ge (Nat.le_refl _)))
  | d + 1, i, j, q + 1, h1, h2 => by
    have hi : i < n := by omega
    unfold sameG
    cases ha : sameK n f i g with
    | true =>
      rw [if_pos rfl]
      exact iter_round (rc106r L n f n g i j (ofNat_lt hi) h8 (Nat.beq_refl n) (inN_nat hi) ha)
    | false =>
      rw [if_neg (by decide), iter_round (rc106n L n f n g i j (ofNat_lt hi) h8 (Nat.beq_refl n) (inN_nat hi) ha), goOn_nm, succ_wr hi (fit8_small h8)]
      exact run106 L n f g h8 d (i + 1) (fun _ => .und) q (by omega) (by omega)

def sameRT : List V → T (V × List Blk) := apI2 fun n f m g => .br (fit8 n) (.br (fit8 m) (out (bV (sameR n f m g))) .fail) .fail

theorem p106 : PureC Tryz.prog Gl 89 sameRT := by
  refine pureC_intro tabOK mixed Tryz.func89 (by kernel_rfl) (by kernel_rfl) fun vs v h' hh => ?_
  obtain ⟨n, f, m, g, ha, h1⟩ := apI2_some hh
  obtain ⟨h8, h2⟩ := sem_br_fail h1
  obtain ⟨_, h3⟩ := sem_br_fail h2
  have := sem_leaf h3
  simp only [Prod.mk.injEq] at this
  obtain ⟨rfl, rfl⟩ := this
  have hx := cx_ok tb106_ok [(0, lp106 n f m g)]
  have hL := loopsBy_le [(0, lp106 n f m g)]
  refine ⟨_, cxOf Gl tb106 [(0, lp106 n f m g)], _, ha, rfl, hx.1, hx.2, ?_, RowsLE.refl _⟩
  unfold sameR
  by_cases h : n = m
  · subst h
    have hq : ieq (Int.ofNat n) (Int.ofNat n) = true := ieq_rfl _
    rw [if_pos rfl]
    by_cases h0 : n = 0
    · rw [if_pos h0]
      subst h0
      exact wc106b _ 0 f 0 g rfl rfl
    · rw [if_neg h0]
      have hr := fun L => run106 L n f g h8 n 0 (jk106 n f n g) (n + 1) (by omega) (by omega)
      have hz : ieq (Int.ofNat n) 0 = false := nz113 n 0 (by omega)
      cases hc : sameG n f g n 0 with
      | true =>
        rw [hc] at hr
        exact told_le (onP_le hL hL) _ (wc106r _ _ n f n g 0 hq hz (isP_true (hr _)))
      | false =>
        rw [hc] at hr
        exact told_le (onP_le hL hL) _ (wc106e _ _ n f n g 0 hq hz (isP_true (hr _)))
  · rw [if_neg h]
    exact wc106a _ n f m g (by rw [ieq_nat, decide_eq_false h])

/-! ### Codes, Canon, Same: the document's -/

noncomputable def tb103 : List (Nat × (List V → T (V × List Blk))) := (67, edgeT codeP) :: []
theorem tb103_ok : AllPure Tryz.prog Gl tb103 := .cons p25 .nil

def en103f (n : Nat) (f : Nat → E6) (k : Nat) (x : Nat → V) : Ex × St := (.rt, ⟨[.und, .und, .ref 2, bV false, .ref 1, .und, .und, .und, .und, .und, .und, .und, .und, .und, .und, .und, .und, .und, .und, .und, .und, .und, .und, .und, .und, .und, .und, .und, .und, .und, .und], [.row 3 1 0 fun _ => .und, .row 3 1 k x, .row 3 1 0 fun _ => .und]⟩)
def lp103 (n : Nat) (f : Nat → E6) : Lp := ⟨[true, false, true, true, true, true, false, false, false, false, false, false, false, false, false, false, false, false, false, false, false, false, false, false, false, false, false, false, false, false, false], 2, [false, false, true, true, true, false, false, false, false, false, false, false, false, false, false, false, false, false, false, false, false, false, false, false, false, false, false, false, false, false, false], 3, n + 1⟩
def st103 (n : Nat) (f : Nat → E6) (i k : Nat) (x : Nat → V) (j : Nat → V) : St := ⟨[.sl 6 n fun i => eV (f i), j 1, .ref 0, bV false, .ref 1, iV (Int.ofNat i), j 6, j 7, j 8, j 9, j 10, j 11, j 12, j 13, j 14, j 15, j 16, j 17, j 18, j 19, j 20, j 21, j 22, j 23, j 24, j 25, j 26, j 27, j 28, j 29, j 30], [.row 3 1 0 fun _ => .und, .row 3 1 k x]⟩
def en103e (n : Nat) (f : Nat → E6) (i k : Nat) (x : Nat → V) : Ex × St := (.ex 0, ⟨[.und, .und, .ref 0, bV false, .ref 1, .und, .und, .und, .und, .und, .und, .und, .und, .und, .und, .und, .und, .und, .und, .und, .und, .und, .und, .und, .und, .und, .und, .und, .und, .und, .und], [.row 3 1 0 fun _ => .und, .row 3 1 k x]⟩)
noncomputable def body103 (L : Nat → (St → T (Ex × St)) → St → T (Ex × St)) : St → T (Ex × St) := fun st => evalC tab ⟨callT tb103, L, Gl⟩ (loopBody Tryz.f71 0) 0 st
theorem rc103e (L : Nat → (St → T (Ex × St)) → St → T (Ex × St)) (n : Nat) (f : Nat → E6) (i k : Nat) (x : Nat → V)  (j : Nat → V) (h0 : ilt (Int.ofNat i) (Int.ofNat n) = false) : ((body103 L (st103 n f i k x j)).bind fun r => T.leaf (cutR (lp103 n f) r)).sem = some ((.ex 0), ⟨[.und, .und, (.ref 0), (bV Bool.false), (.ref 1), .und, .und, .und, .und, .und, .und, .und, .und, .und, .und, .und, .und, .und, .und, .und, .und, .und, .und, .und, .und, .und, .und, .und, .und, .und, .und], [(.row 3 1 0 (fun _ => .und)), (.row 3 1 k x)]⟩) := by
  exact sem_of_path (ds := [false]) (cs := [(ilt (Int.ofNat i) (Int.ofNat n))]) (by kernel_rfl) (by simp only [h0] <;> rfl)
theorem rc103n (L : Nat → (St → T (Ex × St)) → St → T (Ex × St)) (n : Nat) (f : Nat → E6) (i k : Nat) (x : Nat → V)  (j : Nat → V) (h0 : ilt (Int.ofNat i) (Int.ofNat n) = true) (h20 : ile 0 (Int.ofNat i) = true) (h1 : ieq (codeF (f i)) 0 = true) (h21 : apOK k 1 8 = true) : ((body103 L (st103 n f i k x j)).bind fun r => T.leaf (cutR (lp103 n f) r)).sem = some (.nm, ⟨[(.sl 6 n (fun i => (eV (f i)))), .und, (.ref 0), (bV Bool.false), (.ref 1), (iV (wr IntKind.i64 (iadd (Int.ofNat i) 1))), .und, .und, .und, .und, .und, .und, .und, .und, .und, .und, .und, .und, .und, .und, .und, .und, .und, .und, .und, .und, .und, .und, .und, .und, .und], [(.row 3 1 0 (fun _ => .und)), (.row 3 1 (nadd k 1) (pushGet k x (iV (codeN (f i)))))]⟩) := by
  exact sem_of_path (ds := [true, true, false, true]) (cs := [(ilt (Int.ofNat i) (Int.ofNat n)), (band (ile 0 (Int.ofNat i)) (ilt (Int.ofNat i) (Int.ofNat n))), (bnot (ieq (codeF (f i)) 0)), (apOK k 1 8)]) (by kernel_rfl) (by simp only [h0, h20, h1, h21] <;> rfl)
theorem rc103f (L : Nat → (St → T (Ex × St)) → St → T (Ex × St)) (n : Nat) (f : Nat → E6) (i k : Nat) (x : Nat → V)  (j : Nat → V) (h0 : ilt (Int.ofNat i) (Int.ofNat n) = true) (h20 : ile 0 (Int.ofNat i) = true) (h1 : ieq (codeF (f i)) 0 = false) : ((body103 L (st103 n f i k x j)).bind fun r => T.leaf (cutR (lp103 n f) r)).sem = some (.rt, ⟨[.und, .und, (.ref 2), (bV Bool.false), (.ref 1), .und, .und, .und, .und, .und, .und, .und, .und, .und, .und, .und, .und, .und, .und, .und, .und, .und, .und, .und, .und, .und, .und, .und, .und, .und, .und], [(.row 3 1 0 (fun _ => .und)), (.row 3 1 k x), (.row 3 1 0 (fun _ => .und))]⟩) := by
  exact sem_of_path (ds := [true, true, true]) (cs := [(ilt (Int.ofNat i) (Int.ofNat n)), (band (ile 0 (Int.ofNat i)) (ilt (Int.ofNat i) (Int.ofNat n))), (bnot (ieq (codeF (f i)) 0))]) (by kernel_rfl) (by simp only [h0, h20, h1] <;> rfl)
def jk103 (n : Nat) (f : Nat → E6)  : Nat → V
  | _ => undefV

theorem wc103e (L : Nat → (St → T (Ex × St)) → St → T (Ex × St)) (p0 : (St → T (Ex × St)) → St → Bool) (n : Nat) (f : Nat → E6) (i k : Nat) (x : Nat → V)  (hp0 : p0 (body103 (onP 0 p0 (en103e n f i k x) L)) (st103 n f 0 0 (fun _ => .und) (jk103 n f )) = true) : (finF (evalF tab ⟨callT tb103, (onP 0 p0 (en103e n f i k x) L), Gl⟩ Tryz.f71 [edgesV n f] [])).sem = some ((.tup [(.ref 0), (bV Bool.true)]), [(.row 3 1 k x)]) := by
  exact sem_of_path (ds := [true]) (cs := [(p0 (body103 (onP 0 p0 (en103e n f i k x) L)) (st103 n f 0 0 (fun _ => .und) (jk103 n f )))]) (by kernel_rfl) (by simp only [hp0] <;> rfl)

theorem wc103f (L : Nat → (St → T (Ex × St)) → St → T (Ex × St)) (p0 : (St → T (Ex × St)) → St → Bool) (n : Nat) (f : Nat → E6) (k : Nat) (x : Nat → V)  (hp0 : p0 (body103 (onP 0 p0 (en103f n f k x) L)) (st103 n f 0 0 (fun _ => .und) (jk103 n f )) = true) : (finF (evalF tab ⟨callT tb103, (onP 0 p0 (en103f n f k x) L), Gl⟩ Tryz.f71 [edgesV n f] [])).sem = some ((.tup [(.ref 0), (bV Bool.false)]), [(.row 3 1 0 (fun _ => .und))]) := by
  exact sem_of_path (ds := [true]) (cs := [(p0 (body103 (onP 0 p0 (en103f n f k x) L)) (st103 n f 0 0 (fun _ => .und) (jk103 n f )))]) (by kernel_rfl) (by simp only [hp0] <;> rfl)

theorem run103f (L : Nat → (St → T (Ex × St)) → St → T (Ex × St)) (n : Nat) (f : Nat → E6) (hn : fitN n = true) (e : Nat) (he : e < n) (hb : codeF (f e) = 30) (ho : ∀ t, t < e → codeF (f t) = 0) : ∀ (d i : Nat) (j : Nat → V) (q : Nat), e = i + d → d < q →
    (iterT (body103 L) (lp103 n f) q (st103 n f i i (pushN (cdV f) i) j)).sem = some (en103f n f e (pushN (cdV f) e))
  | 0, i, j, q + 1, h1, _ => by
    have : e = i := by omega
    subst this
    exact iter_round (rc103f L n f e e (pushN (cdV f) e) j (ofNat_lt he) (ile_0 e) (by rw [hb]; rfl))
  | d + 1, i, j, q + 1, h1, h2 => by
    have hi : i < n := by omega
    have hr := rc103n L n f i i (pushN (cdV f) i) j (ofNat_lt hi) (ile_0 i) (by rw [ho i (by omega)]; rfl) (ap_fit hi (by decide) (of_decide_eq_true hn))
    rw [iter_round hr, goOn_nm, succ_wr hi (fit_small hn)]
    exact run103f L n f hn e he hb ho d (i + 1) (fun _ => .und) q (by omega) (by omega)

theorem run103 (L : Nat → (St → T (Ex × St)) → St → T (Ex × St)) (n : Nat) (f : Nat → E6) (hn : fitN n = true) : ∀ (d i : Nat) (j : Nat → V) (q : Nat), n = i + d → d < q → (∀ t, t < i → codeF (f t) = 0) →
    (mayN n f = true ∧ (iterT (body103 L) (lp103 n f) q (st103 n f i i (pushN (cdV f) i) j)).sem = some (en103e n f n n (pushN (cdV f) n))) ∨ (mayN n f = false ∧ ∃ e, (iterT (body103 L) (lp103 n f) q (st103 n f i i (pushN (cdV f) i) j)).sem = some (en103f n f e (pushN (cdV f) e)))
  | 0, i, j, q + 1, h1, _, ho => by
    have : n = i := by omega
    subst this
    exact .inl ⟨mayN_iff.2 ho, iter_round (rc103e L n f n n _ j (ofNat_ge (Nat.le_refl _)))⟩
  | d + 1, i, j, q + 1, h1, h2, ho => by
    have hi : i < n := by omega
    by_cases hc : codeF (f i) = 0
    · have hr := rc103n L n f i i (pushN (cdV f) i) j (ofNat_lt hi) (ile_0 i) (by rw [hc]; rfl) (ap_fit hi (by decide) (of_decide_eq_true hn))
      have ih := run103 L n f hn d (i + 1) (fun _ => .und) q (by omega) (by omega) fun t ht => by
        by_cases hti : t = i
        · rw [hti]; exact hc
        · exact ho t (by omega)
      rw [iter_round hr, goOn_nm, succ_wr hi (fit_small hn)]
      exact ih
    · refine .inr ⟨?_, i, iter_round (rc103f L n f i i (pushN (cdV f) i) j (ofNat_lt hi) (ile_0 i) (by simp [ieq, hc]))⟩
      cases hm : mayN n f with
      | false => rfl
      | true => exact absurd (mayN_iff.1 hm i hi) hc

def codes3T : List V → T (V × List Blk) := apL1 fun n f => .br (fitN n) (.br (mayN n f) (.leaf (.tup [.ref 0, bV true], [.row 3 1 n fun i => iV (codeN (f i))])) (.leaf (.tup [.ref 0, bV false], [.row 3 1 0 fun _ => .und]))) .fail

theorem p103 : PureC Tryz.prog Gl 71 codes3T := by
  refine pureC_intro tabOK mixed Tryz.func71 (by kernel_rfl) (by kernel_rfl) fun vs v h' h => ?_
  obtain ⟨n, f, ha, h⟩ := apL1_some h
  obtain ⟨hn, h⟩ := sem_br_fail h
  have hx := cx_ok tb103_ok [(0, lp103 n f)]
  have hL := loopsBy_le [(0, lp103 n f)]
  have hr := fun L => run103 L n f hn n 0 (jk103 n f) (n + 1) (by omega) (by omega) fun t ht => absurd ht (Nat.not_lt_zero _)
  cases hm : mayN n f with
  | true =>
    rw [hm] at h
    have := sem_leaf h
    simp only [Prod.mk.injEq] at this
    obtain ⟨rfl, rfl⟩ := this
    exact ⟨_, cxOf Gl tb103 [(0, lp103 n f)], _, ha, rfl, hx.1, hx.2, told_le (onP_le hL hL) _ (wc103e _ _ n f n n _ (isP_true ((hr _).elim (fun q => q.2) fun q => by rw [hm] at q; cases q.1))), RowsLE.one fun j hj => (pushN_eq (cdV f) n j hj).symm⟩
  | false =>
    rw [hm] at h
    have := sem_leaf h
    simp only [Prod.mk.injEq] at this
    obtain ⟨rfl, rfl⟩ := this
    obtain ⟨e, h1, h2, h3⟩ := may_no hm
    exact ⟨_, cxOf Gl tb103 [(0, lp103 n f)], _, ha, rfl, hx.1, hx.2, told_le (onP_le hL hL) _ (wc103f _ _ n f e (pushN (cdV f) e) (isP_true (run103f _ n f hn e h1 h2 h3 e 0 (jk103 n f) (n + 1) (by omega) (by omega)))), RowsLE.refl _⟩

noncomputable def tb66 : List (Nat × (List V → T (V × List Blk))) := (71, codes3T) :: (73, refLT) :: (72, turnedT) :: []
theorem tb66_ok : AllPure Tryz.prog Gl tb66 := .cons p103 <| .cons p104 <| .cons p69 .nil

theorem wc66y (L : Nat → (St → T (Ex × St)) → St → T (Ex × St)) (n : Nat) (f : Nat → E6) (h19 : fitN n = true) (h0 : mayN n f = true) (h20 : fit8 n = true) : (finF (evalF tab ⟨callT tb66, L, Gl⟩ Tryz.f37 [edgesV n f] [])).sem = some ((.tup [(.ref 0), (iV 0)]), [(.row 38 6 n (fun i => (eV (turnE n f (Int.ofNat (refL n (fun i => (codeN (f i))))) i))))]) := by
  exact sem_of_path (ds := [true, true, true, false, true, true, true, true]) (cs := [(allN n (fun _ => Bool.true)), (fitN n), (mayN n f), (bnot Bool.true), (allN n (fun _ => Bool.true)), (fit8 n), (allN n (fun _ => Bool.true)), (fitN n)]) (by kernel_rfl) (by simp only [h19, h0, h20, allN_true] <;> rfl)

theorem wc66n (L : Nat → (St → T (Ex × St)) → St → T (Ex × St)) (n : Nat) (f : Nat → E6) (h19 : fitN n = true) (h0 : mayN n f = false) : (finF (evalF tab ⟨callT tb66, L, Gl⟩ Tryz.f37 [edgesV n f] [])).sem = some ((.tup [(.ref 0), (iV 30)]), [(.row 38 6 0 (fun _ => .und))]) := by
  exact sem_of_path (ds := [true, true, false, true]) (cs := [(allN n (fun _ => Bool.true)), (fitN n), (mayN n f), (bnot Bool.false)]) (by kernel_rfl) (by simp only [h19, h0, allN_true] <;> rfl)

def refCanT : List V → T (V × List Blk) := apL1 fun n f => .br (fitN n) (.br (mayN n f) (.leaf (.tup [.ref 0, iV 0], [.row 38 6 n fun i => eV (turnE n f (Int.ofNat (refL n fun k => codeN (f k))) i)])) (.leaf (.tup [.ref 0, iV 30], [.row 38 6 0 fun _ => .und]))) .fail

theorem p66 : PureC Tryz.prog Gl 37 refCanT := by
  refine pureC_intro tabOK mixed Tryz.func37 (by kernel_rfl) (by kernel_rfl) fun vs v h' h => ?_
  obtain ⟨n, f, ha, h⟩ := apL1_some h
  obtain ⟨hn, h⟩ := sem_br_fail h
  have hx := cx_ok tb66_ok []
  cases hm : mayN n f with
  | true =>
    rw [hm] at h
    have := sem_leaf h
    simp only [Prod.mk.injEq] at this
    obtain ⟨rfl, rfl⟩ := this
    exact ⟨_, cxOf Gl tb66 [], _, ha, rfl, hx.1, hx.2, wc66y _ n f hn hm (fitN_8 hn), RowsLE.refl _⟩
  | false =>
    rw [hm] at h
    have := sem_leaf h
    simp only [Prod.mk.injEq] at this
    obtain ⟨rfl, rfl⟩ := this
    exact ⟨_, cxOf Gl tb66 [], _, ha, rfl, hx.1, hx.2, wc66n _ n f hn hm, RowsLE.refl _⟩

noncomputable def tb68 : List (Nat × (List V → T (V × List Blk))) := (71, codes3T) :: (89, sameRT) :: []
theorem tb68_ok : AllPure Tryz.prog Gl tb68 := .cons p103 <| .cons p106 .nil

theorem wc68yy (L : Nat → (St → T (Ex × St)) → St → T (Ex × St)) (n : Nat) (f : Nat → E6) (m : Nat) (g : Nat → E6) (h20 : fitN n = true) (h0 : mayN n f = true) (h21 : fitN m = true) (h1 : mayN m g = true) (h22 : fit8 n = true) (h23 : fit8 m = true) : (finF (evalF tab ⟨callT tb68, L, Gl⟩ Tryz.f75 [edgesV n f, edgesV m g] [])).sem = some ((.tup [(bV (sameR n (fun i => (codeN (f i))) m (fun i => (codeN (g i))))), (iV 0)]), []) := by
  exact sem_of_path (ds := [true, true, true, true, true, true, false, false, false, false, true, true, true, true]) (cs := [(allN n (fun _ => Bool.true)), (fitN n), (mayN n f), (allN m (fun _ => Bool.true)), (fitN m), (mayN m g), (bnot Bool.true), (bnot Bool.true), (bnot Bool.true), (bnot Bool.true), (allN n (fun _ => Bool.true)), (allN m (fun _ => Bool.true)), (fit8 n), (fit8 m)]) (by kernel_rfl) (by simp only [h20, h0, h21, h1, h22, h23, allN_true] <;> rfl)

theorem wc68yn (L : Nat → (St → T (Ex × St)) → St → T (Ex × St)) (n : Nat) (f : Nat → E6) (m : Nat) (g : Nat → E6) (h20 : fitN n = true) (h0 : mayN n f = true) (h21 : fitN m = true) (h1 : mayN m g = false) : (finF (evalF tab ⟨callT tb68, L, Gl⟩ Tryz.f75 [edgesV n f, edgesV m g] [])).sem = some ((.tup [(bV Bool.false), (iV 30)]), []) := by
  exact sem_of_path (ds := [true, true, true, true, true, false, false, false, false, true]) (cs := [(allN n (fun _ => Bool.true)), (fitN n), (mayN n f), (allN m (fun _ => Bool.true)), (fitN m), (mayN m g), (bnot Bool.true), (bnot Bool.true), (bnot Bool.true), (bnot Bool.false)]) (by kernel_rfl) (by simp only [h20, h0, h21, h1, allN_true] <;> rfl)

theorem wc68ny (L : Nat → (St → T (Ex × St)) → St → T (Ex × St)) (n : Nat) (f : Nat → E6) (m : Nat) (g : Nat → E6) (h20 : fitN n = true) (h0 : mayN n f = false) (h21 : fitN m = true) (h1 : mayN m g = true) : (finF (evalF tab ⟨callT tb68, L, Gl⟩ Tryz.f75 [edgesV n f, edgesV m g] [])).sem = some ((.tup [(bV Bool.false), (iV 30)]), []) := by
  exact sem_of_path (ds := [true, true, false, true, true, true, true, true, true, true]) (cs := [(allN n (fun _ => Bool.true)), (fitN n), (mayN n f), (allN m (fun _ => Bool.true)), (fitN m), (mayN m g), (bnot Bool.false), (bnot Bool.false), (bnot Bool.false), Bool.true]) (by kernel_rfl) (by simp only [h20, h0, h21, h1, allN_true] <;> rfl)

theorem wc68nn (L : Nat → (St → T (Ex × St)) → St → T (Ex × St)) (n : Nat) (f : Nat → E6) (m : Nat) (g : Nat → E6) (h20 : fitN n = true) (h0 : mayN n f = false) (h21 : fitN m = true) (h1 : mayN m g = false) : (finF (evalF tab ⟨callT tb68, L, Gl⟩ Tryz.f75 [edgesV n f, edgesV m g] [])).sem = some ((.tup [(bV Bool.false), (iV 30)]), []) := by
  exact sem_of_path (ds := [true, true, false, true, true, false, true, true, true, true]) (cs := [(allN n (fun _ => Bool.true)), (fitN n), (mayN n f), (allN m (fun _ => Bool.true)), (fitN m), (mayN m g), (bnot Bool.false), (bnot Bool.false), (bnot Bool.false), Bool.true]) (by kernel_rfl) (by simp only [h20, h0, h21, h1, allN_true] <;> rfl)

def refSameT : List V → T (V × List Blk) := apL2 fun n f m g => .br (fitN n) (.br (fitN m) (.br (band (mayN n f) (mayN m g)) (out (.tup [bV (sameR n (fun k => codeN (f k)) m fun k => codeN (g k)), iV 0])) (out (.tup [bV false, iV 30]))) .fail) .fail

theorem p68 : PureC Tryz.prog Gl 75 refSameT := by
  refine pureC_intro tabOK mixed Tryz.func75 (by kernel_rfl) (by kernel_rfl) fun vs v h' h => ?_
  obtain ⟨n, f, m, g, ha, h1⟩ := apL2_some h
  obtain ⟨hn, h2⟩ := sem_br_fail h1
  obtain ⟨hm, h3⟩ := sem_br_fail h2
  have hx := cx_ok tb68_ok []
  cases ca : mayN n f with
  | true =>
    cases cb : mayN m g with
    | true =>
      rw [ca, cb] at h3
      have := sem_leaf h3
      simp only [Prod.mk.injEq] at this
      obtain ⟨rfl, rfl⟩ := this
      exact ⟨_, cxOf Gl tb68 [], _, ha, rfl, hx.1, hx.2, wc68yy _ n f m g hn ca hm cb (fitN_8 hn) (fitN_8 hm), RowsLE.refl _⟩
    | false =>
      rw [ca, cb] at h3
      have := sem_leaf h3
      simp only [Prod.mk.injEq] at this
      obtain ⟨rfl, rfl⟩ := this
      exact ⟨_, cxOf Gl tb68 [], _, ha, rfl, hx.1, hx.2, wc68yn _ n f m g hn ca hm cb, RowsLE.refl _⟩
  | false =>
    rw [ca] at h3
    have := sem_leaf h3
    simp only [Prod.mk.injEq] at this
    obtain ⟨rfl, rfl⟩ := this
    cases cb : mayN m g with
    | true => exact ⟨_, cxOf Gl tb68 [], _, ha, rfl, hx.1, hx.2, wc68ny _ n f m g hn ca hm cb, RowsLE.refl _⟩
    | false => exact ⟨_, cxOf Gl tb68 [], _, ha, rfl, hx.1, hx.2, wc68nn _ n f m g hn ca hm cb, RowsLE.refl _⟩

/-! ### The law -/

theorem rotH_congr {n : Nat} {h g : Nat → Int} (hg : ∀ i, i < n → g i = h i) (p i : Nat) (hn : 0 < n) : rotH n g p i = rotH n h p i := hg _ (Nat.mod_lt _ hn)

theorem isMin_congr {n : Nat} {h g : Nat → Int} (hg : ∀ i, i < n → g i = h i) {p : Nat} (hp : isMin n g p) : isMin n h p := by
  have hn : 0 < n := by have := hp.1; omega
  refine ⟨hp.1, fun q hq hl => hp.2 q hq ?_⟩
  obtain ⟨s, h1, h2, h3⟩ := hl
  exact ⟨s, h1, fun t ht => by rw [rotH_congr hg _ _ hn, rotH_congr hg _ _ hn]; exact h2 t ht, by rw [rotH_congr hg _ _ hn, rotH_congr hg _ _ hn]; exact h3⟩

/-- Both least turned lists are the same. -/
theorem can_ref {n : Nat} {f l : Nat → E6} (hm : mayN n f = true) (hl : ∀ i, i < n → l i = f i) : ∀ i, i < n → canF n l i = turnE n f (Int.ofNat (refL n fun k => codeN (f k))) i := fun i hi => by
  have hn : 0 < n := by omega
  have h1 : isMin n (fun k => codeN (f k)) (leastN n fun k => codeN (l k)) := isMin_congr (g := fun k => codeN (l k)) (fun t ht => by show codeN (l t) = codeN (f t); rw [hl t ht]) (leastN_min n _ hn)
  have h2 := refL_min (fun k => codeN (f k)) hn
  have h3 := isMin_eq h1 h2 i hi
  unfold canF turnE
  rw [turnK_nat h2.1, hl _ (Nat.mod_lt _ hn)]
  exact cdN_inj (mayN_iff.1 hm _ (Nat.mod_lt _ hn)) (mayN_iff.1 hm _ (Nat.mod_lt _ hn)) h3

theorem sameR_congr {n : Nat} {f f' : Nat → Int} {m : Nat} {g g' : Nat → Int} (hf : ∀ i, i < n → f' i = f i) (hg : ∀ i, i < m → g' i = g i) : sameR n f' m g' = sameR n f m g := by
  rw [Bool.eq_iff_iff, sameR_iff, sameR_iff]
  refine and_congr_right fun h => ?_
  subst h
  rcases Nat.eq_zero_or_pos n with h0 | hn
  · exact ⟨fun _ => .inl h0, fun _ => .inl h0⟩
  · refine or_congr_right (exists_congr fun k => and_congr_right fun _ => forall_congr' fun t => imp_congr_right fun ht => ?_)
    rw [hf _ (Nat.mod_lt _ hn), hg t ht]

theorem mayN_congC {n : Nat} {f g : Nat → E6} (h : ∀ i, i < n → f i = g i) : mayN n f = mayN n g := by
  rw [Bool.eq_iff_iff, mayN_iff, mayN_iff]
  exact ⟨fun h1 i hi => by rw [← h i hi]; exact h1 i hi, fun h1 i hi => by rw [h i hi]; exact h1 i hi⟩

end Go.Proofs.YtkcbdemfmjciiaaGreatDoor.Ed




