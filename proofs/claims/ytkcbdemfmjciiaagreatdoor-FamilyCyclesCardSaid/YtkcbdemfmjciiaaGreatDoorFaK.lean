/-
  Family's names: a name's beginning tells its family; what stands behind it are the canonical edges: so a name has its cycle again, and one name is one cycle turned. No program.
-/
import Derived.Test.YtkcbdemfmjciiaaGreatDoorFaJ
import Derived.Test.YtkcbdemfmjciiaaGreatDoorFaJc
import Derived.Test.YtkcbdemfmjciiaaGreatDoorFaD
namespace Go.Proofs.YtkcbdemfmjciiaaGreatDoor.Fa
open Go.Sy Go Go.Proofs.YtkcbdemfmjciiaaGreatDoor.Ed
set_option maxRecDepth 100000

/-- The beginnings: the families' names, and C. -/
def hdS (k : Nat) : List UInt8 := bif Nat.blt k 25 then famS k else [67]
theorem heads_apart : (List.range 26).all (fun i => (List.range 26).all fun j => Nat.beq i j || diffB (hdS i ++ [43]) (hdS j ++ [43])) = true := by kernel_rfl
theorem heads_chars : (List.range 26).all (fun i => (hdS i).all (fun c => nameC c || c == 43) && Nat.blt 0 (hdS i).length) = true := by kernel_rfl
theorem hdS_ne {i j : Nat} (hi : i < 26) (hj : j < 26) (h : i ≠ j) : diffB (hdS i ++ [43]) (hdS j ++ [43]) = true := by
  have := List.all_eq_true.1 (List.all_eq_true.1 heads_apart i (List.mem_range.2 hi)) j (List.mem_range.2 hj)
  rw [Bool.or_eq_true] at this
  rcases this with h1 | h1
  · exact absurd (Nat.eq_of_beq_eq_true h1) h
  · exact h1

theorem head_at {n : Nat} {f : Nat → E6} (hm : mayN n f = true) : ∃ k, k < 26 ∧ headT n f = hdS k := by
  unfold headT famE famT
  rw [hm]
  cases ho : famO n f with
  | some k =>
    obtain ⟨_, h2, _⟩ := firstQ_some ho
    refine ⟨k, by omega, ?_⟩
    show famS k = hdS k
    unfold hdS
    rw [show Nat.blt k 25 = true from Nat.ble_eq_true_of_le (by omega)]
    rfl
  | none => exact ⟨25, by omega, rfl⟩

theorem famQ_turned {n : Nat} {f : Nat → E6} {k : Nat} (hn : 0 < n) (hk : k < n) (hm : mayN n f = true) {b : Nat} (hb : b < 25) : famQ n (fun i => f ((k + i) % n)) b = famQ n f b := by
  have hp : mayN n (fun i => plE (f i)) = true := mayN_iff.2 fun i hi => plain_may (mayN_iff.1 hm i hi)
  have hq : mayN n (fun i => plE (f ((k + i) % n))) = true := mayN_iff.2 fun i _ => plain_may (mayN_iff.1 hm _ (Nat.mod_lt _ hn))
  have hg := (bare_may hb).1
  unfold famQ
  rw [Bool.eq_iff_iff, sameC_iff hq hg, sameC_iff hp hg]
  have ht : ∀ i, i < n → canF n (fun i => plE (f ((k + i) % n))) i = canF n (fun i => plE (f i)) i := fun i hi => canF_turned (f := fun i => plE (f i)) hn hk hp hi
  constructor
  · rintro ⟨h1, h2⟩
    exact ⟨h1, fun i hi => (ht i hi).symm.trans (h2 i hi)⟩
  · rintro ⟨h1, h2⟩
    exact ⟨h1, fun i hi => (ht i hi).trans (h2 i hi)⟩
theorem famO_turned {n : Nat} {f : Nat → E6} {k : Nat} (hn : 0 < n) (hk : k < n) (hm : mayN n f = true) : famO n (fun i => f ((k + i) % n)) = famO n f :=
  firstQ_congr 25 0 fun b _ hb => famQ_turned hn hk hm (by omega)
theorem may_turned {n : Nat} {f : Nat → E6} {k : Nat} (hn : 0 < n) (hm : mayN n f = true) : mayN n (fun i => f ((k + i) % n)) = true :=
  mayN_iff.2 fun i _ => mayN_iff.1 hm _ (Nat.mod_lt _ hn)
theorem headT_turned {n : Nat} {f : Nat → E6} {k : Nat} (hn : 0 < n) (hk : k < n) (hm : mayN n f = true) : headT n (fun i => f ((k + i) % n)) = headT n f := by
  unfold headT famE famT
  rw [famO_turned hn hk hm, hm, may_turned hn hm]
theorem nmX_turned {n : Nat} {f : Nat → E6} {k : Nat} (hn : 0 < n) (hk : k < n) (hm : mayN n f = true) : ∀ i, i ≤ n → nmX n (fun i => f ((k + i) % n)) i = nmX n f i
  | 0, _ => headT_turned hn hk hm
  | i + 1, hi => by rw [nmX, nmX, nmX_turned hn hk hm i (by omega), canF_turned hn hk hm (by omega)]
theorem nameE_turned {a : Int} {n : Nat} {f : Nat → E6} {k : Nat} (hk : k < n) (h : ieq (chkE a n f) 0 = true) : ieq (chkE a n (fun i => f ((k + i) % n))) 0 = true :=
  ((isCycle_of h).turned hk).chk.1
theorem nameT_turned {a : Int} {n : Nat} {f : Nat → E6} {k : Nat} (hk : k < n) (h : ieq (chkE a n f) 0 = true) : nameT a n (fun i => f ((k + i) % n)) = nameT a n f := by
  unfold nameT
  rw [h, nameE_turned hk h]
  exact nmX_turned (by omega) hk (isCycle_of h).may n (Nat.le_refl _)

theorem nmX_plus (n : Nat) (f : Nat → E6) : ∀ i, nmX n f i = headT n f ++ plusT (lsE i (canF n f))
  | 0 => by simp [nmX, lsE, plusT]
  | i + 1 => by
    rw [nmX, nmX_plus n f i, lsE_succ, plusT_app, List.append_assoc]
    simp [plusT]

/-- A cycle's name: its beginning, and its canonical edges. -/
theorem name_form {a : Int} {n : Nat} {f : Nat → E6} (h : ieq (chkE a n f) 0 = true) :
    ∃ k r, k < 26 ∧ headT n f = hdS k ∧ nameT a n f = hdS k ++ [43] ++ r ∧ plusT (lsE n (canF n f)) = 43 :: r ∧ (nameT a n f).length ≤ 1024 := by
  have hc := isCycle_of h
  obtain ⟨k, hk, hh⟩ := head_at hc.may
  obtain ⟨m, rfl⟩ : ∃ m, n = m + 1 := ⟨n - 1, by have := hc.lo; omega⟩
  have hp : ∃ r, plusT (lsE (m + 1) (canF (m + 1) f)) = 43 :: r := by rw [lsE_cons]; exact ⟨_, rfl⟩
  obtain ⟨r, hr⟩ := hp
  have hT : nameT a (m + 1) f = nmX (m + 1) f (m + 1) := by unfold nameT; rw [h]; rfl
  refine ⟨k, r, hk, hh, ?_, hr, ?_⟩
  · rw [hT, nmX_plus, hr, hh]
    simp
  · rw [hT]
    have := nmX_len (m + 1) f (m + 1)
    have := hc.hi
    omega

/-- What a beginning reads. -/
def rdP (a : Int) (s h : List UInt8) : Bool := match cutP (h ++ [43]) s with
  | none => false
  | some r => ieq (psE (unp r)) 0 && (ieq (chkE a (psN (unp r)) fun i => psG (unp r) i) 0 && seq (nameT a (psN (unp r)) fun i => psG (unp r) i) s)
def rdR (s h : List UInt8) : List UInt8 := match cutP (h ++ [43]) s with
  | none => []
  | some r => unp r
/-- Which beginning reads. -/
def cyK (a : Int) (s : List UInt8) : Option Nat := firstQ (fun k => rdP a s (hdS k)) 26 0

/-- A name is read by its own beginning alone, and its canonical edges come out. -/
theorem cyK_name {a : Int} {n : Nat} {f : Nat → E6} (h : ieq (chkE a n f) 0 = true) :
    ∃ k, k < 26 ∧ cyK a (nameT a n f) = some k ∧ psN (rdR (nameT a n f) (hdS k)) = n ∧ ∀ i, i < n → psG (rdR (nameT a n f) (hdS k)) i = canF n f i := by
  have hc := isCycle_of h
  have hm := hc.may
  have hn : 0 < n := by have := hc.lo; omega
  obtain ⟨k, r, hk, hh, hT, hr, hl⟩ := name_form h
  have hcm : mayN n (canF n f) = true := mayN_iff.2 fun i hi => canF_may hm hi
  have hrl : r.length ≤ 262144 := by rw [hT] at hl; simp only [List.length_append] at hl; omega
  obtain ⟨e1, e2, e3⟩ := ps_plus hn hcm hr hrl
  have hcut : cutP (hdS k ++ [43]) (nameT a n f) = some r := by rw [hT]; exact cutP_app _ _
  have hR : rdR (nameT a n f) (hdS k) = unp r := by unfold rdR; rw [hcut]
  have hlt := leastN_ok n (fun i => codeN (f i))
  have hln : leastN n (fun i => codeN (f i)) < n := by omega
  have g1 : ∀ i, i < n → psG (unp r) i = f ((leastN n (fun i => codeN (f i)) + i) % n) := e3
  have hyes : rdP a (nameT a n f) (hdS k) = true := by
    unfold rdP
    rw [hcut]
    show (_ && (_ && _)) = true
    rw [e1, e2, nameT_congr g1, chkE_congr g1, nameE_turned hln h, nameT_turned hln h, seq_rfl]
    rfl
  have hno : ∀ j, j < 26 → j ≠ k → rdP a (nameT a n f) (hdS j) = false := fun j hj hjk => by
    unfold rdP
    rw [hT, cutP_none (hdS_ne hj hk hjk)]
  refine ⟨k, hk, ?_, by rw [hR, e2], fun i hi => by rw [hR, e3 i hi]⟩
  unfold cyK
  have : ∀ d i, i ≤ k → k < i + d → i + d ≤ 26 → firstQ (fun k => rdP a (nameT a n f) (hdS k)) d i = some k := by
    intro d
    induction d with
    | zero => intro i h1 h2 _; omega
    | succ d ih =>
      intro i h1 h2 h3
      by_cases he : i = k
      · subst he
        exact firstQ_t hyes
      · rw [firstQ_f (hno i (by omega) he)]
        exact ih (i + 1) (by omega) (by omega) (by omega)
  exact this 26 0 (Nat.zero_le _) (by omega) (by omega)

/-- One name is one cycle, turned. -/
theorem name_same {a : Int} {n m : Nat} {f g : Nat → E6} (hf : ieq (chkE a n f) 0 = true) (hg : ieq (chkE a m g) 0 = true) : seq (nameT a n f) (nameT a m g) = sameC n f m g := by
  have h1 := (isCycle_of hf).may
  have h2 := (isCycle_of hg).may
  rw [Bool.eq_iff_iff, sameC_iff h1 h2]
  constructor
  · intro h
    have h : nameT a n f = nameT a m g := by simpa [seq] using h
    obtain ⟨k, _, e1, e2, e3⟩ := cyK_name hf
    obtain ⟨j, _, d1, d2, d3⟩ := cyK_name hg
    rw [← h, e1, Option.some.injEq] at d1
    subst d1
    rw [← h] at d2 d3
    obtain rfl : n = m := e2.symm.trans d2
    exact ⟨rfl, fun i hi => (e3 i hi).symm.trans (d3 i hi)⟩
  · rintro ⟨rfl, h⟩
    have hh : headT n f = headT n g := by
      have hn : 0 < n := by have := (isCycle_of hf).lo; omega
      have k1 := leastN_ok n (fun i => codeN (f i))
      have k2 := leastN_ok n (fun i => codeN (g i))
      have a1 := headT_turned (f := f) hn (k := leastN n fun i => codeN (f i)) (by omega) h1
      have a2 := headT_turned (f := g) hn (k := leastN n fun i => codeN (g i)) (by omega) h2
      have c : headT n (canF n f) = headT n (canF n g) := by
        unfold headT
        rw [famT_congr h, famE_congr h]
      exact a1.symm.trans (c.trans a2)
    have hl : lsE n (canF n f) = lsE n (canF n g) := List.map_congr_left fun i hi => h i (List.mem_range.1 hi)
    have : nameT a n f = nameT a n g := by
      unfold nameT
      rw [hf, hg]
      show nmX n f n = nmX n g n
      rw [nmX_plus, nmX_plus, hh, hl]
    rw [this, seq_rfl]

/-- What is the same cycle as one that may be may be. -/
theorem same_chk {a : Int} {n m : Nat} {f g : Nat → E6} (hf : ieq (chkE a n f) 0 = true) (hg : mayN m g = true) (h : sameR n (fun k => codeN (f k)) m (fun k => codeN (g k)) = true) : ieq (chkE a m g) 0 = true := by
  have h1 := (isCycle_of hf).may
  have hl := (isCycle_of hf).lo
  obtain ⟨rfl, h | ⟨k, hk, h⟩⟩ := sameR_iff.1 h
  · omega
  · have he : ∀ i, i < n → g i = f ((k + i) % n) := fun i hi => (cdN_inj (mayN_iff.1 h1 _ (Nat.mod_lt _ (by omega))) (mayN_iff.1 hg i hi) (h i hi)).symm
    rw [chkE_congr he]
    exact nameE_turned hk hf

/-- A name's signs. -/
theorem name_signs {a : Int} {n : Nat} {f : Nat → E6} (h : ieq (chkE a n f) 0 = true) : (∀ c ∈ nameT a n f, (nameC c || c == 43) = true) ∧ 1 ≤ (nameT a n f).length := by
  obtain ⟨k, r, hk, hh, hT, hr, _⟩ := name_form h
  have hc := List.all_eq_true.1 heads_chars k (List.mem_range.2 hk)
  rw [Bool.and_eq_true] at hc
  have hp := plus_chars (lsE n (canF n f)) (lsE_may (mayN_iff.2 fun i hi => canF_may (isCycle_of h).may hi))
  refine ⟨fun c hcc => ?_, by rw [hT]; simp only [List.length_append, List.length_cons]; omega⟩
  rw [hT, List.append_assoc, List.mem_append] at hcc
  rcases hcc with h1 | h1
  · exact List.all_eq_true.1 hc.1 c h1
  · exact hp c (by rw [hr]; exact h1)

end Go.Proofs.YtkcbdemfmjciiaaGreatDoor.Fa

