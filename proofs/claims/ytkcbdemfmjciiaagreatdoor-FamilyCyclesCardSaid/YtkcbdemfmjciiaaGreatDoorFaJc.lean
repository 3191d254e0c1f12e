/-
  A cycle turned is a cycle, with the same canonical edges. No program.
-/
import Derived.Test.YtkcbdemfmjciiaaGreatDoorCyU
namespace Go.Proofs.YtkcbdemfmjciiaaGreatDoor.Ed
open Go.Sy
set_option maxRecDepth 100000

theorem canF_may {n : Nat} {f : Nat → E6} (h : mayN n f = true) {i : Nat} (hi : i < n) : codeF (canF n f i) = 0 := mayN_iff.1 h _ (Nat.mod_lt _ (by omega))

theorem sameC_iff {n : Nat} {f : Nat → E6} {m : Nat} {g : Nat → E6} (hf : mayN n f = true) (hg : mayN m g = true) : sameC n f m g = true ↔ n = m ∧ ∀ i, i < n → canF n f i = canF m g i := by
  unfold sameC
  rw [sameTB_iff]
  constructor
  · rintro ⟨rfl, h⟩
    exact ⟨rfl, fun i hi => cdN_inj (canF_may hf hi) (canF_may hg hi) (h i hi)⟩
  · rintro ⟨rfl, h⟩
    exact ⟨rfl, fun i hi => congrArg codeN (h i hi)⟩

theorem mod_add {K a b : Nat} (c : Nat) (h : a % K = b % K) : (a + c) % K = (b + c) % K := by rw [Nat.add_mod, h, ← Nat.add_mod]

theorem mod_cancel0 {K a b c : Nat} (hab : a ≤ b) (h : (a + c) % K = (b + c) % K) : a % K = b % K := by
  have h1 := Nat.sub_mod_eq_zero_of_mod_eq h.symm
  rw [show b + c - (a + c) = b - a by omega] at h1
  have h2 : (a + (b - a)) % K = a % K := by rw [Nat.add_mod, h1, Nat.add_zero, Nat.mod_mod]
  rw [show a + (b - a) = b by omega] at h2
  exact h2.symm

theorem mod_cancel {K a b c : Nat} (h : (a + c) % K = (b + c) % K) : a % K = b % K := by
  rcases Nat.le_total a b with h1 | h1
  · exact mod_cancel0 h1 h
  · exact (mod_cancel0 h1 h.symm).symm

theorem cntB_add (p : Nat → Bool) (a : Nat) : ∀ b, cntB p (a + b) = cntB p a + cntB (fun i => p (a + i)) b
  | 0 => rfl
  | b + 1 => by
    rw [show a + (b + 1) = a + b + 1 by omega, cntB, cntB, cntB_add p a b]
    cases p (a + b) <;> rfl

theorem cntB_turn (p : Nat → Bool) {n k j : Nat} (hk : k < n) (hj : j ≤ n) : cntB p k + cntB (fun i => p ((k + i) % n)) j = if k + j < n then cntB p (k + j) else cntB p n + cntB p (k + j - n) := by
  split
  · rename_i h
    rw [cntB_add p k j, cntB_congr (q := fun i => p ((k + i) % n)) (p := fun i => p (k + i)) j fun i hi => by rw [Nat.mod_eq_of_lt (by omega)]]
  · rename_i h
    have e : j = (n - k) + (k + j - n) := by omega
    have h1 := cntB_add (fun i => p ((k + i) % n)) (n - k) (k + j - n)
    rw [← e] at h1
    rw [h1, cntB_congr (q := fun i => p ((k + i) % n)) (p := fun i => p (k + i)) (n - k) fun i hi => by rw [Nat.mod_eq_of_lt (by omega)],
      cntB_congr (q := fun i => p ((k + (n - k + i)) % n)) (p := p) (k + j - n) fun i hi => by rw [show k + (n - k + i) = i + n by omega, Nat.add_mod_right, Nat.mod_eq_of_lt (by omega)]]
    have h2 := cntB_add p k (n - k)
    rw [show k + (n - k) = n by omega] at h2
    omega

theorem cntB_turned (p : Nat → Bool) {n k : Nat} (hk : k < n) : cntB (fun i => p ((k + i) % n)) n = cntB p n := by
  have h := cntB_turn p hk (Nat.le_refl n)
  rw [if_neg (by omega), show k + n - n = k by omega] at h
  omega

theorem partF_mod (p : Nat → Bool) {n i : Nat} (hi : i < n) (hK : 0 < cntB p n) : partF p n i = Int.ofNat (cntB p i % cntB p n) := by
  unfold partF
  rw [decide_eq_true hi]
  have := cntB_mono p (show i ≤ n by omega)
  by_cases h : cntB p i = cntB p n
  · rw [decide_eq_true h, h, Nat.mod_self]
    rfl
  · rw [decide_eq_false h, Nat.mod_eq_of_lt (by omega)]
    rfl

theorem part_turned (p : Nat → Bool) {n k i j : Nat} (hk : k < n) (hK : 0 < cntB p n) (hi : i < n) (hj : j < n) :
    partF (fun i => p ((k + i) % n)) n i = partF (fun i => p ((k + i) % n)) n j ↔ partF p n ((k + i) % n) = partF p n ((k + j) % n) := by
  have hn : 0 < n := by omega
  have hT := cntB_turned p hk
  have key : ∀ i, i < n → (cntB p k + cntB (fun i => p ((k + i) % n)) i) % cntB p n = cntB p ((k + i) % n) % cntB p n := fun i hi => by
    rw [cntB_turn p hk (Nat.le_of_lt hi)]
    split
    · rename_i h
      rw [Nat.mod_eq_of_lt h]
    · rename_i h
      rw [Nat.add_mod_left, show (k + i) % n = k + i - n by rw [show k + i = k + i - n + n by omega, Nat.add_mod_right, Nat.mod_eq_of_lt (by omega)]; omega]
  rw [partF_mod _ hi (by rw [hT]; exact hK), partF_mod _ hj (by rw [hT]; exact hK), partF_mod p (Nat.mod_lt _ hn) hK, partF_mod p (Nat.mod_lt _ hn) hK, hT, ← key i hi, ← key j hj]
  constructor
  · intro h
    have h := Int.ofNat.inj h
    have := mod_add (cntB p k) h
    rw [Nat.add_comm _ (cntB p k), Nat.add_comm _ (cntB p k)] at this
    rw [this]
  · intro h
    have h := Int.ofNat.inj h
    rw [Nat.add_comm (cntB p k), Nat.add_comm (cntB p k)] at h
    rw [mod_cancel h]

theorem crR_none {n : Nat} {l : Nat → Int} {c : Nat → Bool} {q : Int} (h : ∀ i, i < n → tooMany n l c q i = false) : crR n l c q = (0, false) := by
  unfold crR
  rw [firstQ_none.2 fun k _ h2 => h k (by omega)]

theorem IsCycle.ok {a : Int} {n : Nat} {f : Nat → E6} (h : IsCycle a n f) : chkR a n f = (0, 0) := by
  have e1 : edgR a n f = (0, 0) := by
    unfold edgR
    rw [firstQ_none.2 fun k _ h2 => h.legal k (by omega)]
    show (match firstQ (badM n f) n 0 with | some t => ((41 : Int), Int.ofNat t) | none => (0, 0)) = (0, 0)
    rw [firstQ_none.2 fun k _ h2 => h.meets k (by omega)]
  have c1 : ilt (Int.ofNat n) 2 = false := by rw [show (2 : Int) = Int.ofNat 2 from rfl, ilt_nat, decide_eq_false (by have := h.lo; omega)]
  have c2 : ilt 16 (Int.ofNat n) = false := by rw [show (16 : Int) = Int.ofNat 16 from rfl, ilt_nat, decide_eq_false (by have := h.hi; omega)]
  have c3 : ilt (cntO n f) 2 = false := by unfold cntO; rw [show (2 : Int) = Int.ofNat 2 from rfl, ilt_nat, decide_eq_false (by have := h.outer; omega)]
  have c4 : ilt (cntM n f) 2 = false := by unfold cntM; rw [show (2 : Int) = Int.ofNat 2 from rfl, ilt_nat, decide_eq_false (by have := h.moves; omega)]
  rw [chkR_eq h.arch]
  unfold chkK
  rw [c1, c2, e1]
  show chkS n f = (0, 0)
  unfold chkS
  rw [c3, c4]
  show chkU n f = (0, 0)
  unfold chkU
  rw [crR_none h.writes, crR_none h.crowd]

theorem tooMany_turned (p c : Nat → Bool) {n k : Nat} (hk : k < n) (hK : 0 < cntB p n) (q : Int) {i : Nat} (hi : i < n) :
    tooMany n (partF (fun i => p ((k + i) % n)) n) (fun i => c ((k + i) % n)) q i = tooMany n (partF p n) c q ((k + i) % n) := by
  unfold tooMany cntK
  rw [cntB_congr (q := cntP (partF (fun i => p ((k + i) % n)) n) (fun i => c ((k + i) % n)) (partF (fun i => p ((k + i) % n)) n i)) (p := fun j => cntP (partF p n) c (partF p n ((k + i) % n)) ((k + j) % n)) n fun j hj => by
    unfold cntP
    have h1 := part_turned p hk hK hj hi
    by_cases e : partF (fun i => p ((k + i) % n)) n j = partF (fun i => p ((k + i) % n)) n i
    · rw [e, h1.1 e, ieq_rfl, ieq_rfl]
    · rw [show ieq (partF (fun i => p ((k + i) % n)) n j) (partF (fun i => p ((k + i) % n)) n i) = false by simp [ieq, e], show ieq (partF p n ((k + j) % n)) (partF p n ((k + i) % n)) = false by
        have : ¬ partF p n ((k + j) % n) = partF p n ((k + i) % n) := fun h => e (h1.2 h)
        simp [ieq, this]]]
  rw [cntB_turned (cntP (partF p n) c (partF p n ((k + i) % n))) hk]

theorem IsCycle.turned {a : Int} {n : Nat} {f : Nat → E6} (h : IsCycle a n f) {k : Nat} (hk : k < n) : IsCycle a n fun i => f ((k + i) % n) := by
  have hn : 0 < n := by omega
  have ho := h.outer
  have hm := h.moves
  refine ⟨h.arch, h.lo, h.hi, fun i hi => h.legal _ (Nat.mod_lt _ hn), fun i hi => ?_, ?_, ?_, fun i hi => ?_, fun i hi => ?_⟩
  · have := h.meets ((k + i) % n) (Nat.mod_lt _ hn)
    unfold badM at this ⊢
    rw [Nat.mod_add_mod] at this
    show bnot (ieq (f ((k + i) % n)).dst (f ((k + (i + 1) % n) % n)).src) = false
    rw [Nat.add_mod_mod, ← Nat.add_assoc]
    exact this
  · show 2 ≤ cntB (fun i => (fun k => outB (f k)) ((k + i) % n)) n
    rw [cntB_turned (fun k => outB (f k)) hk]
    exact ho
  · show 2 ≤ cntB (fun i => (fun k => movB (f k)) ((k + i) % n)) n
    rw [cntB_turned (fun k => movB (f k)) hk]
    exact hm
  · show tooMany n (partF (fun i => (fun k => movB (f k)) ((k + i) % n)) n) (fun i => (fun k => isW (f k)) ((k + i) % n)) 2 i = false
    rw [tooMany_turned (fun k => movB (f k)) (fun k => isW (f k)) hk (by omega) 2 hi]
    exact h.writes _ (Nat.mod_lt _ hn)
  · show tooMany n (partF (fun i => (fun k => outB (f k)) ((k + i) % n)) n) (fun i => (fun _ => true) ((k + i) % n)) 12 i = false
    rw [tooMany_turned (fun k => outB (f k)) (fun _ => true) hk (by omega) 12 hi]
    exact h.crowd _ (Nat.mod_lt _ hn)

theorem IsCycle.chk {a : Int} {n : Nat} {f : Nat → E6} (h : IsCycle a n f) : ieq (chkE a n f) 0 = true ∧ ieq (chkI a n f) 0 = true := by
  unfold chkE chkI
  rw [h.ok]
  exact ⟨rfl, rfl⟩

theorem canF_turned {n : Nat} {f : Nat → E6} {k : Nat} (hn : 0 < n) (hk : k < n) (hf : mayN n f = true) {i : Nat} (hi : i < n) : canF n (fun i => f ((k + i) % n)) i = canF n f i := by
  have hg : mayN n (fun i => f ((k + i) % n)) = true := mayN_iff.2 fun i _ => mayN_iff.1 hf _ (Nat.mod_lt _ hn)
  have h := least_turned (n := n) (h := fun i => codeN (f i)) (g := fun i => codeN (f ((k + i) % n))) (k := k) hn (fun i _ => rfl) i hi
  exact cdN_inj (canF_may hg hi) (canF_may hf hi) h

theorem canF_can {n : Nat} {f : Nat → E6} (hn : 0 < n) (hf : mayN n f = true) {i : Nat} (hi : i < n) : canF n (fun i => canF n f i) i = canF n f i := by
  have hl := leastN_ok n (fun i => codeN (f i))
  exact canF_turned (k := leastN n (fun i => codeN (f i))) hn (by omega) hf hi

/-! ### The law -/


end Go.Proofs.YtkcbdemfmjciiaaGreatDoor.Ed

