/-
  Layer 5: the matrix of the ends of a vocabulary's edges, both ways of finding it. No conditions.
-/
import Derived.Test.YtdmjcpindopjdaaCoNn
namespace Go.Proofs.Ytdmjcpindopjdaa.Co
open Go.Sy

/-- Which of the four an edge counts for. -/
def cls (e : E6) : Nat := (if e.src = 1 then 0 else 2) + (if e.dst = 1 then 0 else 1)

/-- How many of a list's edges count for the q-th. -/
def cntL : List E6 → Nat → Nat
  | [], _ => 0
  | e :: l, q => if cls e = q then cntL l q + 1 else cntL l q

theorem cntL_le : ∀ (l : List E6) (q : Nat), cntL l q ≤ l.length
  | [], _ => Nat.le_refl _
  | e :: l, q => by
    have := cntL_le l q
    unfold cntL
    split <;> simp <;> omega

theorem inc_wr {k : Nat} (h : k ≤ 1000) : wr .i64 (iadd (Int.ofNat k) 1) = Int.ofNat (k + 1) := succ_wr (i := k) (n := 1001) (by omega) (by omega)

/-- The four ways. -/
theorem four {e : E6} (h : codeF e = 0) : (e.src = 1 ∧ e.dst = 1 ∧ cls e = 0) ∨ (e.src = 1 ∧ e.dst = 2 ∧ cls e = 1) ∨ (e.src = 2 ∧ e.dst = 1 ∧ cls e = 2) ∨ (e.src = 2 ∧ e.dst = 2 ∧ cls e = 3) := by
  obtain ⟨hs | hs, hd | hd⟩ := ends_ok h
  · exact .inl ⟨hs, hd, by simp [cls, hs, hd]⟩
  · exact .inr (.inl ⟨hs, hd, by simp [cls, hs, hd]⟩)
  · exact .inr (.inr (.inl ⟨hs, hd, by simp [cls, hs, hd]⟩))
  · exact .inr (.inr (.inr ⟨hs, hd, by simp [cls, hs, hd]⟩))

theorem cnt_yes {e : E6} {l : List E6} {q : Nat} (h : cls e = q) : cntL (e :: l) q = cntL l q + 1 := by rw [cntL, if_pos h]
theorem cnt_no {e : E6} {l : List E6} {q : Nat} (h : cls e ≠ q) : cntL (e :: l) q = cntL l q := by rw [cntL, if_neg h]

/-! ### What has been seen -/

def seenL : List E6 → Nat → Bool
  | [] => fun _ => false
  | e :: l => fun j => bif Nat.beq j (toN (codeN e)) then true else seenL l j

theorem seenL_iff : ∀ (l : List E6) (k : Nat), seenL l k = true ↔ ∃ e, e ∈ l ∧ toN (codeN e) = k
  | [], k => by simp [seenL]
  | x :: l, k => by
    have ih := seenL_iff l k
    show (bif Nat.beq k (toN (codeN x)) then true else seenL l k) = true ↔ _
    cases hb : Nat.beq k (toN (codeN x)) with
    | true =>
      have := Nat.eq_of_beq_eq_true hb
      simp
      exact .inl this.symm
    | false =>
      have hne := Nat.ne_of_beq_eq_false hb
      simp only [cond_false, ih, List.mem_cons]
      constructor
      · rintro ⟨e, he, hk⟩; exact ⟨e, .inr he, hk⟩
      · rintro ⟨e, rfl | he, hk⟩
        · exact absurd hk.symm hne
        · exact ⟨e, he, hk⟩

theorem seen_push (l : List E6) (x : E6) : setGet (fun j => bV (seenL l j)) (toN (codeN x)) (bV Bool.true) = fun j => bV (seenL (x :: l) j) := by
  funext j
  show (bif Nat.beq j (toN (codeN x)) then bV true else bV (seenL l j)) = bV (bif Nat.beq j (toN (codeN x)) then true else seenL l j)
  cases Nat.beq j (toN (codeN x)) <;> rfl

theorem code_in {e : E6} (h : codeF e = 0) : ∃ k : Nat, codeN e = Int.ofNat k ∧ k < 112 := by
  rcases codeF_cases e with ⟨k, hk, _, h2, _⟩ | ⟨h1, _⟩
  · exact ⟨k, h2, hk⟩
  · rw [h1] at h; cases h

theorem seen_once {f : Nat → E6} {i : Nat} (ho : ∀ t, t ≤ i → codeF (f t) = 0) : seenL (onceR f i) (toN (codeN (f i))) = anyE (getE (onceR f i)) (f i) (onceR f i).length 0 := by
  rw [Bool.eq_iff_iff, anyE_mem, seenL_iff]
  constructor
  · rintro ⟨e, he, hk⟩
    obtain ⟨t, ht, rfl⟩ := onceR_sub f i e he
    obtain ⟨a, ha, _⟩ := code_in (ho t (by omega))
    obtain ⟨b, hb, _⟩ := code_in (ho i (Nat.le_refl _))
    have : f t = f i := codeN_inj (ho t (by omega)) (ho i (Nat.le_refl _)) (by
      rw [ha, hb] at hk ⊢
      have hk : a = b := hk
      rw [hk])
    rw [← this]; exact he
  · intro h
    exact ⟨f i, h, rfl⟩

/-! ### The program's -/

def lp12 (n : Nat) (f : Nat → E6) : Lp := ⟨[false, false, true, true, true, true, false, false, false, false, false, false, false, false, true, true, true, false, false, false, false, false, false, false, false, false, false, false, false, false, false, false, false, false, false, false, false, false, false, false, false, false, false, false, false, false, false, false], 3, [false, false, true, true, true, false, false, false, false, false, false, false, false, false, false, false, false, false, false, false, false, false, false, false, false, false, false, false, false, false, false, false, false, false, false, false, false, false, false, false, false, false, false, false, false, false, false, false], 2, n + 1⟩
def st12 (n : Nat) (f : Nat → E6) (a b c d : Int) (s : Nat → Bool) (i : Nat) (j : Nat → V) : St := ⟨[j 0, j 1, .ptr 0 0, iV 0, .ptr 1 0, .ept 2 1 0 0, j 6, j 7, j 8, j 9, j 10, j 11, j 12, j 13, .sl 6 n fun i => eV (f i), iV (Int.ofNat n), iV (Int.ofNat i), j 17, j 18, j 19, j 20, j 21, j 22, j 23, j 24, j 25, j 26, j 27, j 28, j 29, j 30, j 31, j 32, j 33, j 34, j 35, j 36, j 37, j 38, j 39, j 40, j 41, j 42, j 43, j 44, j 45, j 46, j 47], [.cells [iV 0, iV 0, iV 0, iV 0], .cells [iV a, iV b, iV c, iV d], .row 45 1 112 (fun j => bV (s j))]⟩
def en12a (n : Nat) (f : Nat → E6) (a b c d : Int) (s : Nat → Bool) (i : Nat) : Ex × St := (.ex 0, ⟨[.und, .und, .ptr 0 0, iV 0, .ptr 1 0, .und, .und, .und, .und, .und, .und, .und, .und, .und, .und, .und, .und, .und, .und, .und, .und, .und, .und, .und, .und, .und, .und, .und, .und, .und, .und, .und, .und, .und, .und, .und, .und, .und, .und, .und, .und, .und, .und, .und, .und, .und, .und, .und], [.cells [iV 0, iV 0, iV 0, iV 0], .cells [iV a, iV b, iV c, iV d]]⟩)
def en12b (n : Nat) (f : Nat → E6) (a b c d : Int) (s : Nat → Bool) (i : Nat) : Ex × St := (.rt, ⟨[.und, .und, .ptr 0 0, iV 30, .ptr 1 0, .und, .und, .und, .und, .und, .und, .und, .und, .und, .und, .und, .und, .und, .und, .und, .und, .und, .und, .und, .und, .und, .und, .und, .und, .und, .und, .und, .und, .und, .und, .und, .und, .und, .und, .und, .und, .und, .und, .und, .und, .und, .und, .und], [.cells [iV 0, iV 0, iV 0, iV 0], .cells [iV a, iV b, iV c, iV d]]⟩)
noncomputable def body12 (L : Nat → (St → T (Ex × St)) → St → T (Ex × St)) : St → T (Ex × St) := fun st => evalC tab ⟨callT tbM2, L, Gl⟩ (loopBody Try.f12 0) 0 st
theorem round12a_p (L : Nat → (St → T (Ex × St)) → St → T (Ex × St)) (n : Nat) (f : Nat → E6) (a b c d : Int) (s : Nat → Bool) (i : Nat)  (j : Nat → V) : ((body12 L (st12 n f a b c d s i j)).bind fun r => T.leaf (cutR (lp12 n f) r)).path [false] = some ([(ilt (Int.ofNat i) (Int.ofNat n))], ((.ex 0), ⟨[.und, .und, (.ptr 0 0), (iV 0), (.ptr 1 0), .und, .und, .und, .und, .und, .und, .und, .und, .und, .und, .und, .und, .und, .und, .und, .und, .und, .und, .und, .und, .und, .und, .und, .und, .und, .und, .und, .und, .und, .und, .und, .und, .und, .und, .und, .und, .und, .und, .und, .und, .und, .und, .und], [(.cells [(iV 0), (iV 0), (iV 0), (iV 0)]), (.cells [(iV a), (iV b), (iV c), (iV d)])]⟩)) := by kernel_rfl
theorem round12a (L : Nat → (St → T (Ex × St)) → St → T (Ex × St)) (n : Nat) (f : Nat → E6) (a b c d : Int) (s : Nat → Bool) (i : Nat)  (j : Nat → V) (h0 : ilt (Int.ofNat i) (Int.ofNat n) = false) : ((body12 L (st12 n f a b c d s i j)).bind fun r => T.leaf (cutR (lp12 n f) r)).sem = some ((.ex 0), ⟨[.und, .und, (.ptr 0 0), (iV 0), (.ptr 1 0), .und, .und, .und, .und, .und, .und, .und, .und, .und, .und, .und, .und, .und, .und, .und, .und, .und, .und, .und, .und, .und, .und, .und, .und, .und, .und, .und, .und, .und, .und, .und, .und, .und, .und, .und, .und, .und, .und, .und, .und, .und, .und, .und], [(.cells [(iV 0), (iV 0), (iV 0), (iV 0)]), (.cells [(iV a), (iV b), (iV c), (iV d)])]⟩) := by
  exact sem_of_path (round12a_p L n f a b c d s i j) (by simp only [h0] <;> rfl)
theorem round12b_p (L : Nat → (St → T (Ex × St)) → St → T (Ex × St)) (n : Nat) (f : Nat → E6) (a b c d : Int) (s : Nat → Bool) (i : Nat)  (j : Nat → V) : ((body12 L (st12 n f a b c d s i j)).bind fun r => T.leaf (cutR (lp12 n f) r)).path [true, true, true] = some ([(ilt (Int.ofNat i) (Int.ofNat n)), (band (ile 0 (Int.ofNat i)) (ilt (Int.ofNat i) (Int.ofNat n))), (bnot (ieq (codeF (f i)) 0))], (.rt, ⟨[.und, .und, (.ptr 0 0), (iV 30), (.ptr 1 0), .und, .und, .und, .und, .und, .und, .und, .und, .und, .und, .und, .und, .und, .und, .und, .und, .und, .und, .und, .und, .und, .und, .und, .und, .und, .und, .und, .und, .und, .und, .und, .und, .und, .und, .und, .und, .und, .und, .und, .und, .und, .und, .und], [(.cells [(iV 0), (iV 0), (iV 0), (iV 0)]), (.cells [(iV a), (iV b), (iV c), (iV d)])]⟩)) := by kernel_rfl
theorem round12b (L : Nat → (St → T (Ex × St)) → St → T (Ex × St)) (n : Nat) (f : Nat → E6) (a b c d : Int) (s : Nat → Bool) (i : Nat)  (j : Nat → V) (h1 : ilt (Int.ofNat i) (Int.ofNat n) = true) (h0 : band (ile 0 (Int.ofNat i)) (ilt (Int.ofNat i) (Int.ofNat n)) = true) (h2 : ieq (codeF (f i)) 0 = false) : ((body12 L (st12 n f a b c d s i j)).bind fun r => T.leaf (cutR (lp12 n f) r)).sem = some (.rt, ⟨[.und, .und, (.ptr 0 0), (iV 30), (.ptr 1 0), .und, .und, .und, .und, .und, .und, .und, .und, .und, .und, .und, .und, .und, .und, .und, .und, .und, .und, .und, .und, .und, .und, .und, .und, .und, .und, .und, .und, .und, .und, .und, .und, .und, .und, .und, .und, .und, .und, .und, .und, .und, .und, .und], [(.cells [(iV 0), (iV 0), (iV 0), (iV 0)]), (.cells [(iV a), (iV b), (iV c), (iV d)])]⟩) := by
  exact sem_of_path (round12b_p L n f a b c d s i j) (by simp only [h1, h0, h2] <;> rfl)
theorem round12s_p (L : Nat → (St → T (Ex × St)) → St → T (Ex × St)) (n : Nat) (f : Nat → E6) (a b c d : Int) (s : Nat → Bool) (i : Nat)  (j : Nat → V) : ((body12 L (st12 n f a b c d s i j)).bind fun r => T.leaf (cutR (lp12 n f) r)).path [true, true, false, true, true, false] = some ([(ilt (Int.ofNat i) (Int.ofNat n)), (band (ile 0 (Int.ofNat i)) (ilt (Int.ofNat i) (Int.ofNat n))), (bnot (ieq (codeF (f i)) 0)), (band (ile 0 (codeN (f i))) (ilt (codeN (f i)) 112)), (nlt (toN (codeN (f i))) 112), (bnot (s (toN (codeN (f i)))))], (.nm, ⟨[.und, .und, (.ptr 0 0), (iV 0), (.ptr 1 0), (.ept 2 1 0 0), .und, .und, .und, .und, .und, .und, .und, .und, (.sl 6 n (fun i => (eV (f i)))), (iV (Int.ofNat n)), (iV (wr IntKind.i64 (iadd (Int.ofNat i) 1))), .und, .und, .und, .und, .und, .und, .und, .und, .und, .und, .und, .und, .und, .und, .und, .und, .und, .und, .und, .und, .und, .und, .und, .und, .und, .und, .und, .und, .und, .und, .und], [(.cells [(iV 0), (iV 0), (iV 0), (iV 0)]), (.cells [(iV a), (iV b), (iV c), (iV d)]), (.row 45 1 112 (fun j => (bV (s j))))]⟩)) := by kernel_rfl
theorem round12s (L : Nat → (St → T (Ex × St)) → St → T (Ex × St)) (n : Nat) (f : Nat → E6) (a b c d : Int) (s : Nat → Bool) (i : Nat)  (j : Nat → V) (h1 : ilt (Int.ofNat i) (Int.ofNat n) = true) (h0 : band (ile 0 (Int.ofNat i)) (ilt (Int.ofNat i) (Int.ofNat n)) = true) (h2 : ieq (codeF (f i)) 0 = true) (h3 : band (ile 0 (codeN (f i))) (ilt (codeN (f i)) 112) = true) (h4 : nlt (toN (codeN (f i))) 112 = true) (h5 : s (toN (codeN (f i))) = true) : ((body12 L (st12 n f a b c d s i j)).bind fun r => T.leaf (cutR (lp12 n f) r)).sem = some (.nm, ⟨[.und, .und, (.ptr 0 0), (iV 0), (.ptr 1 0), (.ept 2 1 0 0), .und, .und, .und, .und, .und, .und, .und, .und, (.sl 6 n (fun i => (eV (f i)))), (iV (Int.ofNat n)), (iV (wr IntKind.i64 (iadd (Int.ofNat i) 1))), .und, .und, .und, .und, .und, .und, .und, .und, .und, .und, .und, .und, .und, .und, .und, .und, .und, .und, .und, .und, .und, .und, .und, .und, .und, .und, .und, .und, .und, .und, .und], [(.cells [(iV 0), (iV 0), (iV 0), (iV 0)]), (.cells [(iV a), (iV b), (iV c), (iV d)]), (.row 45 1 112 (fun j => (bV (s j))))]⟩) := by
  exact sem_of_path (round12s_p L n f a b c d s i j) (by simp only [h1, h0, h2, h3, h4, h5] <;> rfl)
theorem round12n00_p (L : Nat → (St → T (Ex × St)) → St → T (Ex × St)) (n : Nat) (f : Nat → E6) (a b c d : Int) (s : Nat → Bool) (i : Nat)  (j : Nat → V) : ((body12 L (st12 n f a b c d s i j)).bind fun r => T.leaf (cutR (lp12 n f) r)).path [true, true, false, true, true, true, true, true, true, true, true, true] = some ([(ilt (Int.ofNat i) (Int.ofNat n)), (band (ile 0 (Int.ofNat i)) (ilt (Int.ofNat i) (Int.ofNat n))), (bnot (ieq (codeF (f i)) 0)), (band (ile 0 (codeN (f i))) (ilt (codeN (f i)) 112)), (nlt (toN (codeN (f i))) 112), (bnot (s (toN (codeN (f i))))), (band (ile 0 (codeN (f i))) (ilt (codeN (f i)) 112)), (nlt (toN (codeN (f i))) 112), (ieq (wr IntKind.i64 (isub ((f i)).src 1)) 0), (ieq (wr IntKind.i64 (isub ((f i)).dst 1)) 0), (ieq (wr IntKind.i64 (isub ((f i)).src 1)) 0), (ieq (wr IntKind.i64 (isub ((f i)).dst 1)) 0)], (.nm, ⟨[.und, .und, (.ptr 0 0), (iV 0), (.ptr 1 0), (.ept 2 1 0 0), .und, .und, .und, .und, .und, .und, .und, .und, (.sl 6 n (fun i => (eV (f i)))), (iV (Int.ofNat n)), (iV (wr IntKind.i64 (iadd (Int.ofNat i) 1))), .und, .und, .und, .und, .und, .und, .und, .und, .und, .und, .und, .und, .und, .und, .und, .und, .und, .und, .und, .und, .und, .und, .und, .und, .und, .und, .und, .und, .und, .und, .und], [(.cells [(iV 0), (iV 0), (iV 0), (iV 0)]), (.cells [(iV (wr IntKind.i64 (iadd a 1))), (iV b), (iV c), (iV d)]), (.row 45 1 112 (setGet (fun j => (bV (s j))) (toN (codeN (f i))) (bV Bool.true)))]⟩)) := by kernel_rfl
theorem round12n00 (L : Nat → (St → T (Ex × St)) → St → T (Ex × St)) (n : Nat) (f : Nat → E6) (a b c d : Int) (s : Nat → Bool) (i : Nat)  (j : Nat → V) (h1 : ilt (Int.ofNat i) (Int.ofNat n) = true) (h0 : band (ile 0 (Int.ofNat i)) (ilt (Int.ofNat i) (Int.ofNat n)) = true) (h2 : ieq (codeF (f i)) 0 = true) (h3 : band (ile 0 (codeN (f i))) (ilt (codeN (f i)) 112) = true) (h4 : nlt (toN (codeN (f i))) 112 = true) (h5 : s (toN (codeN (f i))) = false) (h6 : ieq (wr IntKind.i64 (isub ((f i)).src 1)) 0 = true) (h7 : ieq (wr IntKind.i64 (isub ((f i)).dst 1)) 0 = true) : ((body12 L (st12 n f a b c d s i j)).bind fun r => T.leaf (cutR (lp12 n f) r)).sem = some (.nm, ⟨[.und, .und, (.ptr 0 0), (iV 0), (.ptr 1 0), (.ept 2 1 0 0), .und, .und, .und, .und, .und, .und, .und, .und, (.sl 6 n (fun i => (eV (f i)))), (iV (Int.ofNat n)), (iV (wr IntKind.i64 (iadd (Int.ofNat i) 1))), .und, .und, .und, .und, .und, .und, .und, .und, .und, .und, .und, .und, .und, .und, .und, .und, .und, .und, .und, .und, .und, .und, .und, .und, .und, .und, .und, .und, .und, .und, .und], [(.cells [(iV 0), (iV 0), (iV 0), (iV 0)]), (.cells [(iV (wr IntKind.i64 (iadd a 1))), (iV b), (iV c), (iV d)]), (.row 45 1 112 (setGet (fun j => (bV (s j))) (toN (codeN (f i))) (bV Bool.true)))]⟩) := by
  exact sem_of_path (round12n00_p L n f a b c d s i j) (by simp only [h1, h0, h2, h3, h4, h5, h6, h7] <;> rfl)
theorem round12n01_p (L : Nat → (St → T (Ex × St)) → St → T (Ex × St)) (n : Nat) (f : Nat → E6) (a b c d : Int) (s : Nat → Bool) (i : Nat)  (j : Nat → V) : ((body12 L (st12 n f a b c d s i j)).bind fun r => T.leaf (cutR (lp12 n f) r)).path [true, true, false, true, true, true, true, true, true, false, true, true, false, true] = some ([(ilt (Int.ofNat i) (Int.ofNat n)), (band (ile 0 (Int.ofNat i)) (ilt (Int.ofNat i) (Int.ofNat n))), (bnot (ieq (codeF (f i)) 0)), (band (ile 0 (codeN (f i))) (ilt (codeN (f i)) 112)), (nlt (toN (codeN (f i))) 112), (bnot (s (toN (codeN (f i))))), (band (ile 0 (codeN (f i))) (ilt (codeN (f i)) 112)), (nlt (toN (codeN (f i))) 112), (ieq (wr IntKind.i64 (isub ((f i)).src 1)) 0), (ieq (wr IntKind.i64 (isub ((f i)).dst 1)) 0), (ieq (wr IntKind.i64 (isub ((f i)).dst 1)) 1), (ieq (wr IntKind.i64 (isub ((f i)).src 1)) 0), (ieq (wr IntKind.i64 (isub ((f i)).dst 1)) 0), (ieq (wr IntKind.i64 (isub ((f i)).dst 1)) 1)], (.nm, ⟨[.und, .und, (.ptr 0 0), (iV 0), (.ptr 1 0), (.ept 2 1 0 0), .und, .und, .und, .und, .und, .und, .und, .und, (.sl 6 n (fun i => (eV (f i)))), (iV (Int.ofNat n)), (iV (wr IntKind.i64 (iadd (Int.ofNat i) 1))), .und, .und, .und, .und, .und, .und, .und, .und, .und, .und, .und, .und, .und, .und, .und, .und, .und, .und, .und, .und, .und, .und, .und, .und, .und, .und, .und, .und, .und, .und, .und], [(.cells [(iV 0), (iV 0), (iV 0), (iV 0)]), (.cells [(iV a), (iV (wr IntKind.i64 (iadd b 1))), (iV c), (iV d)]), (.row 45 1 112 (setGet (fun j => (bV (s j))) (toN (codeN (f i))) (bV Bool.true)))]⟩)) := by kernel_rfl
theorem round12n01 (L : Nat → (St → T (Ex × St)) → St → T (Ex × St)) (n : Nat) (f : Nat → E6) (a b c d : Int) (s : Nat → Bool) (i : Nat)  (j : Nat → V) (h1 : ilt (Int.ofNat i) (Int.ofNat n) = true) (h0 : band (ile 0 (Int.ofNat i)) (ilt (Int.ofNat i) (Int.ofNat n)) = true) (h2 : ieq (codeF (f i)) 0 = true) (h3 : band (ile 0 (codeN (f i))) (ilt (codeN (f i)) 112) = true) (h4 : nlt (toN (codeN (f i))) 112 = true) (h5 : s (toN (codeN (f i))) = false) (h6 : ieq (wr IntKind.i64 (isub ((f i)).src 1)) 0 = true) (h7 : ieq (wr IntKind.i64 (isub ((f i)).dst 1)) 0 = false) (h8 : ieq (wr IntKind.i64 (isub ((f i)).dst 1)) 1 = true) : ((body12 L (st12 n f a b c d s i j)).bind fun r => T.leaf (cutR (lp12 n f) r)).sem = some (.nm, ⟨[.und, .und, (.ptr 0 0), (iV 0), (.ptr 1 0), (.ept 2 1 0 0), .und, .und, .und, .und, .und, .und, .und, .und, (.sl 6 n (fun i => (eV (f i)))), (iV (Int.ofNat n)), (iV (wr IntKind.i64 (iadd (Int.ofNat i) 1))), .und, .und, .und, .und, .und, .und, .und, .und, .und, .und, .und, .und, .und, .und, .und, .und, .und, .und, .und, .und, .und, .und, .und, .und, .und, .und, .und, .und, .und, .und, .und], [(.cells [(iV 0), (iV 0), (iV 0), (iV 0)]), (.cells [(iV a), (iV (wr IntKind.i64 (iadd b 1))), (iV c), (iV d)]), (.row 45 1 112 (setGet (fun j => (bV (s j))) (toN (codeN (f i))) (bV Bool.true)))]⟩) := by
  exact sem_of_path (round12n01_p L n f a b c d s i j) (by simp only [h1, h0, h2, h3, h4, h5, h6, h7, h8] <;> rfl)
theorem round12n10_p (L : Nat → (St → T (Ex × St)) → St → T (Ex × St)) (n : Nat) (f : Nat → E6) (a b c d : Int) (s : Nat → Bool) (i : Nat)  (j : Nat → V) : ((body12 L (st12 n f a b c d s i j)).bind fun r => T.leaf (cutR (lp12 n f) r)).path [true, true, false, true, true, true, true, true, false, true, true, false, true, true] = some ([(ilt (Int.ofNat i) (Int.ofNat n)), (band (ile 0 (Int.ofNat i)) (ilt (Int.ofNat i) (Int.ofNat n))), (bnot (ieq (codeF (f i)) 0)), (band (ile 0 (codeN (f i))) (ilt (codeN (f i)) 112)), (nlt (toN (codeN (f i))) 112), (bnot (s (toN (codeN (f i))))), (band (ile 0 (codeN (f i))) (ilt (codeN (f i)) 112)), (nlt (toN (codeN (f i))) 112), (ieq (wr IntKind.i64 (isub ((f i)).src 1)) 0), (ieq (wr IntKind.i64 (isub ((f i)).src 1)) 1), (ieq (wr IntKind.i64 (isub ((f i)).dst 1)) 0), (ieq (wr IntKind.i64 (isub ((f i)).src 1)) 0), (ieq (wr IntKind.i64 (isub ((f i)).src 1)) 1), (ieq (wr IntKind.i64 (isub ((f i)).dst 1)) 0)], (.nm, ⟨[.und, .und, (.ptr 0 0), (iV 0), (.ptr 1 0), (.ept 2 1 0 0), .und, .und, .und, .und, .und, .und, .und, .und, (.sl 6 n (fun i => (eV (f i)))), (iV (Int.ofNat n)), (iV (wr IntKind.i64 (iadd (Int.ofNat i) 1))), .und, .und, .und, .und, .und, .und, .und, .und, .und, .und, .und, .und, .und, .und, .und, .und, .und, .und, .und, .und, .und, .und, .und, .und, .und, .und, .und, .und, .und, .und, .und], [(.cells [(iV 0), (iV 0), (iV 0), (iV 0)]), (.cells [(iV a), (iV b), (iV (wr IntKind.i64 (iadd c 1))), (iV d)]), (.row 45 1 112 (setGet (fun j => (bV (s j))) (toN (codeN (f i))) (bV Bool.true)))]⟩)) := by kernel_rfl
theorem round12n10 (L : Nat → (St → T (Ex × St)) → St → T (Ex × St)) (n : Nat) (f : Nat → E6) (a b c d : Int) (s : Nat → Bool) (i : Nat)  (j : Nat → V) (h1 : ilt (Int.ofNat i) (Int.ofNat n) = true) (h0 : band (ile 0 (Int.ofNat i)) (ilt (Int.ofNat i) (Int.ofNat n)) = true) (h2 : ieq (codeF (f i)) 0 = true) (h3 : band (ile 0 (codeN (f i))) (ilt (codeN (f i)) 112) = true) (h4 : nlt (toN (codeN (f i))) 112 = true) (h5 : s (toN (codeN (f i))) = false) (h6 : ieq (wr IntKind.i64 (isub ((f i)).src 1)) 0 = false) (h7 : ieq (wr IntKind.i64 (isub ((f i)).src 1)) 1 = true) (h8 : ieq (wr IntKind.i64 (isub ((f i)).dst 1)) 0 = true) : ((body12 L (st12 n f a b c d s i j)).bind fun r => T.leaf (cutR (lp12 n f) r)).sem = some (.nm, ⟨[.und, .und, (.ptr 0 0), (iV 0), (.ptr 1 0), (.ept 2 1 0 0), .und, .und, .und, .und, .und, .und, .und, .und, (.sl 6 n (fun i => (eV (f i)))), (iV (Int.ofNat n)), (iV (wr IntKind.i64 (iadd (Int.ofNat i) 1))), .und, .und, .und, .und, .und, .und, .und, .und, .und, .und, .und, .und, .und, .und, .und, .und, .und, .und, .und, .und, .und, .und, .und, .und, .und, .und, .und, .und, .und, .und, .und], [(.cells [(iV 0), (iV 0), (iV 0), (iV 0)]), (.cells [(iV a), (iV b), (iV (wr IntKind.i64 (iadd c 1))), (iV d)]), (.row 45 1 112 (setGet (fun j => (bV (s j))) (toN (codeN (f i))) (bV Bool.true)))]⟩) := by
  exact sem_of_path (round12n10_p L n f a b c d s i j) (by simp only [h1, h0, h2, h3, h4, h5, h6, h7, h8] <;> rfl)
theorem round12n11_p (L : Nat → (St → T (Ex × St)) → St → T (Ex × St)) (n : Nat) (f : Nat → E6) (a b c d : Int) (s : Nat → Bool) (i : Nat)  (j : Nat → V) : ((body12 L (st12 n f a b c d s i j)).bind fun r => T.leaf (cutR (lp12 n f) r)).path [true, true, false, true, true, true, true, true, false, true, false, true, false, true, false, true] = some ([(ilt (Int.ofNat i) (Int.ofNat n)), (band (ile 0 (Int.ofNat i)) (ilt (Int.ofNat i) (Int.ofNat n))), (bnot (ieq (codeF (f i)) 0)), (band (ile 0 (codeN (f i))) (ilt (codeN (f i)) 112)), (nlt (toN (codeN (f i))) 112), (bnot (s (toN (codeN (f i))))), (band (ile 0 (codeN (f i))) (ilt (codeN (f i)) 112)), (nlt (toN (codeN (f i))) 112), (ieq (wr IntKind.i64 (isub ((f i)).src 1)) 0), (ieq (wr IntKind.i64 (isub ((f i)).src 1)) 1), (ieq (wr IntKind.i64 (isub ((f i)).dst 1)) 0), (ieq (wr IntKind.i64 (isub ((f i)).dst 1)) 1), (ieq (wr IntKind.i64 (isub ((f i)).src 1)) 0), (ieq (wr IntKind.i64 (isub ((f i)).src 1)) 1), (ieq (wr IntKind.i64 (isub ((f i)).dst 1)) 0), (ieq (wr IntKind.i64 (isub ((f i)).dst 1)) 1)], (.nm, ⟨[.und, .und, (.ptr 0 0), (iV 0), (.ptr 1 0), (.ept 2 1 0 0), .und, .und, .und, .und, .und, .und, .und, .und, (.sl 6 n (fun i => (eV (f i)))), (iV (Int.ofNat n)), (iV (wr IntKind.i64 (iadd (Int.ofNat i) 1))), .und, .und, .und, .und, .und, .und, .und, .und, .und, .und, .und, .und, .und, .und, .und, .und, .und, .und, .und, .und, .und, .und, .und, .und, .und, .und, .und, .und, .und, .und, .und], [(.cells [(iV 0), (iV 0), (iV 0), (iV 0)]), (.cells [(iV a), (iV b), (iV c), (iV (wr IntKind.i64 (iadd d 1)))]), (.row 45 1 112 (setGet (fun j => (bV (s j))) (toN (codeN (f i))) (bV Bool.true)))]⟩)) := by kernel_rfl
theorem round12n11 (L : Nat → (St → T (Ex × St)) → St → T (Ex × St)) (n : Nat) (f : Nat → E6) (a b c d : Int) (s : Nat → Bool) (i : Nat)  (j : Nat → V) (h1 : ilt (Int.ofNat i) (Int.ofNat n) = true) (h0 : band (ile 0 (Int.ofNat i)) (ilt (Int.ofNat i) (Int.ofNat n)) = true) (h2 : ieq (codeF (f i)) 0 = true) (h3 : band (ile 0 (codeN (f i))) (ilt (codeN (f i)) 112) = true) (h4 : nlt (toN (codeN (f i))) 112 = true) (h5 : s (toN (codeN (f i))) = false) (h6 : ieq (wr IntKind.i64 (isub ((f i)).src 1)) 0 = false) (h7 : ieq (wr IntKind.i64 (isub ((f i)).src 1)) 1 = true) (h8 : ieq (wr IntKind.i64 (isub ((f i)).dst 1)) 0 = false) (h9 : ieq (wr IntKind.i64 (isub ((f i)).dst 1)) 1 = true) : ((body12 L (st12 n f a b c d s i j)).bind fun r => T.leaf (cutR (lp12 n f) r)).sem = some (.nm, ⟨[.und, .und, (.ptr 0 0), (iV 0), (.ptr 1 0), (.ept 2 1 0 0), .und, .und, .und, .und, .und, .und, .und, .und, (.sl 6 n (fun i => (eV (f i)))), (iV (Int.ofNat n)), (iV (wr IntKind.i64 (iadd (Int.ofNat i) 1))), .und, .und, .und, .und, .und, .und, .und, .und, .und, .und, .und, .und, .und, .und, .und, .und, .und, .und, .und, .und, .und, .und, .und, .und, .und, .und, .und, .und, .und, .und, .und], [(.cells [(iV 0), (iV 0), (iV 0), (iV 0)]), (.cells [(iV a), (iV b), (iV c), (iV (wr IntKind.i64 (iadd d 1)))]), (.row 45 1 112 (setGet (fun j => (bV (s j))) (toN (codeN (f i))) (bV Bool.true)))]⟩) := by
  exact sem_of_path (round12n11_p L n f a b c d s i j) (by simp only [h1, h0, h2, h3, h4, h5, h6, h7, h8, h9] <;> rfl)
def jk12 (n : Nat) (f : Nat → E6)  : Nat → V
  | 0 => (.sl 6 n (fun i => (eV (f i))))
  | 10 => (.sl 6 n (fun i => (eV (f i))))
  | 11 => (iV (Int.ofNat n))
  | 12 => (bV (ilt 128 (Int.ofNat n)))
  | _ => undefV

theorem way12f_p (L : Nat → (St → T (Ex × St)) → St → T (Ex × St)) (n : Nat) (f : Nat → E6) : (finF (evalF tab ⟨callT tbM2, L, Gl⟩ Try.f12 [edgesV n f] [])).path [true] = some ([(ilt 128 (Int.ofNat n))], ((.tup [(.agg [(iV 0), (iV 0), (iV 0), (iV 0)]), (iV 2)]), [])) := by kernel_rfl
theorem way12f (L : Nat → (St → T (Ex × St)) → St → T (Ex × St)) (n : Nat) (f : Nat → E6) (h0 : ilt 128 (Int.ofNat n) = true) : (finF (evalF tab ⟨callT tbM2, L, Gl⟩ Try.f12 [edgesV n f] [])).sem = some ((.tup [(.agg [(iV 0), (iV 0), (iV 0), (iV 0)]), (iV 2)]), []) := by
  exact sem_of_path (way12f_p L n f) (by simp only [h0] <;> rfl)

theorem way12a_p (L : Nat → (St → T (Ex × St)) → St → T (Ex × St)) (p0 : (St → T (Ex × St)) → St → Bool) (n : Nat) (f : Nat → E6) (a b c d : Int) (s : Nat → Bool) (i : Nat) : (finF (evalF tab ⟨callT tbM2, (onP 0 p0 (en12a n f a b c d s i) L), Gl⟩ Try.f12 [edgesV n f] [])).path [false, true] = some ([(ilt 128 (Int.ofNat n)), (p0 (body12 (onP 0 p0 (en12a n f a b c d s i) L)) (st12 n f 0 0 0 0 (fun _ => Bool.false) 0 (jk12 n f )))], ((.tup [(.agg [(iV a), (iV b), (iV c), (iV d)]), (iV 0)]), [])) := by kernel_rfl
theorem way12a (L : Nat → (St → T (Ex × St)) → St → T (Ex × St)) (p0 : (St → T (Ex × St)) → St → Bool) (n : Nat) (f : Nat → E6) (a b c d : Int) (s : Nat → Bool) (i : Nat) (h0 : ilt 128 (Int.ofNat n) = false) (hp0 : p0 (body12 (onP 0 p0 (en12a n f a b c d s i) L)) (st12 n f 0 0 0 0 (fun _ => Bool.false) 0 (jk12 n f )) = true) : (finF (evalF tab ⟨callT tbM2, (onP 0 p0 (en12a n f a b c d s i) L), Gl⟩ Try.f12 [edgesV n f] [])).sem = some ((.tup [(.agg [(iV a), (iV b), (iV c), (iV d)]), (iV 0)]), []) := by
  exact sem_of_path (way12a_p L p0 n f a b c d s i) (by simp only [h0, hp0] <;> rfl)

theorem way12b_p (L : Nat → (St → T (Ex × St)) → St → T (Ex × St)) (p0 : (St → T (Ex × St)) → St → Bool) (n : Nat) (f : Nat → E6) (a b c d : Int) (s : Nat → Bool) (i : Nat) : (finF (evalF tab ⟨callT tbM2, (onP 0 p0 (en12b n f a b c d s i) L), Gl⟩ Try.f12 [edgesV n f] [])).path [false, true] = some ([(ilt 128 (Int.ofNat n)), (p0 (body12 (onP 0 p0 (en12b n f a b c d s i) L)) (st12 n f 0 0 0 0 (fun _ => Bool.false) 0 (jk12 n f )))], ((.tup [(.agg [(iV 0), (iV 0), (iV 0), (iV 0)]), (iV 30)]), [])) := by kernel_rfl
theorem way12b (L : Nat → (St → T (Ex × St)) → St → T (Ex × St)) (p0 : (St → T (Ex × St)) → St → Bool) (n : Nat) (f : Nat → E6) (a b c d : Int) (s : Nat → Bool) (i : Nat) (h0 : ilt 128 (Int.ofNat n) = false) (hp0 : p0 (body12 (onP 0 p0 (en12b n f a b c d s i) L)) (st12 n f 0 0 0 0 (fun _ => Bool.false) 0 (jk12 n f )) = true) : (finF (evalF tab ⟨callT tbM2, (onP 0 p0 (en12b n f a b c d s i) L), Gl⟩ Try.f12 [edgesV n f] [])).sem = some ((.tup [(.agg [(iV 0), (iV 0), (iV 0), (iV 0)]), (iV 30)]), []) := by
  exact sem_of_path (way12b_p L p0 n f a b c d s i) (by simp only [h0, hp0] <;> rfl)

/-- The state at the i-th round. -/
def S12 (n : Nat) (f : Nat → E6) (l : List E6) (i : Nat) (j : Nat → V) : St := st12 n f (Int.ofNat (cntL l 0)) (Int.ofNat (cntL l 1)) (Int.ofNat (cntL l 2)) (Int.ofNat (cntL l 3)) (seenL l) i j

theorem step12 (L : Nat → (St → T (Ex × St)) → St → T (Ex × St)) (n : Nat) (f : Nat → E6) (hn : n ≤ 128) (i : Nat) (hi : i < n) (ho : ∀ t, t ≤ i → codeF (f t) = 0) (j : Nat → V) :
    roundT (body12 L) (lp12 n f) (S12 n f (onceR f i) i j) = some (.nm, S12 n f (onceR f (i + 1)) (i + 1) fun _ => .und) := by
  have hc := ho i (Nat.le_refl _)
  obtain ⟨k, hk, hk'⟩ := code_in hc
  have c0 : ieq (codeF (f i)) 0 = true := ieq_true hc
  have c1 : band (ile 0 (codeN (f i))) (ilt (codeN (f i)) 112) = true := by rw [hk]; exact ofNat_in hk'
  have c2 : nlt (toN (codeN (f i))) 112 = true := by rw [hk]; exact nlt_true hk'
  have hs := seen_once ho
  have hl := onceR_len f i
  have b0 := cntL_le (onceR f i) 0
  have b1 := cntL_le (onceR f i) 1
  have b2 := cntL_le (onceR f i) 2
  have b3 := cntL_le (onceR f i) 3
  cases hb : anyE (getE (onceR f i)) (f i) (onceR f i).length 0 with
  | true =>
    rw [hb] at hs
    rw [onceR_true hb]
    refine (round12s L n f _ _ _ _ _ i j (ofNat_lt hi) (ofNat_in hi) c0 c1 c2 hs).trans ?_
    rw [succ_wr hi (by omega)]
    rfl
  | false =>
    rw [hb] at hs
    rw [onceR_false hb]
    unfold S12
    rcases four hc with ⟨h1, h2, h3⟩ | ⟨h1, h2, h3⟩ | ⟨h1, h2, h3⟩ | ⟨h1, h2, h3⟩
    · refine (round12n00 L n f _ _ _ _ _ i j (ofNat_lt hi) (ofNat_in hi) c0 c1 c2 hs (by rw [h1]; rfl) (by rw [h2]; rfl)).trans ?_
      rw [succ_wr hi (by omega), inc_wr (by omega), seen_push, cnt_yes h3, cnt_no (q := 1) (by omega), cnt_no (q := 2) (by omega), cnt_no (q := 3) (by omega)]
      rfl
    · refine (round12n01 L n f _ _ _ _ _ i j (ofNat_lt hi) (ofNat_in hi) c0 c1 c2 hs (by rw [h1]; rfl) (by rw [h2]; rfl) (by rw [h2]; rfl)).trans ?_
      rw [succ_wr hi (by omega), inc_wr (by omega), seen_push, cnt_yes h3, cnt_no (q := 0) (by omega), cnt_no (q := 2) (by omega), cnt_no (q := 3) (by omega)]
      rfl
    · refine (round12n10 L n f _ _ _ _ _ i j (ofNat_lt hi) (ofNat_in hi) c0 c1 c2 hs (by rw [h1]; rfl) (by rw [h1]; rfl) (by rw [h2]; rfl)).trans ?_
      rw [succ_wr hi (by omega), inc_wr (by omega), seen_push, cnt_yes h3, cnt_no (q := 0) (by omega), cnt_no (q := 1) (by omega), cnt_no (q := 3) (by omega)]
      rfl
    · refine (round12n11 L n f _ _ _ _ _ i j (ofNat_lt hi) (ofNat_in hi) c0 c1 c2 hs (by rw [h1]; rfl) (by rw [h1]; rfl) (by rw [h2]; rfl) (by rw [h2]; rfl)).trans ?_
      rw [succ_wr hi (by omega), inc_wr (by omega), seen_push, cnt_yes h3, cnt_no (q := 0) (by omega), cnt_no (q := 1) (by omega), cnt_no (q := 2) (by omega)]
      rfl

theorem run12a (L : Nat → (St → T (Ex × St)) → St → T (Ex × St)) (n : Nat) (f : Nat → E6) (hn : n ≤ 128) (ho : ∀ t, t < n → codeF (f t) = 0) : ∀ (d i : Nat) (j : Nat → V) (q : Nat), n = i + d → d < q →
    (iterT (body12 L) (lp12 n f) q (S12 n f (onceR f i) i j)).sem = some (en12a n f (Int.ofNat (cntL (onceR f n) 0)) (Int.ofNat (cntL (onceR f n) 1)) (Int.ofNat (cntL (onceR f n) 2)) (Int.ofNat (cntL (onceR f n) 3)) (fun _ => false) 0)
  | 0, i, j, q + 1, h1, _ => by
    have hi : i = n := by omega
    subst hi
    exact iter_round (round12a L i f _ _ _ _ _ i j (ofNat_ge (Nat.le_refl i)))
  | d + 1, i, j, q + 1, h1, h2 => by
    rw [iter_round (step12 L n f hn i (by omega) (fun t ht => ho t (by omega)) j), goOn_nm]
    exact run12a L n f hn ho d (i + 1) (fun _ => .und) q (by omega) (by omega)

theorem run12b (L : Nat → (St → T (Ex × St)) → St → T (Ex × St)) (n : Nat) (f : Nat → E6) (hn : n ≤ 128) (e : Nat) (he : e < n) (hb : codeF (f e) = 30) (ho : ∀ t, t < e → codeF (f t) = 0) : ∀ (d i : Nat) (j : Nat → V) (q : Nat), e = i + d → d < q →
    (iterT (body12 L) (lp12 n f) q (S12 n f (onceR f i) i j)).sem = some (en12b n f (Int.ofNat (cntL (onceR f e) 0)) (Int.ofNat (cntL (onceR f e) 1)) (Int.ofNat (cntL (onceR f e) 2)) (Int.ofNat (cntL (onceR f e) 3)) (fun _ => false) 0)
  | 0, i, j, q + 1, h1, _ => by
    have hi : i = e := by omega
    subst hi
    exact iter_round (round12b L n f _ _ _ _ _ i j (ofNat_lt he) (ofNat_in he) (by rw [hb]; rfl))
  | d + 1, i, j, q + 1, h1, h2 => by
    rw [iter_round (step12 L n f hn i (by omega) (fun t ht => ho t (by omega)) j), goOn_nm]
    exact run12b L n f hn e he hb ho d (i + 1) (fun _ => .und) q (by omega) (by omega)

def matN (n : Nat) (f : Nat → E6) (q : Nat) : Int := Int.ofNat (cntL (onceR f n) q)
def matV (n : Nat) (f : Nat → E6) : V := .agg [iV (matN n f 0), iV (matN n f 1), iV (matN n f 2), iV (matN n f 3)]
def zeroM : V := .agg [iV 0, iV 0, iV 0, iV 0]
def matT : List V → T (V × List Blk) := apL1 fun n f => .br (ilt 128 (Int.ofNat n)) (out (.tup [zeroM, iV 2])) (.br (mayN n f) (out (.tup [matV n f, iV 0])) (out (.tup [zeroM, iV 30])))

theorem p12 : PureC Try.prog Gl 12 matT := by
  refine pureC_intro tabOK mixed Try.func12 (by kernel_rfl) (by kernel_rfl) fun vs v h' h => ?_
  obtain ⟨n, f, ha, hq⟩ := apL1_some h
  have hx := cx_ok tbM2_ok [(0, lp12 n f)]
  have hL := loopsBy_le [(0, lp12 n f)]
  refine ⟨_, cxOf Gl tbM2 [(0, lp12 n f)], h', ha, rfl, hx.1, hx.2, ?_, RowsLE.refl _⟩
  rcases many n with ⟨h1, _⟩ | ⟨h1, hn⟩
  · rw [h1] at hq
    rw [sem_leaf hq]
    exact way12f _ n f h1
  · rw [h1] at hq
    cases hm : mayN n f with
    | true =>
      rw [hm] at hq
      rw [sem_leaf hq]
      exact told_le (onP_le hL hL) _ (way12a _ _ n f _ _ _ _ _ 0 h1 (isP_true (run12a _ n f hn (mayN_iff.1 hm) n 0 _ (n + 1) (by omega) (by omega))))
    | false =>
      rw [hm] at hq
      rw [sem_leaf hq]
      obtain ⟨e, k1, k2, k3⟩ := may_no hm
      exact told_le (onP_le hL hL) _ (way12b _ _ n f _ _ _ _ _ 0 h1 (isP_true (run12b _ n f hn e k1 k2 k3 e 0 _ (n + 1) (by omega) (by omega))))

/-! ### The document's -/

noncomputable def tbN2 : List (Nat × (List V → T (V × List Blk))) := (32, vocT) :: (19, onceT) :: tbM3
theorem tbN2_ok : AllPure Try.prog Gl tbN2 := .cons p32 <| .cons p19 tbM3_ok

def onceN (n : Nat) (f : Nat → E6) : Nat := (onceR f n).length
def onceE (n : Nat) (f : Nat → E6) : Nat → E6 := getE (onceR f n)

def lp13 (n : Nat) (f : Nat → E6) : Lp := ⟨[false, false, true, true, true, false, true, true, false, false, false, false, false, false, false, false, false, false, false, false, false, false, false, false, false, false, false, false, false, false, false, false, false, false, false, false, false, false, false, false, false], 3, [false, false, true, true, true, false, false, false, false, false, false, false, false, false, false, false, false, false, false, false, false, false, false, false, false, false, false, false, false, false, false, false, false, false, false, false, false, false, false, false, false], 2, 129⟩
def st13 (n : Nat) (f : Nat → E6) (N : Nat) (g : Nat → E6) (a b c d : Int) (i : Nat) (j : Nat → V) : St := ⟨[j 0, j 1, .ptr 0 0, iV 0, .ptr 1 0, j 5, .ref 2, iV (Int.ofNat i), j 8, j 9, j 10, j 11, j 12, j 13, j 14, j 15, j 16, j 17, j 18, j 19, j 20, j 21, j 22, j 23, j 24, j 25, j 26, j 27, j 28, j 29, j 30, j 31, j 32, j 33, j 34, j 35, j 36, j 37, j 38, j 39, j 40], [.cells [iV 0, iV 0, iV 0, iV 0], .cells [iV a, iV b, iV c, iV d], .row 36 6 N (fun j => eV (g j))]⟩
def en13a (n : Nat) (f : Nat → E6) (N : Nat) (g : Nat → E6) (a b c d : Int) (i : Nat) : Ex × St := (.ex 0, ⟨[.und, .und, .ptr 0 0, iV 0, .ptr 1 0, .und, .und, .und, .und, .und, .und, .und, .und, .und, .und, .und, .und, .und, .und, .und, .und, .und, .und, .und, .und, .und, .und, .und, .und, .und, .und, .und, .und, .und, .und, .und, .und, .und, .und, .und, .und], [.cells [iV 0, iV 0, iV 0, iV 0], .cells [iV a, iV b, iV c, iV d]]⟩)
noncomputable def body13 (L : Nat → (St → T (Ex × St)) → St → T (Ex × St)) : St → T (Ex × St) := fun st => evalC tab ⟨callT tbN2, L, Gl⟩ (loopBody Try.f13 0) 0 st
theorem round13a_p (L : Nat → (St → T (Ex × St)) → St → T (Ex × St)) (n : Nat) (f : Nat → E6) (N : Nat) (g : Nat → E6) (a b c d : Int) (i : Nat)  (j : Nat → V) : ((body13 L (st13 n f N g a b c d i j)).bind fun r => T.leaf (cutR (lp13 n f) r)).path [false] = some ([(ilt (Int.ofNat i) (Int.ofNat N))], ((.ex 0), ⟨[.und, .und, (.ptr 0 0), (iV 0), (.ptr 1 0), .und, .und, .und, .und, .und, .und, .und, .und, .und, .und, .und, .und, .und, .und, .und, .und, .und, .und, .und, .und, .und, .und, .und, .und, .und, .und, .und, .und, .und, .und, .und, .und, .und, .und, .und, .und], [(.cells [(iV 0), (iV 0), (iV 0), (iV 0)]), (.cells [(iV a), (iV b), (iV c), (iV d)])]⟩)) := by kernel_rfl
theorem round13a (L : Nat → (St → T (Ex × St)) → St → T (Ex × St)) (n : Nat) (f : Nat → E6) (N : Nat) (g : Nat → E6) (a b c d : Int) (i : Nat)  (j : Nat → V) (h0 : ilt (Int.ofNat i) (Int.ofNat N) = false) : ((body13 L (st13 n f N g a b c d i j)).bind fun r => T.leaf (cutR (lp13 n f) r)).sem = some ((.ex 0), ⟨[.und, .und, (.ptr 0 0), (iV 0), (.ptr 1 0), .und, .und, .und, .und, .und, .und, .und, .und, .und, .und, .und, .und, .und, .und, .und, .und, .und, .und, .und, .und, .und, .und, .und, .und, .und, .und, .und, .und, .und, .und, .und, .und, .und, .und, .und, .und], [(.cells [(iV 0), (iV 0), (iV 0), (iV 0)]), (.cells [(iV a), (iV b), (iV c), (iV d)])]⟩) := by
  exact sem_of_path (round13a_p L n f N g a b c d i j) (by simp only [h0] <;> rfl)
theorem round13n00_p (L : Nat → (St → T (Ex × St)) → St → T (Ex × St)) (n : Nat) (f : Nat → E6) (N : Nat) (g : Nat → E6) (a b c d : Int) (i : Nat)  (j : Nat → V) : ((body13 L (st13 n f N g a b c d i j)).bind fun r => T.leaf (cutR (lp13 n f) r)).path [true, true, true, true, true, true, true, true, true] = some ([(ilt (Int.ofNat i) (Int.ofNat N)), (band (ile 0 (Int.ofNat i)) (ilt (Int.ofNat i) (Int.ofNat N))), (nlt i N), (band (ile 0 (Int.ofNat i)) (ilt (Int.ofNat i) (Int.ofNat N))), (nlt i N), (ieq (wr IntKind.i64 (isub ((g i)).src 1)) 0), (ieq (wr IntKind.i64 (isub ((g i)).dst 1)) 0), (ieq (wr IntKind.i64 (isub ((g i)).src 1)) 0), (ieq (wr IntKind.i64 (isub ((g i)).dst 1)) 0)], (.nm, ⟨[.und, .und, (.ptr 0 0), (iV 0), (.ptr 1 0), .und, (.ref 2), (iV (wr IntKind.i64 (iadd (Int.ofNat i) 1))), .und, .und, .und, .und, .und, .und, .und, .und, .und, .und, .und, .und, .und, .und, .und, .und, .und, .und, .und, .und, .und, .und, .und, .und, .und, .und, .und, .und, .und, .und, .und, .und, .und], [(.cells [(iV 0), (iV 0), (iV 0), (iV 0)]), (.cells [(iV (wr IntKind.i64 (iadd a 1))), (iV b), (iV c), (iV d)]), (.row 36 6 N (fun j => (eV (g j))))]⟩)) := by kernel_rfl
theorem round13n00 (L : Nat → (St → T (Ex × St)) → St → T (Ex × St)) (n : Nat) (f : Nat → E6) (N : Nat) (g : Nat → E6) (a b c d : Int) (i : Nat)  (j : Nat → V) (h1 : ilt (Int.ofNat i) (Int.ofNat N) = true) (h0 : band (ile 0 (Int.ofNat i)) (ilt (Int.ofNat i) (Int.ofNat N)) = true) (h2 : nlt i N = true) (h3 : ieq (wr IntKind.i64 (isub ((g i)).src 1)) 0 = true) (h4 : ieq (wr IntKind.i64 (isub ((g i)).dst 1)) 0 = true) : ((body13 L (st13 n f N g a b c d i j)).bind fun r => T.leaf (cutR (lp13 n f) r)).sem = some (.nm, ⟨[.und, .und, (.ptr 0 0), (iV 0), (.ptr 1 0), .und, (.ref 2), (iV (wr IntKind.i64 (iadd (Int.ofNat i) 1))), .und, .und, .und, .und, .und, .und, .und, .und, .und, .und, .und, .und, .und, .und, .und, .und, .und, .und, .und, .und, .und, .und, .und, .und, .und, .und, .und, .und, .und, .und, .und, .und, .und], [(.cells [(iV 0), (iV 0), (iV 0), (iV 0)]), (.cells [(iV (wr IntKind.i64 (iadd a 1))), (iV b), (iV c), (iV d)]), (.row 36 6 N (fun j => (eV (g j))))]⟩) := by
  exact sem_of_path (round13n00_p L n f N g a b c d i j) (by simp only [h1, h0, h2, h3, h4] <;> rfl)
theorem round13n01_p (L : Nat → (St → T (Ex × St)) → St → T (Ex × St)) (n : Nat) (f : Nat → E6) (N : Nat) (g : Nat → E6) (a b c d : Int) (i : Nat)  (j : Nat → V) : ((body13 L (st13 n f N g a b c d i j)).bind fun r => T.leaf (cutR (lp13 n f) r)).path [true, true, true, true, true, true, false, true, true, false, true] = some ([(ilt (Int.ofNat i) (Int.ofNat N)), (band (ile 0 (Int.ofNat i)) (ilt (Int.ofNat i) (Int.ofNat N))), (nlt i N), (band (ile 0 (Int.ofNat i)) (ilt (Int.ofNat i) (Int.ofNat N))), (nlt i N), (ieq (wr IntKind.i64 (isub ((g i)).src 1)) 0), (ieq (wr IntKind.i64 (isub ((g i)).dst 1)) 0), (ieq (wr IntKind.i64 (isub ((g i)).dst 1)) 1), (ieq (wr IntKind.i64 (isub ((g i)).src 1)) 0), (ieq (wr IntKind.i64 (isub ((g i)).dst 1)) 0), (ieq (wr IntKind.i64 (isub ((g i)).dst 1)) 1)], (.nm, ⟨[.und, .und, (.ptr 0 0), (iV 0), (.ptr 1 0), .und, (.ref 2), (iV (wr IntKind.i64 (iadd (Int.ofNat i) 1))), .und, .und, .und, .und, .und, .und, .und, .und, .und, .und, .und, .und, .und, .und, .und, .und, .und, .und, .und, .und, .und, .und, .und, .und, .und, .und, .und, .und, .und, .und, .und, .und, .und], [(.cells [(iV 0), (iV 0), (iV 0), (iV 0)]), (.cells [(iV a), (iV (wr IntKind.i64 (iadd b 1))), (iV c), (iV d)]), (.row 36 6 N (fun j => (eV (g j))))]⟩)) := by kernel_rfl
theorem round13n01 (L : Nat → (St → T (Ex × St)) → St → T (Ex × St)) (n : Nat) (f : Nat → E6) (N : Nat) (g : Nat → E6) (a b c d : Int) (i : Nat)  (j : Nat → V) (h1 : ilt (Int.ofNat i) (Int.ofNat N) = true) (h0 : band (ile 0 (Int.ofNat i)) (ilt (Int.ofNat i) (Int.ofNat N)) = true) (h2 : nlt i N = true) (h3 : ieq (wr IntKind.i64 (isub ((g i)).src 1)) 0 = true) (h4 : ieq (wr IntKind.i64 (isub ((g i)).dst 1)) 0 = false) (h5 : ieq (wr IntKind.i64 (isub ((g i)).dst 1)) 1 = true) : ((body13 L (st13 n f N g a b c d i j)).bind fun r => T.leaf (cutR (lp13 n f) r)).sem = some (.nm, ⟨[.und, .und, (.ptr 0 0), (iV 0), (.ptr 1 0), .und, (.ref 2), (iV (wr IntKind.i64 (iadd (Int.ofNat i) 1))), .und, .und, .und, .und, .und, .und, .und, .und, .und, .und, .und, .und, .und, .und, .und, .und, .und, .und, .und, .und, .und, .und, .und, .und, .und, .und, .und, .und, .und, .und, .und, .und, .und], [(.cells [(iV 0), (iV 0), (iV 0), (iV 0)]), (.cells [(iV a), (iV (wr IntKind.i64 (iadd b 1))), (iV c), (iV d)]), (.row 36 6 N (fun j => (eV (g j))))]⟩) := by
  exact sem_of_path (round13n01_p L n f N g a b c d i j) (by simp only [h1, h0, h2, h3, h4, h5] <;> rfl)
theorem round13n10_p (L : Nat → (St → T (Ex × St)) → St → T (Ex × St)) (n : Nat) (f : Nat → E6) (N : Nat) (g : Nat → E6) (a b c d : Int) (i : Nat)  (j : Nat → V) : ((body13 L (st13 n f N g a b c d i j)).bind fun r => T.leaf (cutR (lp13 n f) r)).path [true, true, true, true, true, false, true, true, false, true, true] = some ([(ilt (Int.ofNat i) (Int.ofNat N)), (band (ile 0 (Int.ofNat i)) (ilt (Int.ofNat i) (Int.ofNat N))), (nlt i N), (band (ile 0 (Int.ofNat i)) (ilt (Int.ofNat i) (Int.ofNat N))), (nlt i N), (ieq (wr IntKind.i64 (isub ((g i)).src 1)) 0), (ieq (wr IntKind.i64 (isub ((g i)).src 1)) 1), (ieq (wr IntKind.i64 (isub ((g i)).dst 1)) 0), (ieq (wr IntKind.i64 (isub ((g i)).src 1)) 0), (ieq (wr IntKind.i64 (isub ((g i)).src 1)) 1), (ieq (wr IntKind.i64 (isub ((g i)).dst 1)) 0)], (.nm, ⟨[.und, .und, (.ptr 0 0), (iV 0), (.ptr 1 0), .und, (.ref 2), (iV (wr IntKind.i64 (iadd (Int.ofNat i) 1))), .und, .und, .und, .und, .und, .und, .und, .und, .und, .und, .und, .und, .und, .und, .und, .und, .und, .und, .und, .und, .und, .und, .und, .und, .und, .und, .und, .und, .und, .und, .und, .und, .und], [(.cells [(iV 0), (iV 0), (iV 0), (iV 0)]), (.cells [(iV a), (iV b), (iV (wr IntKind.i64 (iadd c 1))), (iV d)]), (.row 36 6 N (fun j => (eV (g j))))]⟩)) := by kernel_rfl
theorem round13n10 (L : Nat → (St → T (Ex × St)) → St → T (Ex × St)) (n : Nat) (f : Nat → E6) (N : Nat) (g : Nat → E6) (a b c d : Int) (i : Nat)  (j : Nat → V) (h1 : ilt (Int.ofNat i) (Int.ofNat N) = true) (h0 : band (ile 0 (Int.ofNat i)) (ilt (Int.ofNat i) (Int.ofNat N)) = true) (h2 : nlt i N = true) (h3 : ieq (wr IntKind.i64 (isub ((g i)).src 1)) 0 = false) (h4 : ieq (wr IntKind.i64 (isub ((g i)).src 1)) 1 = true) (h5 : ieq (wr IntKind.i64 (isub ((g i)).dst 1)) 0 = true) : ((body13 L (st13 n f N g a b c d i j)).bind fun r => T.leaf (cutR (lp13 n f) r)).sem = some (.nm, ⟨[.und, .und, (.ptr 0 0), (iV 0), (.ptr 1 0), .und, (.ref 2), (iV (wr IntKind.i64 (iadd (Int.ofNat i) 1))), .und, .und, .und, .und, .und, .und, .und, .und, .und, .und, .und, .und, .und, .und, .und, .und, .und, .und, .und, .und, .und, .und, .und, .und, .und, .und, .und, .und, .und, .und, .und, .und, .und], [(.cells [(iV 0), (iV 0), (iV 0), (iV 0)]), (.cells [(iV a), (iV b), (iV (wr IntKind.i64 (iadd c 1))), (iV d)]), (.row 36 6 N (fun j => (eV (g j))))]⟩) := by
  exact sem_of_path (round13n10_p L n f N g a b c d i j) (by simp only [h1, h0, h2, h3, h4, h5] <;> rfl)
theorem round13n11_p (L : Nat → (St → T (Ex × St)) → St → T (Ex × St)) (n : Nat) (f : Nat → E6) (N : Nat) (g : Nat → E6) (a b c d : Int) (i : Nat)  (j : Nat → V) : ((body13 L (st13 n f N g a b c d i j)).bind fun r => T.leaf (cutR (lp13 n f) r)).path [true, true, true, true, true, false, true, false, true, false, true, false, true] = some ([(ilt (Int.ofNat i) (Int.ofNat N)), (band (ile 0 (Int.ofNat i)) (ilt (Int.ofNat i) (Int.ofNat N))), (nlt i N), (band (ile 0 (Int.ofNat i)) (ilt (Int.ofNat i) (Int.ofNat N))), (nlt i N), (ieq (wr IntKind.i64 (isub ((g i)).src 1)) 0), (ieq (wr IntKind.i64 (isub ((g i)).src 1)) 1), (ieq (wr IntKind.i64 (isub ((g i)).dst 1)) 0), (ieq (wr IntKind.i64 (isub ((g i)).dst 1)) 1), (ieq (wr IntKind.i64 (isub ((g i)).src 1)) 0), (ieq (wr IntKind.i64 (isub ((g i)).src 1)) 1), (ieq (wr IntKind.i64 (isub ((g i)).dst 1)) 0), (ieq (wr IntKind.i64 (isub ((g i)).dst 1)) 1)], (.nm, ⟨[.und, .und, (.ptr 0 0), (iV 0), (.ptr 1 0), .und, (.ref 2), (iV (wr IntKind.i64 (iadd (Int.ofNat i) 1))), .und, .und, .und, .und, .und, .und, .und, .und, .und, .und, .und, .und, .und, .und, .und, .und, .und, .und, .und, .und, .und, .und, .und, .und, .und, .und, .und, .und, .und, .und, .und, .und, .und], [(.cells [(iV 0), (iV 0), (iV 0), (iV 0)]), (.cells [(iV a), (iV b), (iV c), (iV (wr IntKind.i64 (iadd d 1)))]), (.row 36 6 N (fun j => (eV (g j))))]⟩)) := by kernel_rfl
theorem round13n11 (L : Nat → (St → T (Ex × St)) → St → T (Ex × St)) (n : Nat) (f : Nat → E6) (N : Nat) (g : Nat → E6) (a b c d : Int) (i : Nat)  (j : Nat → V) (h1 : ilt (Int.ofNat i) (Int.ofNat N) = true) (h0 : band (ile 0 (Int.ofNat i)) (ilt (Int.ofNat i) (Int.ofNat N)) = true) (h2 : nlt i N = true) (h3 : ieq (wr IntKind.i64 (isub ((g i)).src 1)) 0 = false) (h4 : ieq (wr IntKind.i64 (isub ((g i)).src 1)) 1 = true) (h5 : ieq (wr IntKind.i64 (isub ((g i)).dst 1)) 0 = false) (h6 : ieq (wr IntKind.i64 (isub ((g i)).dst 1)) 1 = true) : ((body13 L (st13 n f N g a b c d i j)).bind fun r => T.leaf (cutR (lp13 n f) r)).sem = some (.nm, ⟨[.und, .und, (.ptr 0 0), (iV 0), (.ptr 1 0), .und, (.ref 2), (iV (wr IntKind.i64 (iadd (Int.ofNat i) 1))), .und, .und, .und, .und, .und, .und, .und, .und, .und, .und, .und, .und, .und, .und, .und, .und, .und, .und, .und, .und, .und, .und, .und, .und, .und, .und, .und, .und, .und, .und, .und, .und, .und], [(.cells [(iV 0), (iV 0), (iV 0), (iV 0)]), (.cells [(iV a), (iV b), (iV c), (iV (wr IntKind.i64 (iadd d 1)))]), (.row 36 6 N (fun j => (eV (g j))))]⟩) := by
  exact sem_of_path (round13n11_p L n f N g a b c d i j) (by simp only [h1, h0, h2, h3, h4, h5, h6] <;> rfl)
def jk13 (n : Nat) (f : Nat → E6)  : Nat → V
  | 0 => (.sl 6 n (fun i => (eV (f i))))
  | 5 => (iV 0)
  | 8 => (.sl 6 n (fun i => (eV (f i))))
  | 9 => (iV 0)
  | 10 => (iV 0)
  | 11 => (bV (bnot (ieq 0 0)))
  | 14 => (.sl 6 n (fun i => (eV (f i))))
  | 15 => (.ref 2)
  | _ => undefV

theorem way13f_p (L : Nat → (St → T (Ex × St)) → St → T (Ex × St)) (n : Nat) (f : Nat → E6) : (finF (evalF tab ⟨callT tbN2, L, Gl⟩ Try.f13 [edgesV n f] [])).path [true, true, true] = some ([(allN n (fun _ => Bool.true)), (ilt 128 (Int.ofNat n)), (bnot (ieq 2 0))], ((.tup [(.agg [(iV 0), (iV 0), (iV 0), (iV 0)]), (iV 2)]), [])) := by kernel_rfl
theorem way13f (L : Nat → (St → T (Ex × St)) → St → T (Ex × St)) (n : Nat) (f : Nat → E6) (h0 : ilt 128 (Int.ofNat n) = true) : (finF (evalF tab ⟨callT tbN2, L, Gl⟩ Try.f13 [edgesV n f] [])).sem = some ((.tup [(.agg [(iV 0), (iV 0), (iV 0), (iV 0)]), (iV 2)]), []) := by
  exact sem_of_path (way13f_p L n f) (by simp only [h0, allN_true] <;> rfl)

theorem way13e_p (L : Nat → (St → T (Ex × St)) → St → T (Ex × St)) (n : Nat) (f : Nat → E6) : (finF (evalF tab ⟨callT tbN2, L, Gl⟩ Try.f13 [edgesV n f] [])).path [true, false, false, true] = some ([(allN n (fun _ => Bool.true)), (ilt 128 (Int.ofNat n)), (mayN n f), (bnot (ieq 30 0))], ((.tup [(.agg [(iV 0), (iV 0), (iV 0), (iV 0)]), (iV 30)]), [])) := by kernel_rfl
theorem way13e (L : Nat → (St → T (Ex × St)) → St → T (Ex × St)) (n : Nat) (f : Nat → E6) (h0 : ilt 128 (Int.ofNat n) = false) (h1 : mayN n f = false) : (finF (evalF tab ⟨callT tbN2, L, Gl⟩ Try.f13 [edgesV n f] [])).sem = some ((.tup [(.agg [(iV 0), (iV 0), (iV 0), (iV 0)]), (iV 30)]), []) := by
  exact sem_of_path (way13e_p L n f) (by simp only [h0, h1, allN_true] <;> rfl)

theorem way13a_p (L : Nat → (St → T (Ex × St)) → St → T (Ex × St)) (p0 : (St → T (Ex × St)) → St → Bool) (n : Nat) (f : Nat → E6) (N : Nat) (g : Nat → E6) (a b c d : Int) (i : Nat) : (finF (evalF tab ⟨callT tbN2, (onP 0 p0 (en13a n f N g a b c d i) L), Gl⟩ Try.f13 [edgesV n f] [])).path [true, false, true, false, true, true, true] = some ([(allN n (fun _ => Bool.true)), (ilt 128 (Int.ofNat n)), (mayN n f), (bnot (ieq 0 0)), (allN n (fun _ => Bool.true)), (ile (Int.ofNat n) 128), (p0 (body13 (onP 0 p0 (en13a n f N g a b c d i) L)) (st13 n f (onceN n f) (onceE n f) 0 0 0 0 0 (jk13 n f )))], ((.tup [(.agg [(iV a), (iV b), (iV c), (iV d)]), (iV 0)]), [])) := by kernel_rfl
theorem way13a (L : Nat → (St → T (Ex × St)) → St → T (Ex × St)) (p0 : (St → T (Ex × St)) → St → Bool) (n : Nat) (f : Nat → E6) (N : Nat) (g : Nat → E6) (a b c d : Int) (i : Nat) (h0 : ilt 128 (Int.ofNat n) = false) (h1 : mayN n f = true) (h2 : ile (Int.ofNat n) 128 = true) (hp0 : p0 (body13 (onP 0 p0 (en13a n f N g a b c d i) L)) (st13 n f (onceN n f) (onceE n f) 0 0 0 0 0 (jk13 n f )) = true) : (finF (evalF tab ⟨callT tbN2, (onP 0 p0 (en13a n f N g a b c d i) L), Gl⟩ Try.f13 [edgesV n f] [])).sem = some ((.tup [(.agg [(iV a), (iV b), (iV c), (iV d)]), (iV 0)]), []) := by
  exact sem_of_path (way13a_p L p0 n f N g a b c d i) (by simp only [h0, h1, h2, hp0, allN_true] <;> rfl)

/-- The same counts from the list's other end. -/
def cntG (g : Nat → E6) : Nat → Nat → Nat
  | 0, _ => 0
  | i + 1, q => if cls (g i) = q then cntG g i q + 1 else cntG g i q

theorem cntG_le (g : Nat → E6) : ∀ i q, cntG g i q ≤ i
  | 0, _ => Nat.le_refl _
  | i + 1, q => by
    have := cntG_le g i q
    unfold cntG
    split <;> omega

theorem cntG_congr {g g' : Nat → E6} {q : Nat} : ∀ i, (∀ t, t < i → g t = g' t) → cntG g i q = cntG g' i q
  | 0, _ => rfl
  | i + 1, h => by
    unfold cntG
    rw [h i (by omega), cntG_congr i fun t ht => h t (by omega)]

theorem cntG_eq : ∀ (l : List E6) (q : Nat), cntG (getE l) l.length q = cntL l q
  | [], _ => rfl
  | x :: l, q => by
    have hx : getE (x :: l) l.length = x := by
      show (bif Nat.beq l.length l.length then x else getE l l.length) = x
      rw [Nat.beq_refl]; rfl
    have hl : ∀ t, t < l.length → getE (x :: l) t = getE l t := fun t ht => by
      show (bif Nat.beq t l.length then x else getE l t) = _
      have : Nat.beq t l.length = false := by
        cases hb : Nat.beq t l.length with
        | false => rfl
        | true => have := Nat.eq_of_beq_eq_true hb; omega
      rw [this]; rfl
    show cntG (getE (x :: l)) (l.length + 1) q = _
    rw [cntG, cntL, hx, cntG_congr _ hl, cntG_eq l q]

def S13 (n : Nat) (f : Nat → E6) (N : Nat) (g : Nat → E6) (i : Nat) (j : Nat → V) : St := st13 n f N g (Int.ofNat (cntG g i 0)) (Int.ofNat (cntG g i 1)) (Int.ofNat (cntG g i 2)) (Int.ofNat (cntG g i 3)) i j

theorem cg_yes {g : Nat → E6} {i q : Nat} (h : cls (g i) = q) : cntG g (i + 1) q = cntG g i q + 1 := by rw [cntG, if_pos h]
theorem cg_no {g : Nat → E6} {i q : Nat} (h : cls (g i) ≠ q) : cntG g (i + 1) q = cntG g i q := by rw [cntG, if_neg h]

theorem step13 (L : Nat → (St → T (Ex × St)) → St → T (Ex × St)) (n : Nat) (f : Nat → E6) (N : Nat) (g : Nat → E6) (hN : N ≤ 128) (i : Nat) (hi : i < N) (hc : codeF (g i) = 0) (j : Nat → V) :
    roundT (body13 L) (lp13 n f) (S13 n f N g i j) = some (.nm, S13 n f N g (i + 1) fun _ => .und) := by
  have b0 := cntG_le g i 0
  have b1 := cntG_le g i 1
  have b2 := cntG_le g i 2
  have b3 := cntG_le g i 3
  unfold S13
  rcases four hc with ⟨h1, h2, h3⟩ | ⟨h1, h2, h3⟩ | ⟨h1, h2, h3⟩ | ⟨h1, h2, h3⟩
  · refine (round13n00 L n f N g _ _ _ _ i j (ofNat_lt hi) (ofNat_in hi) (nlt_true hi) (by rw [h1]; rfl) (by rw [h2]; rfl)).trans ?_
    rw [succ_wr hi (by omega), inc_wr (by omega), cg_yes h3, cg_no (q := 1) (by omega), cg_no (q := 2) (by omega), cg_no (q := 3) (by omega)]
    rfl
  · refine (round13n01 L n f N g _ _ _ _ i j (ofNat_lt hi) (ofNat_in hi) (nlt_true hi) (by rw [h1]; rfl) (by rw [h2]; rfl) (by rw [h2]; rfl)).trans ?_
    rw [succ_wr hi (by omega), inc_wr (by omega), cg_yes h3, cg_no (q := 0) (by omega), cg_no (q := 2) (by omega), cg_no (q := 3) (by omega)]
    rfl
  · refine (round13n10 L n f N g _ _ _ _ i j (ofNat_lt hi) (ofNat_in hi) (nlt_true hi) (by rw [h1]; rfl) (by rw [h1]; rfl) (by rw [h2]; rfl)).trans ?_
    rw [succ_wr hi (by omega), inc_wr (by omega), cg_yes h3, cg_no (q := 0) (by omega), cg_no (q := 1) (by omega), cg_no (q := 3) (by omega)]
    rfl
  · refine (round13n11 L n f N g _ _ _ _ i j (ofNat_lt hi) (ofNat_in hi) (nlt_true hi) (by rw [h1]; rfl) (by rw [h1]; rfl) (by rw [h2]; rfl) (by rw [h2]; rfl)).trans ?_
    rw [succ_wr hi (by omega), inc_wr (by omega), cg_yes h3, cg_no (q := 0) (by omega), cg_no (q := 1) (by omega), cg_no (q := 2) (by omega)]
    rfl

theorem run13 (L : Nat → (St → T (Ex × St)) → St → T (Ex × St)) (n : Nat) (f : Nat → E6) (N : Nat) (g : Nat → E6) (hN : N ≤ 128) (ho : ∀ t, t < N → codeF (g t) = 0) : ∀ (d i : Nat) (j : Nat → V) (q : Nat), N = i + d → d < q →
    (iterT (body13 L) (lp13 n f) q (S13 n f N g i j)).sem = some (en13a n f N g (Int.ofNat (cntG g N 0)) (Int.ofNat (cntG g N 1)) (Int.ofNat (cntG g N 2)) (Int.ofNat (cntG g N 3)) 0)
  | 0, i, j, q + 1, h1, _ => by
    have hi : i = N := by omega
    subst hi
    exact iter_round (round13a L n f i g _ _ _ _ i j (ofNat_ge (Nat.le_refl i)))
  | d + 1, i, j, q + 1, h1, h2 => by
    rw [iter_round (step13 L n f N g hN i (by omega) (ho i (by omega)) j), goOn_nm]
    exact run13 L n f N g hN ho d (i + 1) (fun _ => .und) q (by omega) (by omega)

theorem p13 : PureC Try.prog Gl 13 matT := by
  refine pureC_intro tabOK mixed Try.func13 (by kernel_rfl) (by kernel_rfl) fun vs v h' h => ?_
  obtain ⟨n, f, ha, hq⟩ := apL1_some h
  have hx := cx_ok tbN2_ok [(0, lp13 n f)]
  have hL := loopsBy_le [(0, lp13 n f)]
  refine ⟨_, cxOf Gl tbN2 [(0, lp13 n f)], h', ha, rfl, hx.1, hx.2, ?_, RowsLE.refl _⟩
  rcases many n with ⟨h1, _⟩ | ⟨h1, hn⟩
  · rw [h1] at hq
    rw [sem_leaf hq]
    exact way13f _ n f h1
  · rw [h1] at hq
    cases hm : mayN n f with
    | true =>
      rw [hm] at hq
      rw [sem_leaf hq]
      have hl := onceR_len f n
      have hr := fun L => run13 L n f (onceN n f) (onceE n f) (show (onceR f n).length ≤ 128 by omega) (fun t ht => by
        have := (getE_mem (onceR f n) (getE (onceR f n) t)).1 ⟨t, ht, rfl⟩
        obtain ⟨u, hu, he⟩ := onceR_sub f n _ this
        show codeF (getE (onceR f n) t) = 0
        rw [he]
        exact mayN_iff.1 hm u hu) (onceN n f) 0 (jk13 n f) 129 (by omega) (show (onceR f n).length < 129 by omega)
      have hw := told_le (onP_le hL hL) _ (way13a _ _ n f _ _ _ _ _ _ 0 h1 hm (le_true (by simp; omega)) (isP_true (hr _)))
      refine Eq.trans hw ?_
      unfold matV matN
      rw [← cntG_eq (onceR f n) 0, ← cntG_eq (onceR f n) 1, ← cntG_eq (onceR f n) 2, ← cntG_eq (onceR f n) 3]
      rfl
    | false =>
      rw [hm] at hq
      rw [sem_leaf hq]
      exact way13e _ n f h1 hm

end Go.Proofs.Ytdmjcpindopjdaa.Co
