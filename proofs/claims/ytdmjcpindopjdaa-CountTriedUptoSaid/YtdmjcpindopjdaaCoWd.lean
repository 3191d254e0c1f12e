/-
  Layer 5: words, out of the closed lists by their length. No conditions.
-/
import Derived.Test.YtdmjcpindopjdaaCoZ
namespace Go.Proofs.Ytdmjcpindopjdaa.Co
open Go.Sy

/-- The sum over the divisors of n up to d: each with what is told of it. -/
def sumW (W : Nat → Int) (n : Nat) : Nat → Int
  | 0 => 0
  | d + 1 => if n % (d + 1) = 0 then sumW W n d + Int.ofNat (d + 1) * W (d + 1) else sumW W n d

theorem nat16 {n : Nat} (h1 : 1 ≤ n) (h2 : n ≤ 16) : n = 1 ∨ n = 2 ∨ n = 3 ∨ n = 4 ∨ n = 5 ∨ n = 6 ∨ n = 7 ∨ n = 8 ∨ n = 9 ∨ n = 10 ∨ n = 11 ∨ n = 12 ∨ n = 13 ∨ n = 14 ∨ n = 15 ∨ n = 16 := by omega

theorem sumW_all (g : Nat → Int) (n : Nat) (h1 : 1 ≤ n) (hn : n ≤ 16) (h : ∀ e, 1 ≤ e → e ≤ n → n % e = 0 → Int.ofNat e * wrdN g e = mobN g e) : sumW (wrdN g) n n = g n := by
  generalize wrdN g = W at *
  rcases nat16 h1 hn with rfl | rfl | rfl | rfl | rfl | rfl | rfl | rfl | rfl | rfl | rfl | rfl | rfl | rfl | rfl | rfl
  · have h1 := h 1 (by decide) (by decide) (by decide); simp [mobN] at h1; simp [sumW]; omega
  · have h1 := h 1 (by decide) (by decide) (by decide); have h2 := h 2 (by decide) (by decide) (by decide); simp [mobN] at h1 h2; simp [sumW]; omega
  · have h1 := h 1 (by decide) (by decide) (by decide); have h3 := h 3 (by decide) (by decide) (by decide); simp [mobN] at h1 h3; simp [sumW]; omega
  · have h1 := h 1 (by decide) (by decide) (by decide); have h2 := h 2 (by decide) (by decide) (by decide); have h4 := h 4 (by decide) (by decide) (by decide); simp [mobN] at h1 h2 h4; simp [sumW]; omega
  · have h1 := h 1 (by decide) (by decide) (by decide); have h5 := h 5 (by decide) (by decide) (by decide); simp [mobN] at h1 h5; simp [sumW]; omega
  · have h1 := h 1 (by decide) (by decide) (by decide); have h2 := h 2 (by decide) (by decide) (by decide); have h3 := h 3 (by decide) (by decide) (by decide); have h6 := h 6 (by decide) (by decide) (by decide); simp [mobN] at h1 h2 h3 h6; simp [sumW]; omega
  · have h1 := h 1 (by decide) (by decide) (by decide); have h7 := h 7 (by decide) (by decide) (by decide); simp [mobN] at h1 h7; simp [sumW]; omega
  · have h1 := h 1 (by decide) (by decide) (by decide); have h2 := h 2 (by decide) (by decide) (by decide); have h4 := h 4 (by decide) (by decide) (by decide); have h8 := h 8 (by decide) (by decide) (by decide); simp [mobN] at h1 h2 h4 h8; simp [sumW]; omega
  · have h1 := h 1 (by decide) (by decide) (by decide); have h3 := h 3 (by decide) (by decide) (by decide); have h9 := h 9 (by decide) (by decide) (by decide); simp [mobN] at h1 h3 h9; simp [sumW]; omega
  · have h1 := h 1 (by decide) (by decide) (by decide); have h2 := h 2 (by decide) (by decide) (by decide); have h5 := h 5 (by decide) (by decide) (by decide); have h10 := h 10 (by decide) (by decide) (by decide); simp [mobN] at h1 h2 h5 h10; simp [sumW]; omega
  · have h1 := h 1 (by decide) (by decide) (by decide); have h11 := h 11 (by decide) (by decide) (by decide); simp [mobN] at h1 h11; simp [sumW]; omega
  · have h1 := h 1 (by decide) (by decide) (by decide); have h2 := h 2 (by decide) (by decide) (by decide); have h3 := h 3 (by decide) (by decide) (by decide); have h4 := h 4 (by decide) (by decide) (by decide); have h6 := h 6 (by decide) (by decide) (by decide); have h12 := h 12 (by decide) (by decide) (by decide); simp [mobN] at h1 h2 h3 h4 h6 h12; simp [sumW]; omega
  · have h1 := h 1 (by decide) (by decide) (by decide); have h13 := h 13 (by decide) (by decide) (by decide); simp [mobN] at h1 h13; simp [sumW]; omega
  · have h1 := h 1 (by decide) (by decide) (by decide); have h2 := h 2 (by decide) (by decide) (by decide); have h7 := h 7 (by decide) (by decide) (by decide); have h14 := h 14 (by decide) (by decide) (by decide); simp [mobN] at h1 h2 h7 h14; simp [sumW]; omega
  · have h1 := h 1 (by decide) (by decide) (by decide); have h3 := h 3 (by decide) (by decide) (by decide); have h5 := h 5 (by decide) (by decide) (by decide); have h15 := h 15 (by decide) (by decide) (by decide); simp [mobN] at h1 h3 h5 h15; simp [sumW]; omega
  · have h1 := h 1 (by decide) (by decide) (by decide); have h2 := h 2 (by decide) (by decide) (by decide); have h4 := h 4 (by decide) (by decide) (by decide); have h8 := h 8 (by decide) (by decide) (by decide); have h16 := h 16 (by decide) (by decide) (by decide); simp [mobN] at h1 h2 h4 h8 h16; simp [sumW]; omega

theorem sumW_step (W : Nat → Int) (n : Nat) (hW : ∀ e, 1 ≤ e → e ≤ n → n % e = 0 → 0 ≤ W e) (d : Nat) (hd : d < n) : sumW W n d ≤ sumW W n (d + 1) := by
  rw [sumW]
  split
  · rename_i h
    have := Int.mul_nonneg (show (0 : Int) ≤ Int.ofNat (d + 1) by simp; omega) (hW (d + 1) (by omega) (by omega) h)
    omega
  · exact Int.le_refl _

theorem sumW_mono (W : Nat → Int) (n : Nat) (hW : ∀ e, 1 ≤ e → e ≤ n → n % e = 0 → 0 ≤ W e) : ∀ k d, d + k ≤ n → sumW W n d ≤ sumW W n (d + k)
  | 0, d, _ => Int.le_refl _
  | k + 1, d, h => Int.le_trans (sumW_mono W n hW k d (by omega)) (sumW_step W n hW (d + k) (by omega))

theorem sumW_nonneg (W : Nat → Int) (n : Nat) (hW : ∀ e, 1 ≤ e → e ≤ n → n % e = 0 → 0 ≤ W e) (d : Nat) (hd : d ≤ n) : 0 ≤ sumW W n d := by
  have := sumW_mono W n hW d 0 (by omega)
  rw [Nat.zero_add] at this
  exact this

/-- Do the closed lists stand to one another as such do? -/
def wOK (g : Nat → Int) (n : Nat) : Bool := allN (n + 1) fun e => bif Nat.beq e 0 then true else bif Nat.beq (n % e) 0 then okU (g e) && (decide (0 ≤ wrdN g e) && decide (Int.ofNat e * wrdN g e = mobN g e)) else true

theorem wOK_iff {g : Nat → Int} {n : Nat} : wOK g n = true ↔ ∀ e, 1 ≤ e → e ≤ n → n % e = 0 → okU (g e) = true ∧ 0 ≤ wrdN g e ∧ Int.ofNat e * wrdN g e = mobN g e := by
  unfold wOK
  rw [allN_iff]
  constructor
  · intro h e h1 h2 h3
    have := h e (by omega)
    have z : Nat.beq e 0 = false := by cases e with | zero => omega | succ k => rfl
    rw [z, show Nat.beq (n % e) 0 = true by rw [h3]; rfl] at this
    simp at this
    exact ⟨this.1, this.2.1, by simpa using this.2.2⟩
  · intro h e he
    cases hz : Nat.beq e 0 with
    | true => rfl
    | false =>
      have z := Nat.ne_of_beq_eq_false hz
      cases hm : Nat.beq (n % e) 0 with
      | false => rfl
      | true =>
        have := h e (by omega) (by omega) (Nat.eq_of_beq_eq_true hm)
        simp [this.1, this.2.1]
        simpa using this.2.2

theorem wOK_dvd {g : Nat → Int} {n d : Nat} (h : wOK g n = true) (h1 : 1 ≤ d) (h2 : n % d = 0) (h3 : d ≤ n) : wOK g d = true := by
  rw [wOK_iff] at h ⊢
  intro e e1 e2 e3
  have : n % e = 0 := by
    have a := Nat.dvd_of_mod_eq_zero h2
    have b := Nat.dvd_of_mod_eq_zero e3
    exact Nat.mod_eq_zero_of_dvd (Nat.dvd_trans b a)
  exact h e e1 (by omega) this

def wordsT (B : Int) : List V → T (V × List Blk)
  | [v, u] => apX v fun N g => match gI u with
    | some n => .br (ile 1 n) (.br (ile n B) (.br (ilt n (Int.ofNat N)) (.br (wOK g (toN n)) (out (uV (wrdN g (toN n)))) .fail) .fail) .fail) .fail
    | none => .fail
  | _ => .fail

noncomputable def tb45 (B : Int) : List (Nat × (List V → T (V × List Blk))) := [(45, wordsT B)]

def lp45c (B : Int) (N : Nat) (g : Nat → Int) (n : Int) : Lp := ⟨[true, true, false, false, false, true, true, false, false, false, false, false, false, false, false, false, false, false, false, false, false, false, false, false, false, false, false, false, false, false, false, false], 0, [false, true, false, false, false, true, false, false, false, false, false, false, false, false, false, false, false, false, false, false, false, false, false, false, false, false, false, false, false, false, false, false], 0, toN n + 1⟩
def st45c (B : Int) (N : Nat) (g : Nat → Int) (n : Int) (s : Int) (d : Int) (j : Nat → V) : St := ⟨[.sl 1 N (fun i => uV (g i)), iV n, j 2, j 3, j 4, uV s, iV d, j 7, j 8, j 9, j 10, j 11, j 12, j 13, j 14, j 15, j 16, j 17, j 18, j 19, j 20, j 21, j 22, j 23, j 24, j 25, j 26, j 27, j 28, j 29, j 30, j 31], []⟩
def en45ca (B : Int) (N : Nat) (g : Nat → Int) (n : Int) (s : Int) (d : Int) : Ex × St := (.ex 0, ⟨[.und, iV n, .und, .und, .und, uV s, .und, .und, .und, .und, .und, .und, .und, .und, .und, .und, .und, .und, .und, .und, .und, .und, .und, .und, .und, .und, .und, .und, .und, .und, .und, .und], []⟩)
noncomputable def body45c (B : Int) (L : Nat → (St → T (Ex × St)) → St → T (Ex × St)) : St → T (Ex × St) := fun st => evalC tab ⟨callT (tb45 B), L, Gl⟩ (loopBody Try.f45 0) 0 st
theorem rc45a_p (L : Nat → (St → T (Ex × St)) → St → T (Ex × St)) (B : Int) (N : Nat) (g : Nat → Int) (n : Int) (s : Int) (d : Int)  (j : Nat → V) : ((body45c B L (st45c B N g n s d j)).bind fun r => T.leaf (cutR (lp45c B N g n) r)).path [false] = some ([(ilt d n)], ((.ex 0), ⟨[.und, (iV n), .und, .und, .und, (uV s), .und, .und, .und, .und, .und, .und, .und, .und, .und, .und, .und, .und, .und, .und, .und, .und, .und, .und, .und, .und, .und, .und, .und, .und, .und, .und], []⟩)) := by kernel_rfl
theorem rc45a (L : Nat → (St → T (Ex × St)) → St → T (Ex × St)) (B : Int) (N : Nat) (g : Nat → Int) (n : Int) (s : Int) (d : Int)  (j : Nat → V) (h0 : ilt d n = false) : ((body45c B L (st45c B N g n s d j)).bind fun r => T.leaf (cutR (lp45c B N g n) r)).sem = some ((.ex 0), ⟨[.und, (iV n), .und, .und, .und, (uV s), .und, .und, .und, .und, .und, .und, .und, .und, .und, .und, .und, .und, .und, .und, .und, .und, .und, .und, .und, .und, .und, .und, .und, .und, .und, .und], []⟩) := by
  exact sem_of_path (rc45a_p L B N g n s d j) (by simp only [h0] <;> rfl)
theorem rc45s_p (L : Nat → (St → T (Ex × St)) → St → T (Ex × St)) (B : Int) (N : Nat) (g : Nat → Int) (n : Int) (s : Int) (d : Int)  (j : Nat → V) : ((body45c B L (st45c B N g n s d j)).bind fun r => T.leaf (cutR (lp45c B N g n) r)).path [true, false, false] = some ([(ilt d n), (ieq d 0), (ieq (itmod n d) 0)], (.nm, ⟨[(.sl 1 N (fun i => (uV (g i)))), (iV n), .und, .und, .und, (uV s), (iV (wr IntKind.i64 (iadd d 1))), .und, .und, .und, .und, .und, .und, .und, .und, .und, .und, .und, .und, .und, .und, .und, .und, .und, .und, .und, .und, .und, .und, .und, .und, .und], []⟩)) := by kernel_rfl
theorem rc45s (L : Nat → (St → T (Ex × St)) → St → T (Ex × St)) (B : Int) (N : Nat) (g : Nat → Int) (n : Int) (s : Int) (d : Int)  (j : Nat → V) (h0 : ilt d n = true) (h1 : ieq d 0 = false) (h2 : ieq (itmod n d) 0 = false) : ((body45c B L (st45c B N g n s d j)).bind fun r => T.leaf (cutR (lp45c B N g n) r)).sem = some (.nm, ⟨[(.sl 1 N (fun i => (uV (g i)))), (iV n), .und, .und, .und, (uV s), (iV (wr IntKind.i64 (iadd d 1))), .und, .und, .und, .und, .und, .und, .und, .und, .und, .und, .und, .und, .und, .und, .und, .und, .und, .und, .und, .und, .und, .und, .und, .und, .und], []⟩) := by
  exact sem_of_path (rc45s_p L B N g n s d j) (by simp only [h0, h1, h2] <;> rfl)
theorem rc45t_p (L : Nat → (St → T (Ex × St)) → St → T (Ex × St)) (B : Int) (N : Nat) (g : Nat → Int) (n : Int) (s : Int) (d : Int)  (j : Nat → V) : ((body45c B L (st45c B N g n s d j)).bind fun r => T.leaf (cutR (lp45c B N g n) r)).path [true, false, true, true, true, true, true, true] = some ([(ilt d n), (ieq d 0), (ieq (itmod n d) 0), (allN N (fun _ => Bool.true)), (ile 1 d), (ile d B), (ilt d (Int.ofNat N)), (wOK g (toN d))], (.nm, ⟨[(.sl 1 N (fun i => (uV (g i)))), (iV n), .und, .und, .und, (uV (wr IntKind.u64 (isub s (wr IntKind.u64 (imul (wr IntKind.u64 d) (wrdN g (toN d))))))), (iV (wr IntKind.i64 (iadd d 1))), .und, .und, .und, .und, .und, .und, .und, .und, .und, .und, .und, .und, .und, .und, .und, .und, .und, .und, .und, .und, .und, .und, .und, .und, .und], []⟩)) := by kernel_rfl
theorem rc45t (L : Nat → (St → T (Ex × St)) → St → T (Ex × St)) (B : Int) (N : Nat) (g : Nat → Int) (n : Int) (s : Int) (d : Int)  (j : Nat → V) (h0 : ilt d n = true) (h1 : ieq d 0 = false) (h2 : ieq (itmod n d) 0 = true) (h3 : ile 1 d = true) (h4 : ile d B = true) (h5 : ilt d (Int.ofNat N) = true) (h6 : wOK g (toN d) = true) : ((body45c B L (st45c B N g n s d j)).bind fun r => T.leaf (cutR (lp45c B N g n) r)).sem = some (.nm, ⟨[(.sl 1 N (fun i => (uV (g i)))), (iV n), .und, .und, .und, (uV (wr IntKind.u64 (isub s (wr IntKind.u64 (imul (wr IntKind.u64 d) (wrdN g (toN d))))))), (iV (wr IntKind.i64 (iadd d 1))), .und, .und, .und, .und, .und, .und, .und, .und, .und, .und, .und, .und, .und, .und, .und, .und, .und, .und, .und, .und, .und, .und, .und, .und, .und], []⟩) := by
  exact sem_of_path (rc45t_p L B N g n s d j) (by simp only [h0, h1, h2, h3, h4, h5, h6, allN_true] <;> rfl)
def jk45c (B : Int) (N : Nat) (g : Nat → Int) (n : Int)  : Nat → V
  | 4 => (uV 0)
  | 7 => (.sl 1 N (fun i => (uV (g i))))
  | 8 => (iV n)
  | 9 => (.pp (uV (g (toN n))))
  | 10 => (uV (g (toN n)))
  | _ => undefV

theorem wc45_p (L : Nat → (St → T (Ex × St)) → St → T (Ex × St)) (p0 : (St → T (Ex × St)) → St → Bool) (B : Int) (N : Nat) (g : Nat → Int) (n : Int) (s d : Int) : (finF (evalF tab ⟨callT (tb45 B), (onP 0 p0 (en45ca B N g n s d) L), Gl⟩ Try.f45 [.sl 1 N (fun i => uV (g i)), iV n] [])).path [true, true, false] = some ([(band (ile 0 n) (ilt n (Int.ofNat N))), (p0 (body45c B (onP 0 p0 (en45ca B N g n s d) L)) (st45c B N g n (g (toN n)) 1 (jk45c B N g n ))), (ieq (wr IntKind.u64 n) 0)], ((uV (wr IntKind.u64 (itdiv s (wr IntKind.u64 n)))), [])) := by kernel_rfl
theorem wc45 (L : Nat → (St → T (Ex × St)) → St → T (Ex × St)) (p0 : (St → T (Ex × St)) → St → Bool) (B : Int) (N : Nat) (g : Nat → Int) (n : Int) (s d : Int) (h0 : band (ile 0 n) (ilt n (Int.ofNat N)) = true) (h2 : ieq (wr IntKind.u64 n) 0 = false) (hp0 : p0 (body45c B (onP 0 p0 (en45ca B N g n s d) L)) (st45c B N g n (g (toN n)) 1 (jk45c B N g n )) = true) : (finF (evalF tab ⟨callT (tb45 B), (onP 0 p0 (en45ca B N g n s d) L), Gl⟩ Try.f45 [.sl 1 N (fun i => uV (g i)), iV n] [])).sem = some ((uV (wr IntKind.u64 (itdiv s (wr IntKind.u64 n)))), []) := by
  exact sem_of_path (wc45_p L p0 B N g n s d) (by simp only [h0, h2, hp0] <;> rfl)


theorem run45 (B : Nat) (L : Nat → (St → T (Ex × St)) → St → T (Ex × St)) (N : Nat) (g : Nat → Int) (n : Nat) (h1 : 1 ≤ n) (hn : n ≤ 16) (hB : n ≤ B + 1) (hN : n < N) (hg : wOK g n = true) : ∀ (e d : Nat) (j : Nat → V) (q : Nat), n = d + 1 + e → e < q →
    (iterT (body45c (Int.ofNat B) L) (lp45c (Int.ofNat B) N g (Int.ofNat n)) q (st45c (Int.ofNat B) N g (Int.ofNat n) (g n - sumW (wrdN g) n d) (Int.ofNat (d + 1)) j)).sem = some (en45ca (Int.ofNat B) N g (Int.ofNat n) (Int.ofNat n * wrdN g n) 0) := by
  have hO := wOK_iff.1 hg
  have hall := sumW_all g n h1 hn fun e e1 e2 e3 => (hO e e1 e2 e3).2.2
  have hW : ∀ e, 1 ≤ e → e ≤ n → n % e = 0 → 0 ≤ wrdN g e := fun e e1 e2 e3 => (hO e e1 e2 e3).2.1
  have hgn := okU_iff.1 (hO n h1 (Nat.le_refl _) (Nat.mod_self n)).1
  intro e
  induction e with
  | zero =>
    intro d j q he hq
    obtain ⟨q, rfl⟩ : ∃ k, q = k + 1 := ⟨q - 1, by omega⟩
    have hd : n = d + 1 := by omega
    subst hd
    have hs : sumW (wrdN g) (d + 1) (d + 1) = sumW (wrdN g) (d + 1) d + Int.ofNat (d + 1) * wrdN g (d + 1) := by rw [sumW, if_pos (Nat.mod_self _)]
    rw [show g (d + 1) - sumW (wrdN g) (d + 1) d = Int.ofNat (d + 1) * wrdN g (d + 1) by omega]
    exact iter_round (rc45a L (Int.ofNat B) N g _ _ _ j (ofNat_ge (Nat.le_refl _)))
  | succ e ih =>
    intro d j q he hq
    obtain ⟨q, rfl⟩ : ∃ k, q = k + 1 := ⟨q - 1, by omega⟩
    have hz : ieq (Int.ofNat (d + 1)) 0 = false := ieq_false (by simp; omega)
    by_cases hd : n % (d + 1) = 0
    · have ew : wr IntKind.u64 (Int.ofNat (d + 1)) = Int.ofNat (d + 1) := by rw [wr_u]; simp; omega
      have hst := sumW_step (wrdN g) n hW d (by omega)
      have hup := sumW_mono (wrdN g) n hW (n - (d + 1)) (d + 1) (by omega)
      have h0 := sumW_nonneg (wrdN g) n hW d (by omega)
      rw [show d + 1 + (n - (d + 1)) = n by omega, hall] at hup
      have hs : sumW (wrdN g) n (d + 1) = sumW (wrdN g) n d + Int.ofNat (d + 1) * wrdN g (d + 1) := by rw [sumW, if_pos hd]
      have hp := Int.mul_nonneg (show (0 : Int) ≤ Int.ofNat (d + 1) by simp; omega) (hW (d + 1) (by omega) (by omega) hd)
      rw [iter_round (rc45t L (Int.ofNat B) N g (Int.ofNat n) (g n - sumW (wrdN g) n d) (Int.ofNat (d + 1)) j (ofNat_lt (by omega)) hz (by rw [ieq_mod]; exact decide_eq_true hd) (le_true (by simp; omega)) (ofNat_le (by omega)) (ofNat_lt (by omega))
        (wOK_dvd (d := d + 1) hg (by omega) hd (by omega))), goOn_nm, ew, show toN (Int.ofNat (d + 1)) = d + 1 from rfl, succ_wr (show d + 1 < n + 1 by omega) (by omega)]
      have es : wr IntKind.u64 (isub (g n - sumW (wrdN g) n d) (wr IntKind.u64 (imul (Int.ofNat (d + 1)) (wrdN g (d + 1))))) = g n - sumW (wrdN g) n (d + 1) := by
        rw [hs] at hup ⊢
        unfold isub imul
        simp only [wr_u]
        generalize Int.ofNat (d + 1) * wrdN g (d + 1) = p at *
        omega
      rw [es]
      exact ih (d + 1) (fun _ => .und) q (by omega) (by omega)
    · rw [iter_round (rc45s L (Int.ofNat B) N g (Int.ofNat n) _ (Int.ofNat (d + 1)) j (ofNat_lt (by omega)) hz (by rw [ieq_mod]; exact decide_eq_false hd)), goOn_nm, succ_wr (show d + 1 < n + 1 by omega) (by omega),
        show sumW (wrdN g) n d = sumW (wrdN g) n (d + 1) by rw [sumW, if_neg hd]]
      exact ih (d + 1) (fun _ => .und) q (by omega) (by omega)

theorem wordsT_some {B : Int} {vs : List V} {r : V × List Blk} (h : (wordsT B vs).sem = some r) : ∃ N g n, ArgLE vs [u64sV N g, iV (Int.ofNat n)] ∧ 1 ≤ n ∧ Int.ofNat n ≤ B ∧ n < N ∧ wOK g n = true ∧ r = (uV (wrdN g n), []) := by
  unfold wordsT at h
  split at h
  · obtain ⟨N, g, ha, hq⟩ := apX_some h
    split at hq
    · rename_i u _ k hk
      obtain ⟨h1, hq⟩ := sem_br_fail hq
      obtain ⟨h2, hq⟩ := sem_br_fail hq
      obtain ⟨h3, hq⟩ := sem_br_fail hq
      obtain ⟨h4, hq⟩ := sem_br_fail hq
      have h1 : (1 : Int) ≤ k := of_decide_eq_true h1
      have h2 : k ≤ B := of_decide_eq_true h2
      have h3 : k < Int.ofNat N := of_decide_eq_true h3
      obtain ⟨n, rfl⟩ := Int.eq_ofNat_of_zero_le (show (0 : Int) ≤ k by omega)
      refine ⟨N, g, n, fun S w cs hv => ?_, by omega, h2, by simpa using h3, h4, sem_leaf hq⟩
      obtain ⟨c, l, rfl, q1, c', l', rfl, q2, q3⟩ := hv
      rw [gI_some hk] at q2
      exact ⟨c, _, rfl, ha S w c q1, c', _, rfl, q2, q3⟩
    · cases hq
  · cases h

theorem p45B : ∀ B : Nat, B ≤ 16 → PureC Try.prog Gl 45 (wordsT (Int.ofNat B))
  | 0, _ => by
    refine pureC_intro tabOK mixed Try.func45 (by kernel_rfl) (by kernel_rfl) fun vs v h' h => ?_
    obtain ⟨N, g, n, _, h1, h2, _⟩ := wordsT_some h
    have : Int.ofNat n ≤ 0 := h2
    simp at this
    omega
  | B + 1, hB => by
    refine pureC_intro tabOK mixed Try.func45 (by kernel_rfl) (by kernel_rfl) fun vs v h' h => ?_
    obtain ⟨N, g, n, hA, h1, h2, h3, h4, hr⟩ := wordsT_some h
    simp only [Prod.mk.injEq] at hr
    obtain ⟨rfl, rfl⟩ := hr
    have h2 : n ≤ B + 1 := by
      have : Int.ofNat n ≤ Int.ofNat (B + 1) := h2
      simp at this
      omega
    have tbOK : AllPure Try.prog Gl (tb45 (Int.ofNat B)) := .cons (p45B B (by omega)) .nil
    have hx := cx_ok tbOK [(0, lp45c (Int.ofNat B) N g (Int.ofNat n))]
    have hL := loopsBy_le [(0, lp45c (Int.ofNat B) N g (Int.ofNat n))]
    have ew : wr IntKind.u64 (Int.ofNat n) = Int.ofNat n := by rw [wr_u]; simp; omega
    have hn0 : (0 : Int) < Int.ofNat n := by simp; omega
    have hO := wOK_iff.1 h4 n h1 (Nat.le_refl _) (Nat.mod_self n)
    have hgn := okU_iff.1 hO.1
    have hW := hO.2.1
    have hW2 : Int.ofNat n * wrdN g n ≤ 9223372036854775808 := by
      have hall := sumW_all g n h1 (by omega) fun e e1 e2 e3 => (wOK_iff.1 h4 e e1 e2 e3).2.2
      obtain ⟨k, rfl⟩ : ∃ k, n = k + 1 := ⟨n - 1, by omega⟩
      rw [sumW, if_pos (Nat.mod_self _)] at hall
      have := sumW_nonneg (wrdN g) (k + 1) (fun e e1 e2 e3 => (wOK_iff.1 h4 e e1 e2 e3).2.1) k (by omega)
      omega
    have hle : wrdN g n ≤ Int.ofNat n * wrdN g n := by
      have := Int.mul_le_mul_of_nonneg_right (show (1 : Int) ≤ Int.ofNat n by omega) hW
      omega
    have e : wr IntKind.u64 (itdiv (Int.ofNat n * wrdN g n) (wr IntKind.u64 (Int.ofNat n))) = wrdN g n := by
      rw [ew]
      unfold itdiv
      rw [Int.mul_comm, Int.mul_tdiv_cancel _ (show Int.ofNat n ≠ 0 by omega), wr_u]
      omega
    refine ⟨_, cxOf Gl (tb45 (Int.ofNat B)) _, _, hA, rfl, hx.1, hx.2, ?_, RowsLE.refl _⟩
    have hw := wc45 (loopsBy [(0, lp45c (Int.ofNat B) N g (Int.ofNat n))]) (isP (loopsBy [(0, lp45c (Int.ofNat B) N g (Int.ofNat n))]) 0 (en45ca (Int.ofNat B) N g (Int.ofNat n) (Int.ofNat n * wrdN g n) 0)) (Int.ofNat B) N g (Int.ofNat n) (Int.ofNat n * wrdN g n) 0
      (ofNat_in h3) (by rw [ew]; exact ieq_false (by omega)) (isP_true (by
        have := run45 B (onP 0 (isP (loopsBy [(0, lp45c (Int.ofNat B) N g (Int.ofNat n))]) 0 (en45ca (Int.ofNat B) N g (Int.ofNat n) (Int.ofNat n * wrdN g n) 0)) (en45ca (Int.ofNat B) N g (Int.ofNat n) (Int.ofNat n * wrdN g n) 0) (loopsBy [(0, lp45c (Int.ofNat B) N g (Int.ofNat n))])) N g n h1 (by omega) h2 h3 h4 (n - 1) 0 (jk45c (Int.ofNat B) N g (Int.ofNat n)) (n + 1) (by omega) (by omega)
        rw [show g n - sumW (wrdN g) n 0 = g n by unfold sumW; omega] at this
        exact this))
    rw [e] at hw
    exact told_le (onP_le hL hL) _ hw

theorem p45c : PureC Try.prog Gl 45 (wordsT 16) := p45B 16 (Nat.le_refl _)

end Go.Proofs.Ytdmjcpindopjdaa.Co
