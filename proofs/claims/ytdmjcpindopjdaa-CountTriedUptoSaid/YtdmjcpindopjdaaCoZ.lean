/-
  Layer 5: classes, out of the closed lists by their length. No conditions.
-/
import Derived.Test.YtdmjcpindopjdaaCoD
namespace Go.Proofs.Ytdmjcpindopjdaa.Co
open Go.Sy

/-! ### Lists of numbers of 64 bits as arguments -/

def okX (v : V) : Bool := match gU v with
  | some _ => true
  | none => false
def edX (v : V) : Int := match gU v with
  | some e => e
  | none => 0

theorem okX_spec {v : V} (h : okX v = true) : v = uV (edX v) := by
  unfold okX at h
  unfold edX
  split at h
  · rename_i e he
    exact gU_some he
  · cases h

def u64sV (n : Nat) (f : Nat → Int) : V := .sl 1 n fun i => uV (f i)

def gSlX : V → Option (Nat × (Nat → V))
  | .sl s n g => match Nat.beq s 1 with
    | true => some (n, g)
    | false => none
  | _ => none

def apX {α : Type} (v : V) (F : Nat → (Nat → Int) → T α) : T α :=
  match gSlX v with
  | some (n, g) => .br (allN n fun i => okX (g i)) (F n fun i => edX (g i)) .fail
  | none => .fail

theorem apX_some {α : Type} {v : V} {F : Nat → (Nat → Int) → T α} {r : α} (h : (apX v F).sem = some r) :
    ∃ n f, (∀ (S : Nat → Prop) (w : World) (c : Value), VR S w v noK c → VR S w (u64sV n f) noK c) ∧ (F n f).sem = some r := by
  unfold apX at h
  split at h
  · rename_i n g hg
    obtain ⟨h1, h2⟩ := sem_br_fail h
    have h1 := allN_iff.1 h1
    refine ⟨n, _, fun S w c hv => ?_, h2⟩
    unfold gSlX at hg
    split at hg
    · rename_i s n' g'
      split at hg
      · rename_i hs
        simp only [Option.some.injEq, Prod.mk.injEq] at hg
        obtain ⟨rfl, rfl⟩ := hg
        have hs : s = 1 := Nat.eq_of_beq_eq_true hs
        subst hs
        obtain ⟨a, cap, e, hc, hb⟩ := hv
        refine ⟨a, cap, e, hc, hb.imp id ?_⟩
        rintro ⟨b, o, ea, hel⟩
        refine ⟨b, o, ea, fun i hi => ?_⟩
        have := hel i hi
        rw [okX_spec (h1 i hi)] at this
        exact this
      · cases hg
    · cases hg
  · cases h


noncomputable def tb36 : List (Nat × (List V → T (V × List Blk))) := [(41, totT), (51, uuT fun x y => .tup [uV (mulHi x y), uV (mulLo x y)]), (52, add64T), (53, divT)]
theorem tb36_ok : AllPure Try.prog Gl tb36 := .cons p41 <| .cons p51 <| .consX p52 <| .cons p53 .nil

def lp36c (N : Nat) (g : Nat → Int) (n : Int) : Lp := ⟨[true, true, false, false, false, true, true, true, false, false, false, false, false, false, false, false, false, false, false, false, false, false, false, false, false, false, false, false, false, false, false, false, false, false, false, false, false, false, false, false, false, false, false, false, false, false, false, false, false, false, false, false, false, false, false], 0, [false, true, false, false, false, true, true, false, false, false, false, false, false, false, false, false, false, false, false, false, false, false, false, false, false, false, false, false, false, false, false, false, false, false, false, false, false, false, false, false, false, false, false, false, false, false, false, false, false, false, false, false, false, false, false], 0, toN n + 1⟩
def st36c (N : Nat) (g : Nat → Int) (n : Int) (h l : Int) (d : Int) (j : Nat → V) : St := ⟨[.sl 1 N (fun i => uV (g i)), iV n, j 2, j 3, j 4, uV h, uV l, iV d, j 8, j 9, j 10, j 11, j 12, j 13, j 14, j 15, j 16, j 17, j 18, j 19, j 20, j 21, j 22, j 23, j 24, j 25, j 26, j 27, j 28, j 29, j 30, j 31, j 32, j 33, j 34, j 35, j 36, j 37, j 38, j 39, j 40, j 41, j 42, j 43, j 44, j 45, j 46, j 47, j 48, j 49, j 50, j 51, j 52, j 53, j 54], []⟩
def en36ca (N : Nat) (g : Nat → Int) (n : Int) (h l : Int) (d : Int) : Ex × St := (.ex 0, ⟨[.und, iV n, .und, .und, .und, uV h, uV l, .und, .und, .und, .und, .und, .und, .und, .und, .und, .und, .und, .und, .und, .und, .und, .und, .und, .und, .und, .und, .und, .und, .und, .und, .und, .und, .und, .und, .und, .und, .und, .und, .und, .und, .und, .und, .und, .und, .und, .und, .und, .und, .und, .und, .und, .und, .und, .und], []⟩)
noncomputable def body36c (L : Nat → (St → T (Ex × St)) → St → T (Ex × St)) : St → T (Ex × St) := fun st => evalC tab ⟨callT tb36, L, Gl⟩ (loopBody Try.f36 0) 0 st
theorem rc36a_p (L : Nat → (St → T (Ex × St)) → St → T (Ex × St)) (N : Nat) (g : Nat → Int) (n : Int) (h l : Int) (d : Int)  (j : Nat → V) : ((body36c L (st36c N g n h l d j)).bind fun r => T.leaf (cutR (lp36c N g n) r)).path [false] = some ([(ile d n)], ((.ex 0), ⟨[.und, (iV n), .und, .und, .und, (uV h), (uV l), .und, .und, .und, .und, .und, .und, .und, .und, .und, .und, .und, .und, .und, .und, .und, .und, .und, .und, .und, .und, .und, .und, .und, .und, .und, .und, .und, .und, .und, .und, .und, .und, .und, .und, .und, .und, .und, .und, .und, .und, .und, .und, .und, .und, .und, .und, .und, .und], []⟩)) := by kernel_rfl
theorem rc36a (L : Nat → (St → T (Ex × St)) → St → T (Ex × St)) (N : Nat) (g : Nat → Int) (n : Int) (h l : Int) (d : Int)  (j : Nat → V) (h0 : ile d n = false) : ((body36c L (st36c N g n h l d j)).bind fun r => T.leaf (cutR (lp36c N g n) r)).sem = some ((.ex 0), ⟨[.und, (iV n), .und, .und, .und, (uV h), (uV l), .und, .und, .und, .und, .und, .und, .und, .und, .und, .und, .und, .und, .und, .und, .und, .und, .und, .und, .und, .und, .und, .und, .und, .und, .und, .und, .und, .und, .und, .und, .und, .und, .und, .und, .und, .und, .und, .und, .und, .und, .und, .und, .und, .und, .und, .und, .und, .und], []⟩) := by
  exact sem_of_path (rc36a_p L N g n h l d j) (by simp only [h0] <;> rfl)
theorem rc36s_p (L : Nat → (St → T (Ex × St)) → St → T (Ex × St)) (N : Nat) (g : Nat → Int) (n : Int) (h l : Int) (d : Int)  (j : Nat → V) : ((body36c L (st36c N g n h l d j)).bind fun r => T.leaf (cutR (lp36c N g n) r)).path [true, false, true] = some ([(ile d n), (ieq d 0), (bnot (ieq (itmod n d) 0))], (.nm, ⟨[(.sl 1 N (fun i => (uV (g i)))), (iV n), .und, .und, .und, (uV h), (uV l), (iV (wr IntKind.i64 (iadd d 1))), .und, .und, .und, .und, .und, .und, .und, .und, .und, .und, .und, .und, .und, .und, .und, .und, .und, .und, .und, .und, .und, .und, .und, .und, .und, .und, .und, .und, .und, .und, .und, .und, .und, .und, .und, .und, .und, .und, .und, .und, .und, .und, .und, .und, .und, .und, .und], []⟩)) := by kernel_rfl
theorem rc36s (L : Nat → (St → T (Ex × St)) → St → T (Ex × St)) (N : Nat) (g : Nat → Int) (n : Int) (h l : Int) (d : Int)  (j : Nat → V) (h0 : ile d n = true) (h1 : ieq d 0 = false) (h2 : ieq (itmod n d) 0 = false) : ((body36c L (st36c N g n h l d j)).bind fun r => T.leaf (cutR (lp36c N g n) r)).sem = some (.nm, ⟨[(.sl 1 N (fun i => (uV (g i)))), (iV n), .und, .und, .und, (uV h), (uV l), (iV (wr IntKind.i64 (iadd d 1))), .und, .und, .und, .und, .und, .und, .und, .und, .und, .und, .und, .und, .und, .und, .und, .und, .und, .und, .und, .und, .und, .und, .und, .und, .und, .und, .und, .und, .und, .und, .und, .und, .und, .und, .und, .und, .und, .und, .und, .und, .und, .und, .und, .und, .und, .und, .und], []⟩) := by
  exact sem_of_path (rc36s_p L N g n h l d j) (by simp only [h0, h1, h2] <;> rfl)
theorem rc36t_p (L : Nat → (St → T (Ex × St)) → St → T (Ex × St)) (N : Nat) (g : Nat → Int) (n : Int) (h l : Int) (d : Int)  (j : Nat → V) : ((body36c L (st36c N g n h l d j)).bind fun r => T.leaf (cutR (lp36c N g n) r)).path [true, false, false, true, true, false, true, true, true, true, true, true, true] = some ([(ile d n), (ieq d 0), (bnot (ieq (itmod n d) 0)), (ile 1 d), (ile d 1048576), (ieq d 0), (band (ile 0 (wr IntKind.i64 (itdiv n d))) (ilt (wr IntKind.i64 (itdiv n d)) (Int.ofNat N))), (okU (wr IntKind.u64 (totI d))), (okU (g (toN (wr IntKind.i64 (itdiv n d))))), (ile 0 l), (ile 0 (mulLo (wr IntKind.u64 (totI d)) (g (toN (wr IntKind.i64 (itdiv n d)))))), (ile 0 0), (ile 0 1)], (.nm, ⟨[(.sl 1 N (fun i => (uV (g i)))), (iV n), .und, .und, .und, (uV (wr IntKind.u64 (iadd h (wr IntKind.u64 (iadd (mulHi (wr IntKind.u64 (totI d)) (g (toN (wr IntKind.i64 (itdiv n d))))) (addHi l (mulLo (wr IntKind.u64 (totI d)) (g (toN (wr IntKind.i64 (itdiv n d))))) 0)))))), (uV (addLo l (mulLo (wr IntKind.u64 (totI d)) (g (toN (wr IntKind.i64 (itdiv n d))))) 0)), (iV (wr IntKind.i64 (iadd d 1))), .und, .und, .und, .und, .und, .und, .und, .und, .und, .und, .und, .und, .und, .und, .und, .und, .und, .und, .und, .und, .und, .und, .und, .und, .und, .und, .und, .und, .und, .und, .und, .und, .und, .und, .und, .und, .und, .und, .und, .und, .und, .und, .und, .und, .und, .und, .und], []⟩)) := by kernel_rfl
theorem rc36t (L : Nat → (St → T (Ex × St)) → St → T (Ex × St)) (N : Nat) (g : Nat → Int) (n : Int) (h l : Int) (d : Int)  (j : Nat → V) (h0 : ile d n = true) (h1 : ieq d 0 = false) (h2 : ieq (itmod n d) 0 = true) (h3 : ile 1 d = true) (h4 : ile d 1048576 = true) (h5 : band (ile 0 (wr IntKind.i64 (itdiv n d))) (ilt (wr IntKind.i64 (itdiv n d)) (Int.ofNat N)) = true) (h7 : okU (wr IntKind.u64 (totI d)) = true) (h8 : okU (g (toN (wr IntKind.i64 (itdiv n d)))) = true) (h9 : ile 0 l = true) (h10 : ile 0 (mulLo (wr IntKind.u64 (totI d)) (g (toN (wr IntKind.i64 (itdiv n d))))) = true) : ((body36c L (st36c N g n h l d j)).bind fun r => T.leaf (cutR (lp36c N g n) r)).sem = some (.nm, ⟨[(.sl 1 N (fun i => (uV (g i)))), (iV n), .und, .und, .und, (uV (wr IntKind.u64 (iadd h (wr IntKind.u64 (iadd (mulHi (wr IntKind.u64 (totI d)) (g (toN (wr IntKind.i64 (itdiv n d))))) (addHi l (mulLo (wr IntKind.u64 (totI d)) (g (toN (wr IntKind.i64 (itdiv n d))))) 0)))))), (uV (addLo l (mulLo (wr IntKind.u64 (totI d)) (g (toN (wr IntKind.i64 (itdiv n d))))) 0)), (iV (wr IntKind.i64 (iadd d 1))), .und, .und, .und, .und, .und, .und, .und, .und, .und, .und, .und, .und, .und, .und, .und, .und, .und, .und, .und, .und, .und, .und, .und, .und, .und, .und, .und, .und, .und, .und, .und, .und, .und, .und, .und, .und, .und, .und, .und, .und, .und, .und, .und, .und, .und, .und, .und], []⟩) := by
  exact sem_of_path (rc36t_p L N g n h l d j) (by simp only [h0, h1, h2, h3, h4, h5, h7, h8, h9, h10] <;> rfl)
def jk36c (N : Nat) (g : Nat → Int) (n : Int)  : Nat → V
  | 4 => (uV 0)
  | _ => undefV

theorem wc36_p (L : Nat → (St → T (Ex × St)) → St → T (Ex × St)) (p0 : (St → T (Ex × St)) → St → Bool) (N : Nat) (g : Nat → Int) (n : Int) (h l d : Int) : (finF (evalF tab ⟨callT tb36, (onP 0 p0 (en36ca N g n h l d) L), Gl⟩ Try.f36 [.sl 1 N (fun i => uV (g i)), iV n] [])).path [true, true, true, true, true, true, true] = some ([(p0 (body36c (onP 0 p0 (en36ca N g n h l d) L)) (st36c N g n 0 0 1 (jk36c N g n ))), (ile 1 (wr IntKind.u64 n)), (ile (wr IntKind.u64 n) 16), (ile 0 h), (ilt h (wr IntKind.u64 n)), (ile 0 l), (ile l 18446744073709551615)], ((uV (divQ h l (wr IntKind.u64 n))), [])) := by kernel_rfl
theorem wc36 (L : Nat → (St → T (Ex × St)) → St → T (Ex × St)) (p0 : (St → T (Ex × St)) → St → Bool) (N : Nat) (g : Nat → Int) (n : Int) (h l d : Int) (h0 : ile 1 (wr IntKind.u64 n) = true) (h1 : ile (wr IntKind.u64 n) 16 = true) (h2 : ile 0 h = true) (h3 : ilt h (wr IntKind.u64 n) = true) (h4 : ile 0 l = true) (h5 : ile l 18446744073709551615 = true) (hp0 : p0 (body36c (onP 0 p0 (en36ca N g n h l d) L)) (st36c N g n 0 0 1 (jk36c N g n )) = true) : (finF (evalF tab ⟨callT tb36, (onP 0 p0 (en36ca N g n h l d) L), Gl⟩ Try.f36 [.sl 1 N (fun i => uV (g i)), iV n] [])).sem = some ((uV (divQ h l (wr IntKind.u64 n))), []) := by
  exact sem_of_path (wc36_p L p0 N g n h l d) (by simp only [h0, h1, h2, h3, h4, h5, hp0] <;> rfl)


/-- The sum of totients of divisors up to d, each with the closed lists of the other divisor. -/
def sumC (g : Nat → Int) (n : Nat) : Nat → Int
  | 0 => 0
  | d + 1 => if n % (d + 1) = 0 then sumC g n d + totI (Int.ofNat (d + 1)) * g (n / (d + 1)) else sumC g n d

theorem totI_le (d : Nat) : 0 ≤ totI (Int.ofNat d) ∧ totI (Int.ofNat d) ≤ Int.ofNat d := by
  unfold totI
  have := totC_le d d
  have e : toN (Int.ofNat d) = d := rfl
  rw [e]
  simp
  omega

theorem sumC_le (g : Nat → Int) (n : Nat) (hn : n ≤ 16) (hg : ∀ i, i ≤ n → okU (g i) = true) : ∀ d, d ≤ n → 0 ≤ sumC g n d ∧ sumC g n d ≤ Int.ofNat d * 147573952589676412928
  | 0, _ => ⟨Int.le_refl _, Int.le_refl _⟩
  | d + 1, h => by
    obtain ⟨h1, h2⟩ := sumC_le g n hn hg d (by omega)
    unfold sumC
    split
    · have h3 := totI_le (d + 1)
      have h4 := okU_iff.1 (hg (n / (d + 1)) (Nat.div_le_self _ _))
      have h5 := Int.mul_le_mul (show totI (Int.ofNat (d + 1)) ≤ 16 by have := h3.2; simp at this ⊢; omega) h4.2 h4.1 (by omega)
      have h6 := Int.mul_nonneg h3.1 h4.1
      generalize totI (Int.ofNat (d + 1)) * g (n / (d + 1)) = p at *
      simp at h2 ⊢
      omega
    · simp at h2 ⊢
      omega

def hiS (s : Int) : Int := s / 18446744073709551616
def loS (s : Int) : Int := s % 18446744073709551616

theorem step36 (s p : Int) (h0 : 0 ≤ s) (h1 : s ≤ 2361183241434822606848) (p0 : 0 ≤ p) (p1 : p ≤ 147573952589676412928) :
    wr IntKind.u64 (iadd (hiS s) (wr IntKind.u64 (iadd (p / 18446744073709551616) (addHi (loS s) (p % 18446744073709551616) 0)))) = hiS (s + p) ∧ addLo (loS s) (p % 18446744073709551616) 0 = loS (s + p) := by
  unfold addHi addLo hiS loS iadd
  simp only [wr_u]
  omega

theorem totI_wr (d : Nat) (hd : d ≤ 16) : wr IntKind.u64 (totI (Int.ofNat d)) = totI (Int.ofNat d) := by
  have h := totI_le d
  rw [wr_u]
  have : totI (Int.ofNat d) ≤ 16 := by have := h.2; simp at this ⊢; omega
  omega

theorem ieq_mod (n d : Nat) : ieq (itmod (Int.ofNat n) (Int.ofNat d)) 0 = decide (n % d = 0) := by
  rw [tmod_nat]
  unfold ieq
  rw [Bool.eq_iff_iff]
  simp
  omega

theorem div_wr (n d : Nat) (hn : n ≤ 16) : wr IntKind.i64 (itdiv (Int.ofNat n) (Int.ofNat d)) = Int.ofNat (n / d) := by
  have e : itdiv (Int.ofNat n) (Int.ofNat d) = Int.ofNat (n / d) := rfl
  have := Nat.div_le_self n d
  rw [e]
  generalize n / d = k at *
  unfold wr IntKind.wrap
  simp [IntKind.bits, IntKind.signed]
  omega

theorem run36 (L : Nat → (St → T (Ex × St)) → St → T (Ex × St)) (N : Nat) (g : Nat → Int) (n : Nat) (hn : n ≤ 16) (hN : n < N) (hg : ∀ i, i ≤ n → okU (g i) = true) : ∀ (e d : Nat) (j : Nat → V) (q : Nat), n = d + e → e < q →
    (iterT (body36c L) (lp36c N g (Int.ofNat n)) q (st36c N g (Int.ofNat n) (hiS (sumC g n d)) (loS (sumC g n d)) (Int.ofNat (d + 1)) j)).sem = some (en36ca N g (Int.ofNat n) (hiS (sumC g n n)) (loS (sumC g n n)) 0)
  | 0, d, j, q + 1, h1, _ => by
    have hd : n = d := by omega
    subst hd
    exact iter_round (rc36a L N g _ _ _ _ j (ofNat_gt (by omega)))
  | e + 1, d, j, q + 1, h1, h2 => by
    have hz : ieq (Int.ofNat (d + 1)) 0 = false := ieq_false (by simp; omega)
    have hs := sumC_le g n hn hg d (by omega)
    by_cases hd : n % (d + 1) = 0
    · have hq := Nat.div_le_self n (d + 1)
      have hk : toN (wr IntKind.i64 (itdiv (Int.ofNat n) (Int.ofNat (d + 1)))) = n / (d + 1) := by rw [div_wr n _ hn]; rfl
      have htw := totI_wr (d + 1) (by omega)
      have htl := totI_le (d + 1)
      have hgk := hg (n / (d + 1)) hq
      have hgk' := okU_iff.1 hgk
      have h16 : totI (Int.ofNat (d + 1)) ≤ 16 := by have := htl.2; simp at this ⊢; omega
      have hok : okU (totI (Int.ofNat (d + 1))) = true := okU_iff.2 ⟨htl.1, by omega⟩
      have hp0 := Int.mul_nonneg htl.1 hgk'.1
      have hp1 := Int.mul_le_mul h16 hgk'.2 hgk'.1 (by omega)
      have hst := step36 (sumC g n d) (totI (Int.ofNat (d + 1)) * g (n / (d + 1))) hs.1 (by have := hs.2; simp at this ⊢; omega) hp0 (by omega)
      rw [iter_round (rc36t L N g (Int.ofNat n) (hiS (sumC g n d)) (loS (sumC g n d)) (Int.ofNat (d + 1)) j (ofNat_le (by omega)) hz (by rw [ieq_mod]; exact decide_eq_true hd) (le_true (by simp; omega)) (le_true (by simp; omega))
        (by rw [div_wr n _ hn]; exact ofNat_in (by omega)) (by rw [htw]; exact hok) (by rw [hk]; exact hgk) (le_true (Int.emod_nonneg _ (by omega)))
        (by rw [htw, hk]; exact le_true (Int.emod_nonneg _ (by omega)))), goOn_nm, hk, htw,
        show mulHi (totI (Int.ofNat (d + 1))) (g (n / (d + 1))) = totI (Int.ofNat (d + 1)) * g (n / (d + 1)) / 18446744073709551616 from rfl,
        show mulLo (totI (Int.ofNat (d + 1))) (g (n / (d + 1))) = totI (Int.ofNat (d + 1)) * g (n / (d + 1)) % 18446744073709551616 from rfl,
        hst.1, hst.2, succ_wr (show d + 1 < n + 1 by omega) (by omega), show sumC g n d + totI (Int.ofNat (d + 1)) * g (n / (d + 1)) = sumC g n (d + 1) by rw [sumC, if_pos hd]]
      exact run36 L N g n hn hN hg e (d + 1) (fun _ => .und) q (by omega) (by omega)
    · rw [iter_round (rc36s L N g (Int.ofNat n) (hiS (sumC g n d)) (loS (sumC g n d)) (Int.ofNat (d + 1)) j (ofNat_le (by omega)) hz (by rw [ieq_mod]; exact decide_eq_false hd)), goOn_nm, succ_wr (show d + 1 < n + 1 by omega) (by omega),
        show sumC g n d = sumC g n (d + 1) by rw [sumC, if_neg hd]]
      exact run36 L N g n hn hN hg e (d + 1) (fun _ => .und) q (by omega) (by omega)

/-- How many classes. -/
def clsN (g : Nat → Int) (n : Nat) : Int := sumC g n n / Int.ofNat n

def classesT : List V → T (V × List Blk)
  | [v, u] => apX v fun N g => match gI u with
    | some n => .br (ile 1 n) (.br (ile n 16) (.br (ilt n (Int.ofNat N)) (.br (allN (toN n + 1) fun i => okU (g i)) (.br (ilt (sumC g (toN n) (toN n)) (n * 18446744073709551616)) (out (uV (clsN g (toN n)))) .fail) .fail) .fail) .fail) .fail
    | none => .fail
  | _ => .fail

theorem p36c : PureC Try.prog Gl 36 classesT := by
  refine pureC_intro tabOK mixed Try.func36 (by kernel_rfl) (by kernel_rfl) fun vs v h' h => ?_
  unfold classesT at h
  split at h
  · obtain ⟨N, g, ha, hq⟩ := apX_some h
    split at hq
    · rename_i u _ k hk
      obtain ⟨h1, hq⟩ := sem_br_fail hq
      obtain ⟨h2, hq⟩ := sem_br_fail hq
      obtain ⟨h3, hq⟩ := sem_br_fail hq
      obtain ⟨h4, hq⟩ := sem_br_fail hq
      obtain ⟨h5, hq⟩ := sem_br_fail hq
      have h1 : (1 : Int) ≤ k := of_decide_eq_true h1
      have h2 : k ≤ 16 := of_decide_eq_true h2
      have h3 : k < Int.ofNat N := of_decide_eq_true h3
      obtain ⟨n, rfl⟩ := Int.eq_ofNat_of_zero_le (show (0 : Int) ≤ k by omega)
      have h3 : n < N := by simpa using h3
      have h5 : sumC g n n < Int.ofNat n * 18446744073709551616 := of_decide_eq_true h5
      have h4 : ∀ i, i ≤ n → okU (g i) = true := fun i hi => allN_iff.1 h4 i (by show i < n + 1; omega)
      have := sem_leaf hq
      simp only [Prod.mk.injEq] at this
      obtain ⟨rfl, rfl⟩ := this
      have hx := cx_ok tb36_ok [(0, lp36c N g (Int.ofNat n))]
      have hL := loopsBy_le [(0, lp36c N g (Int.ofNat n))]
      have hA : ArgLE [_, u] [u64sV N g, iV (Int.ofNat n)] := fun S w cs hv => by
        obtain ⟨c, l, rfl, q1, c', l', rfl, q2, q3⟩ := hv
        rw [gI_some hk] at q2
        exact ⟨c, _, rfl, ha S w c q1, c', _, rfl, q2, q3⟩
      have hs := sumC_le g n (by omega) h4 n (Nat.le_refl _)
      have ew : wr IntKind.u64 (Int.ofNat n) = Int.ofNat n := by rw [wr_u]; simp; omega
      have hn0 : (0 : Int) < Int.ofNat n := by omega
      have hh : hiS (sumC g n n) < Int.ofNat n := Int.ediv_lt_of_lt_mul (by omega) h5
      have hh0 : 0 ≤ hiS (sumC g n n) := Int.ediv_nonneg hs.1 (by omega)
      have hl0 : 0 ≤ loS (sumC g n n) := Int.emod_nonneg _ (by omega)
      have hl1 : loS (sumC g n n) < 18446744073709551616 := Int.emod_lt_of_pos _ (by omega)
      have e : divQ (hiS (sumC g n n)) (loS (sumC g n n)) (wr IntKind.u64 (Int.ofNat n)) = clsN g n := by
        rw [ew]
        unfold divQ clsN hiS loS
        rw [Int.ediv_mul_add_emod]
      refine ⟨_, cxOf Gl tb36 _, _, hA, rfl, hx.1, hx.2, ?_, RowsLE.refl _⟩
      have hw := wc36 (loopsBy [(0, lp36c N g (Int.ofNat n))]) (isP (loopsBy [(0, lp36c N g (Int.ofNat n))]) 0 (en36ca N g (Int.ofNat n) (hiS (sumC g n n)) (loS (sumC g n n)) 0)) N g (Int.ofNat n) (hiS (sumC g n n)) (loS (sumC g n n)) 0
        (by rw [ew]; exact le_true (by omega)) (by rw [ew]; exact le_true (by omega)) (le_true hh0) (by rw [ew]; exact lt_true hh) (le_true hl0) (le_true (by omega))
        (isP_true (run36 _ N g n (by omega) h3 h4 n 0 _ (n + 1) (by omega) (by omega)))
      rw [e] at hw
      exact told_le (onP_le hL hL) _ hw
    · cases hq
  · cases h

end Go.Proofs.Ytdmjcpindopjdaa.Co
