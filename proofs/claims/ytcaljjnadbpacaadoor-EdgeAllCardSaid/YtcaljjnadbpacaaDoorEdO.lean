/-
  Layer 3: how two lists of edges stand, both ways of finding it. No conditions.
-/
import Derived.Test.YtcaljjnadbpacaaDoorEdL
namespace Go.Proofs.YtcaljjnadbpacaaDoor.Ed
open Go.Sy

def signI (a b : Int) : Int := sel (ilt a b) (-1) (sel (ilt b a) 1 0)

theorem sign82 (a b : Int) : (finF (evalF tab cx8 Tryd.f82 [iV a, iV b] [])).sem = sel (ilt a b) (some (iV (-1), [])) (sel (ilt b a) (some (iV 1, [])) (some (iV 0, []))) := by kernel_rfl

theorem p82 : PureC Tryd.prog Gl 82 (ap2 gI gI fun a b => out (iV (signI a b))) := by
  refine PureC.congr (pureC_body tabOK mixed Tryd.func82 (by kernel_rfl) (by kernel_rfl) (Γ := cx8) (cx_ok tb8_ok _)) fun vs r h => ?_
  obtain ⟨a, b, rfl, h⟩ := ap2_some gI_ok gI_ok h
  rw [sem_leaf h]
  refine (sign82 a b).trans ?_
  unfold signI
  cases ilt a b <;> cases ilt b a <;> rfl

noncomputable def tb11 : List (Nat × (List V → T (V × List Blk))) := (81, codesT) :: (82, ap2 gI gI fun a b => out (iV (signI a b))) :: tb10
theorem tb11_ok : AllPure Tryd.prog Gl tb11 := .cons p81 <| .cons p82 tb10_ok

theorem nlt_true {i n : Nat} (h : i < n) : nlt i n = true := by simpa [nlt] using h

/-- Where the first e numbers are the same, what stands behind tells. -/
theorem cmp_drop (n m : Nat) (f g : Nat → E6) : ∀ e, e ≤ n → e ≤ m → (∀ t, t < e → codeN (f t) = codeN (g t)) → cmpL (codesL n f) (codesL m g) = cmpL ((codesL n f).drop e) ((codesL m g).drop e)
  | 0, _, _, _ => rfl
  | e + 1, h1, h2, h => by
    rw [cmp_drop n m f g e (by omega) (by omega) (fun t ht => h t (by omega)), codesL_drop n e f (by omega), codesL_drop m e g (by omega)]
    have := h e (by omega)
    rcases cmpL_cons (codeN (f e)) (codeN (g e)) ((codesL n f).drop (e + 1)) ((codesL m g).drop (e + 1)) with ⟨q, _⟩ | ⟨q, _⟩ | ⟨_, q⟩
    · omega
    · omega
    · exact q

theorem cmp_end (n m : Nat) (f g : Nat → E6) (h : ∀ t, t < min n m → codeN (f t) = codeN (g t)) : cmpL (codesL n f) (codesL m g) = signI (Int.ofNat n) (Int.ofNat m) := by
  rw [cmp_drop n m f g (min n m) (by omega) (by omega) h]
  unfold signI
  rcases Nat.lt_trichotomy n m with h1 | h1 | h1
  · rw [codesL_end n _ f (by omega), codesL_drop m _ g (by omega), ofNat_lt h1]
    rfl
  · subst h1
    rw [codesL_end n _ f (by omega), codesL_end n _ g (by omega), ofNat_ge (Nat.le_refl n)]
    rfl
  · rw [codesL_end m _ g (by omega), codesL_drop n _ f (by omega), ofNat_lt h1, ofNat_ge (Nat.le_of_lt h1)]
    rfl

theorem cmp_at (n m : Nat) (f g : Nat → E6) (e : Nat) (h1 : e < n) (h2 : e < m) (h : ∀ t, t < e → codeN (f t) = codeN (g t)) (hne : codeN (f e) ≠ codeN (g e)) : cmpL (codesL n f) (codesL m g) = signI (codeN (f e)) (codeN (g e)) := by
  rw [cmp_drop n m f g e (by omega) (by omega) h, codesL_drop n e f h1, codesL_drop m e g h2]
  unfold signI
  rcases cmpL_cons (codeN (f e)) (codeN (g e)) ((codesL n f).drop (e + 1)) ((codesL m g).drop (e + 1)) with ⟨q, r⟩ | ⟨q, r⟩ | ⟨q, _⟩
  · rw [r, lt_true q]; rfl
  · rw [r, lt_true q, lt_false (by omega)]; rfl
  · exact absurd q hne

/-- The first numbers that differ, or none. -/
theorem diff_at (n m : Nat) (f g : Nat → E6) : (∀ t, t < min n m → codeN (f t) = codeN (g t)) ∨ ∃ e, e < n ∧ e < m ∧ (∀ t, t < e → codeN (f t) = codeN (g t)) ∧ codeN (f e) ≠ codeN (g e) := by
  cases h : allN (min n m) fun t => ieq (codeN (f t)) (codeN (g t)) with
  | true => exact .inl fun t ht => by simpa [ieq] using allN_iff.1 h t ht
  | false =>
    obtain ⟨e, h1, h2, h3⟩ := firstNot _ _ h
    exact .inr ⟨e, by omega, by omega, fun t ht => by simpa [ieq] using h3 t ht, by simpa [ieq] using h2⟩

/-! ### The program's -/

def lp38 (n : Nat) (f : Nat → E6) (m : Nat) (g : Nat → E6) : Lp := ⟨[false, false, false, false, true, true, true, false, true, false, true, false, false, false, false, false, false, false, false, false, false, false, false, false, false, false, false, false, false, false, false, false, false, false, false, false, false, false, false, false, false, false, false, false, false, false, false, false, false, false, false, false, false, false, false, false, false, false, false, false, false, false, false, false, false, false, false, false, false], 2, [false, false, false, false, true, true, true, false, true, false, false, false, false, false, false, false, false, false, false, false, false, false, false, false, false, false, false, false, false, false, false, false, false, false, false, false, false, false, false, false, false, false, false, false, false, false, false, false, false, false, false, false, false, false, false, false, false, false, false, false, false, false, false, false, false, false, false, false, false], 2, n + 1⟩
def st38 (n : Nat) (f : Nat → E6) (m : Nat) (g : Nat → E6) (i : Nat) (j : Nat → V) : St := ⟨[j 0, j 1, j 2, j 3, iV 0, iV 0, .ref 0, j 7, .ref 1, j 9, iV (Int.ofNat i), j 11, j 12, j 13, j 14, j 15, j 16, j 17, j 18, j 19, j 20, j 21, j 22, j 23, j 24, j 25, j 26, j 27, j 28, j 29, j 30, j 31, j 32, j 33, j 34, j 35, j 36, j 37, j 38, j 39, j 40, j 41, j 42, j 43, j 44, j 45, j 46, j 47, j 48, j 49, j 50, j 51, j 52, j 53, j 54, j 55, j 56, j 57, j 58, j 59, j 60, j 61, j 62, j 63, j 64, j 65, j 66, j 67, j 68], [.row 3 1 n fun i => iV (codeN (f i)), .row 3 1 m fun i => iV (codeN (g i))]⟩
def en38a (n : Nat) (f : Nat → E6) (m : Nat) (g : Nat → E6) (i : Nat) : Ex × St := (.ex 0, ⟨[.und, .und, .und, .und, iV 0, iV 0, .ref 0, .und, .ref 1, .und, .und, .und, .und, .und, .und, .und, .und, .und, .und, .und, .und, .und, .und, .und, .und, .und, .und, .und, .und, .und, .und, .und, .und, .und, .und, .und, .und, .und, .und, .und, .und, .und, .und, .und, .und, .und, .und, .und, .und, .und, .und, .und, .und, .und, .und, .und, .und, .und, .und, .und, .und, .und, .und, .und, .und, .und, .und, .und, .und], [.row 3 1 n fun i => iV (codeN (f i)), .row 3 1 m fun i => iV (codeN (g i))]⟩)
def en38b (n : Nat) (f : Nat → E6) (m : Nat) (g : Nat → E6) (i : Nat) : Ex × St := (.rt, ⟨[.und, .und, .und, .und, iV (-1), iV 0, .ref 0, .und, .ref 1, .und, .und, .und, .und, .und, .und, .und, .und, .und, .und, .und, .und, .und, .und, .und, .und, .und, .und, .und, .und, .und, .und, .und, .und, .und, .und, .und, .und, .und, .und, .und, .und, .und, .und, .und, .und, .und, .und, .und, .und, .und, .und, .und, .und, .und, .und, .und, .und, .und, .und, .und, .und, .und, .und, .und, .und, .und, .und, .und, .und], [.row 3 1 n fun i => iV (codeN (f i)), .row 3 1 m fun i => iV (codeN (g i))]⟩)
def en38c (n : Nat) (f : Nat → E6) (m : Nat) (g : Nat → E6) (i : Nat) : Ex × St := (.rt, ⟨[.und, .und, .und, .und, iV 1, iV 0, .ref 0, .und, .ref 1, .und, .und, .und, .und, .und, .und, .und, .und, .und, .und, .und, .und, .und, .und, .und, .und, .und, .und, .und, .und, .und, .und, .und, .und, .und, .und, .und, .und, .und, .und, .und, .und, .und, .und, .und, .und, .und, .und, .und, .und, .und, .und, .und, .und, .und, .und, .und, .und, .und, .und, .und, .und, .und, .und, .und, .und, .und, .und, .und, .und], [.row 3 1 n fun i => iV (codeN (f i)), .row 3 1 m fun i => iV (codeN (g i))]⟩)
noncomputable def body38 (L : Nat → (St → T (Ex × St)) → St → T (Ex × St)) : St → T (Ex × St) := fun st => evalC tab ⟨callT tb11, L, Gl⟩ (loopBody Tryd.f38 0) 0 st
theorem round38 (L : Nat → (St → T (Ex × St)) → St → T (Ex × St)) (n : Nat) (f : Nat → E6) (m : Nat) (g : Nat → E6) (i : Nat) (j : Nat → V) : roundT (body38 L) (lp38 n f m g) (st38 n f m g i j)
 = (sel (ilt (Int.ofNat i) (Int.ofNat n)) (sel (ilt (Int.ofNat i) (Int.ofNat n)) (sel (ilt (Int.ofNat i) (Int.ofNat n)) (sel (ilt (Int.ofNat i) (Int.ofNat n)) (sel (ilt (Int.ofNat i) (Int.ofNat n)) (sel (ilt (Int.ofNat i) (Int.ofNat m)) (sel (band (ile 0 (Int.ofNat i)) (ilt (Int.ofNat i) (Int.ofNat n))) (sel (nlt i n) (sel (band (ile 0 (Int.ofNat i)) (ilt (Int.ofNat i) (Int.ofNat m))) (sel (nlt i m) (sel (ilt (codeN (f i)) (codeN (g i))) (some (.rt, ⟨[.und, .und, .und, .und, (iV (-1)), (iV 0), (.ref 0), .und, (.ref 1), .und, .und, .und, .und, .und, .und, .und, .und, .und, .und, .und, .und, .und, .und, .und, .und, .und, .und, .und, .und, .und, .und, .und, .und, .und, .und, .und, .und, .und, .und, .und, .und, .und, .und, .und, .und, .und, .und, .und, .und, .und, .und, .und, .und, .und, .und, .und, .und, .und, .und, .und, .und, .und, .und, .und, .und, .und, .und, .und, .und], [(.row 3 1 n (fun i => (iV (codeN (f i))))), (.row 3 1 m (fun i => (iV (codeN (g i)))))]⟩)) (sel (band (ile 0 (Int.ofNat i)) (ilt (Int.ofNat i) (Int.ofNat n))) (sel (nlt i n) (sel (band (ile 0 (Int.ofNat i)) (ilt (Int.ofNat i) (Int.ofNat m))) (sel (nlt i m) (sel (ilt (codeN (g i)) (codeN (f i))) (some (.rt, ⟨[.und, .und, .und, .und, (iV 1), (iV 0), (.ref 0), .und, (.ref 1), .und, .und, .und, .und, .und, .und, .und, .und, .und, .und, .und, .und, .und, .und, .und, .und, .und, .und, .und, .und, .und, .und, .und, .und, .und, .und, .und, .und, .und, .und, .und, .und, .und, .und, .und, .und, .und, .und, .und, .und, .und, .und, .und, .und, .und, .und, .und, .und, .und, .und, .und, .und, .und, .und, .und, .und, .und, .und, .und, .und], [(.row 3 1 n (fun i => (iV (codeN (f i))))), (.row 3 1 m (fun i => (iV (codeN (g i)))))]⟩)) (some (.nm, ⟨[.und, .und, .und, .und, (iV 0), (iV 0), (.ref 0), .und, (.ref 1), .und, (iV (wr IntKind.i64 (iadd (Int.ofNat i) 1))), .und, .und, .und, .und, .und, .und, .und, .und, .und, .und, .und, .und, .und, .und, .und, .und, .und, .und, .und, .und, .und, .und, .und, .und, .und, .und, .und, .und, .und, .und, .und, .und, .und, .und, .und, .und, .und, .und, .und, .und, .und, .und, .und, .und, .und, .und, .und, .und, .und, .und, .und, .und, .und, .und, .und, .und, .und, .und], [(.row 3 1 n (fun i => (iV (codeN (f i))))), (.row 3 1 m (fun i => (iV (codeN (g i)))))]⟩))) none) none) none) none)) none) none) none) none) (some ((.ex 0), ⟨[.und, .und, .und, .und, (iV 0), (iV 0), (.ref 0), .und, (.ref 1), .und, .und, .und, .und, .und, .und, .und, .und, .und, .und, .und, .und, .und, .und, .und, .und, .und, .und, .und, .und, .und, .und, .und, .und, .und, .und, .und, .und, .und, .und, .und, .und, .und, .und, .und, .und, .und, .und, .und, .und, .und, .und, .und, .und, .und, .und, .und, .und, .und, .und, .und, .und, .und, .und, .und, .und, .und, .und, .und, .und], [(.row 3 1 n (fun i => (iV (codeN (f i))))), (.row 3 1 m (fun i => (iV (codeN (g i)))))]⟩))) (some ((.ex 0), ⟨[.und, .und, .und, .und, (iV 0), (iV 0), (.ref 0), .und, (.ref 1), .und, .und, .und, .und, .und, .und, .und, .und, .und, .und, .und, .und, .und, .und, .und, .und, .und, .und, .und, .und, .und, .und, .und, .und, .und, .und, .und, .und, .und, .und, .und, .und, .und, .und, .und, .und, .und, .und, .und, .und, .und, .und, .und, .und, .und, .und, .und, .und, .und, .und, .und, .und, .und, .und, .und, .und, .und, .und, .und, .und], [(.row 3 1 n (fun i => (iV (codeN (f i))))), (.row 3 1 m (fun i => (iV (codeN (g i)))))]⟩))) (sel (ilt (Int.ofNat i) (Int.ofNat n)) none (some ((.ex 0), ⟨[.und, .und, .und, .und, (iV 0), (iV 0), (.ref 0), .und, (.ref 1), .und, .und, .und, .und, .und, .und, .und, .und, .und, .und, .und, .und, .und, .und, .und, .und, .und, .und, .und, .und, .und, .und, .und, .und, .und, .und, .und, .und, .und, .und, .und, .und, .und, .und, .und, .und, .und, .und, .und, .und, .und, .und, .und, .und, .und, .und, .und, .und, .und, .und, .und, .und, .und, .und, .und, .und, .und, .und, .und, .und], [(.row 3 1 n (fun i => (iV (codeN (f i))))), (.row 3 1 m (fun i => (iV (codeN (g i)))))]⟩)))) (sel (ilt (Int.ofNat i) (Int.ofNat n)) none (sel (ilt (Int.ofNat i) (Int.ofNat n)) none (some ((.ex 0), ⟨[.und, .und, .und, .und, (iV 0), (iV 0), (.ref 0), .und, (.ref 1), .und, .und, .und, .und, .und, .und, .und, .und, .und, .und, .und, .und, .und, .und, .und, .und, .und, .und, .und, .und, .und, .und, .und, .und, .und, .und, .und, .und, .und, .und, .und, .und, .und, .und, .und, .und, .und, .und, .und, .und, .und, .und, .und, .und, .und, .und, .und, .und, .und, .und, .und, .und, .und, .und, .und, .und, .und, .und, .und, .und], [(.row 3 1 n (fun i => (iV (codeN (f i))))), (.row 3 1 m (fun i => (iV (codeN (g i)))))]⟩))))) (sel (ilt (Int.ofNat i) (Int.ofNat n)) none (sel (ilt (Int.ofNat i) (Int.ofNat n)) none (sel (ilt (Int.ofNat i) (Int.ofNat n)) none (some ((.ex 0), ⟨[.und, .und, .und, .und, (iV 0), (iV 0), (.ref 0), .und, (.ref 1), .und, .und, .und, .und, .und, .und, .und, .und, .und, .und, .und, .und, .und, .und, .und, .und, .und, .und, .und, .und, .und, .und, .und, .und, .und, .und, .und, .und, .und, .und, .und, .und, .und, .und, .und, .und, .und, .und, .und, .und, .und, .und, .und, .und, .und, .und, .und, .und, .und, .und, .und, .und, .und, .und, .und, .und, .und, .und, .und, .und], [(.row 3 1 n (fun i => (iV (codeN (f i))))), (.row 3 1 m (fun i => (iV (codeN (g i)))))]⟩)))))) (sel (ilt (Int.ofNat i) (Int.ofNat n)) (sel (ilt (Int.ofNat i) (Int.ofNat n)) (sel (ilt (Int.ofNat i) (Int.ofNat n)) none (sel (ilt (Int.ofNat i) (Int.ofNat n)) none (some ((.ex 0), ⟨[.und, .und, .und, .und, (iV 0), (iV 0), (.ref 0), .und, (.ref 1), .und, .und, .und, .und, .und, .und, .und, .und, .und, .und, .und, .und, .und, .und, .und, .und, .und, .und, .und, .und, .und, .und, .und, .und, .und, .und, .und, .und, .und, .und, .und, .und, .und, .und, .und, .und, .und, .und, .und, .und, .und, .und, .und, .und, .und, .und, .und, .und, .und, .und, .und, .und, .und, .und, .und, .und, .und, .und, .und, .und], [(.row 3 1 n (fun i => (iV (codeN (f i))))), (.row 3 1 m (fun i => (iV (codeN (g i)))))]⟩)))) (sel (ilt (Int.ofNat i) (Int.ofNat n)) none (sel (ilt (Int.ofNat i) (Int.ofNat n)) none (some ((.ex 0), ⟨[.und, .und, .und, .und, (iV 0), (iV 0), (.ref 0), .und, (.ref 1), .und, .und, .und, .und, .und, .und, .und, .und, .und, .und, .und, .und, .und, .und, .und, .und, .und, .und, .und, .und, .und, .und, .und, .und, .und, .und, .und, .und, .und, .und, .und, .und, .und, .und, .und, .und, .und, .und, .und, .und, .und, .und, .und, .und, .und, .und, .und, .und, .und, .und, .und, .und, .und, .und, .und, .und, .und, .und, .und, .und], [(.row 3 1 n (fun i => (iV (codeN (f i))))), (.row 3 1 m (fun i => (iV (codeN (g i)))))]⟩))))) (sel (ilt (Int.ofNat i) (Int.ofNat n)) none (sel (ilt (Int.ofNat i) (Int.ofNat n)) none (sel (ilt (Int.ofNat i) (Int.ofNat n)) none (some ((.ex 0), ⟨[.und, .und, .und, .und, (iV 0), (iV 0), (.ref 0), .und, (.ref 1), .und, .und, .und, .und, .und, .und, .und, .und, .und, .und, .und, .und, .und, .und, .und, .und, .und, .und, .und, .und, .und, .und, .und, .und, .und, .und, .und, .und, .und, .und, .und, .und, .und, .und, .und, .und, .und, .und, .und, .und, .und, .und, .und, .und, .und, .und, .und, .und, .und, .und, .und, .und, .und, .und, .und, .und, .und, .und, .und, .und], [(.row 3 1 n (fun i => (iV (codeN (f i))))), (.row 3 1 m (fun i => (iV (codeN (g i)))))]⟩))))))) := by kernel_rfl
def jk38 (n : Nat) (f : Nat → E6) (m : Nat) (g : Nat → E6)  : Nat → V
  | 0 => (.sl 6 n (fun i => (eV (f i))))
  | 1 => (.sl 6 m (fun i => (eV (g i))))
  | 7 => (iV 0)
  | 9 => (iV 0)
  | 11 => (.tup [(.ref 0), (iV 0)])
  | 12 => (.sl 6 n (fun i => (eV (f i))))
  | 13 => (.tup [(.ref 0), (iV 0)])
  | 14 => (.ref 0)
  | 15 => (iV 0)
  | 16 => (.tup [(.ref 1), (iV 0)])
  | 17 => (.sl 6 m (fun i => (eV (g i))))
  | 18 => (.tup [(.ref 1), (iV 0)])
  | 19 => (.ref 1)
  | 20 => (iV 0)
  | 21 => (iV 0)
  | 22 => (bV (bnot (ieq 0 0)))
  | 23 => (bV (bnot (ieq 0 0)))
  | 24 => (iV 0)
  | 25 => (bV (bnot (ieq 0 0)))
  | 26 => (bV (bnot (ieq 0 0)))
  | _ => undefV

theorem way38n_p (L : Nat → (St → T (Ex × St)) → St → T (Ex × St)) (n : Nat) (f : Nat → E6) (m : Nat) (g : Nat → E6) : (finF (evalF tab ⟨callT tb11, L, Gl⟩ Tryd.f38 [edgesV n f, edgesV m g] [])).path [true, true, false, true, true, true, true, true, true, true] = some ([(allN n (fun _ => Bool.true)), (fitN n), (mayN n f), (allN m (fun _ => Bool.true)), (fitN m), (mayN m g), (bnot (ieq 30 0)), (bnot (ieq 30 0)), (bnot (ieq 30 0)), Bool.true], ((.tup [(iV 0), (iV 30)]), [])) := by kernel_rfl
theorem way38n (L : Nat → (St → T (Ex × St)) → St → T (Ex × St)) (n : Nat) (f : Nat → E6) (m : Nat) (g : Nat → E6) (h0 : fitN n = true) (h2 : mayN n f = false) (h1 : fitN m = true) (h3 : mayN m g = true) : (finF (evalF tab ⟨callT tb11, L, Gl⟩ Tryd.f38 [edgesV n f, edgesV m g] [])).sem = some ((.tup [(iV 0), (iV 30)]), []) :=
  sem_of_path (way38n_p L n f m g) (by simp only [h0, h2, h1, h3, allN_true] <;> rfl)

theorem way38m_p (L : Nat → (St → T (Ex × St)) → St → T (Ex × St)) (n : Nat) (f : Nat → E6) (m : Nat) (g : Nat → E6) : (finF (evalF tab ⟨callT tb11, L, Gl⟩ Tryd.f38 [edgesV n f, edgesV m g] [])).path [true, true, false, true, true, false, true, true, true, true] = some ([(allN n (fun _ => Bool.true)), (fitN n), (mayN n f), (allN m (fun _ => Bool.true)), (fitN m), (mayN m g), (bnot (ieq 30 0)), (bnot (ieq 30 0)), (bnot (ieq 30 0)), Bool.true], ((.tup [(iV 0), (iV 30)]), [])) := by kernel_rfl
theorem way38m (L : Nat → (St → T (Ex × St)) → St → T (Ex × St)) (n : Nat) (f : Nat → E6) (m : Nat) (g : Nat → E6) (h0 : fitN n = true) (h2 : mayN n f = false) (h1 : fitN m = true) (h3 : mayN m g = false) : (finF (evalF tab ⟨callT tb11, L, Gl⟩ Tryd.f38 [edgesV n f, edgesV m g] [])).sem = some ((.tup [(iV 0), (iV 30)]), []) :=
  sem_of_path (way38m_p L n f m g) (by simp only [h0, h2, h1, h3, allN_true] <;> rfl)

theorem way38k_p (L : Nat → (St → T (Ex × St)) → St → T (Ex × St)) (n : Nat) (f : Nat → E6) (m : Nat) (g : Nat → E6) : (finF (evalF tab ⟨callT tb11, L, Gl⟩ Tryd.f38 [edgesV n f, edgesV m g] [])).path [true, true, true, true, true, false, false, false, false, true] = some ([(allN n (fun _ => Bool.true)), (fitN n), (mayN n f), (allN m (fun _ => Bool.true)), (fitN m), (mayN m g), (bnot (ieq 0 0)), (bnot (ieq 0 0)), (bnot (ieq 0 0)), (bnot (ieq 30 0))], ((.tup [(iV 0), (iV 30)]), [])) := by kernel_rfl
theorem way38k (L : Nat → (St → T (Ex × St)) → St → T (Ex × St)) (n : Nat) (f : Nat → E6) (m : Nat) (g : Nat → E6) (h0 : fitN n = true) (h2 : mayN n f = true) (h1 : fitN m = true) (h3 : mayN m g = false) : (finF (evalF tab ⟨callT tb11, L, Gl⟩ Tryd.f38 [edgesV n f, edgesV m g] [])).sem = some ((.tup [(iV 0), (iV 30)]), []) :=
  sem_of_path (way38k_p L n f m g) (by simp only [h0, h2, h1, h3, allN_true] <;> rfl)

theorem way38b_p (L : Nat → (St → T (Ex × St)) → St → T (Ex × St)) (p0 : (St → T (Ex × St)) → St → Bool) (n : Nat) (f : Nat → E6) (m : Nat) (g : Nat → E6) (i : Nat) : (finF (evalF tab ⟨callT tb11, (onP 0 p0 (en38b n f m g i) L), Gl⟩ Tryd.f38 [edgesV n f, edgesV m g] [])).path [true, true, true, true, true, true, false, false, false, false, true] = some ([(allN n (fun _ => Bool.true)), (fitN n), (mayN n f), (allN m (fun _ => Bool.true)), (fitN m), (mayN m g), (bnot (ieq 0 0)), (bnot (ieq 0 0)), (bnot (ieq 0 0)), (bnot (ieq 0 0)), (p0 (body38 (onP 0 p0 (en38b n f m g i) L)) (st38 n f m g 0 (jk38 n f m g )))], ((.tup [(iV (-1)), (iV 0)]), [])) := by kernel_rfl
theorem way38b (L : Nat → (St → T (Ex × St)) → St → T (Ex × St)) (p0 : (St → T (Ex × St)) → St → Bool) (n : Nat) (f : Nat → E6) (m : Nat) (g : Nat → E6) (i : Nat) (h0 : fitN n = true) (h2 : mayN n f = true) (h1 : fitN m = true) (h3 : mayN m g = true) (hp0 : p0 (body38 (onP 0 p0 (en38b n f m g i) L)) (st38 n f m g 0 (jk38 n f m g )) = true) : (finF (evalF tab ⟨callT tb11, (onP 0 p0 (en38b n f m g i) L), Gl⟩ Tryd.f38 [edgesV n f, edgesV m g] [])).sem = some ((.tup [(iV (-1)), (iV 0)]), []) :=
  sem_of_path (way38b_p L p0 n f m g i) (by simp only [h0, h2, h1, h3, hp0, allN_true] <;> rfl)

theorem way38c_p (L : Nat → (St → T (Ex × St)) → St → T (Ex × St)) (p0 : (St → T (Ex × St)) → St → Bool) (n : Nat) (f : Nat → E6) (m : Nat) (g : Nat → E6) (i : Nat) : (finF (evalF tab ⟨callT tb11, (onP 0 p0 (en38c n f m g i) L), Gl⟩ Tryd.f38 [edgesV n f, edgesV m g] [])).path [true, true, true, true, true, true, false, false, false, false, true] = some ([(allN n (fun _ => Bool.true)), (fitN n), (mayN n f), (allN m (fun _ => Bool.true)), (fitN m), (mayN m g), (bnot (ieq 0 0)), (bnot (ieq 0 0)), (bnot (ieq 0 0)), (bnot (ieq 0 0)), (p0 (body38 (onP 0 p0 (en38c n f m g i) L)) (st38 n f m g 0 (jk38 n f m g )))], ((.tup [(iV 1), (iV 0)]), [])) := by kernel_rfl
theorem way38c (L : Nat → (St → T (Ex × St)) → St → T (Ex × St)) (p0 : (St → T (Ex × St)) → St → Bool) (n : Nat) (f : Nat → E6) (m : Nat) (g : Nat → E6) (i : Nat) (h0 : fitN n = true) (h2 : mayN n f = true) (h1 : fitN m = true) (h3 : mayN m g = true) (hp0 : p0 (body38 (onP 0 p0 (en38c n f m g i) L)) (st38 n f m g 0 (jk38 n f m g )) = true) : (finF (evalF tab ⟨callT tb11, (onP 0 p0 (en38c n f m g i) L), Gl⟩ Tryd.f38 [edgesV n f, edgesV m g] [])).sem = some ((.tup [(iV 1), (iV 0)]), []) :=
  sem_of_path (way38c_p L p0 n f m g i) (by simp only [h0, h2, h1, h3, hp0, allN_true] <;> rfl)

theorem way38x_p (L : Nat → (St → T (Ex × St)) → St → T (Ex × St)) (p0 : (St → T (Ex × St)) → St → Bool) (n : Nat) (f : Nat → E6) (m : Nat) (g : Nat → E6) (i : Nat) : (finF (evalF tab ⟨callT tb11, (onP 0 p0 (en38a n f m g i) L), Gl⟩ Tryd.f38 [edgesV n f, edgesV m g] [])).path [true, true, true, true, true, true, false, false, false, false, true, true] = some ([(allN n (fun _ => Bool.true)), (fitN n), (mayN n f), (allN m (fun _ => Bool.true)), (fitN m), (mayN m g), (bnot (ieq 0 0)), (bnot (ieq 0 0)), (bnot (ieq 0 0)), (bnot (ieq 0 0)), (p0 (body38 (onP 0 p0 (en38a n f m g i) L)) (st38 n f m g 0 (jk38 n f m g ))), (ilt (Int.ofNat n) (Int.ofNat m))], ((.tup [(iV (-1)), (iV 0)]), [])) := by kernel_rfl
theorem way38x (L : Nat → (St → T (Ex × St)) → St → T (Ex × St)) (p0 : (St → T (Ex × St)) → St → Bool) (n : Nat) (f : Nat → E6) (m : Nat) (g : Nat → E6) (i : Nat) (h0 : fitN n = true) (h2 : mayN n f = true) (h1 : fitN m = true) (h3 : mayN m g = true) (h4 : ilt (Int.ofNat n) (Int.ofNat m) = true) (hp0 : p0 (body38 (onP 0 p0 (en38a n f m g i) L)) (st38 n f m g 0 (jk38 n f m g )) = true) : (finF (evalF tab ⟨callT tb11, (onP 0 p0 (en38a n f m g i) L), Gl⟩ Tryd.f38 [edgesV n f, edgesV m g] [])).sem = some ((.tup [(iV (-1)), (iV 0)]), []) :=
  sem_of_path (way38x_p L p0 n f m g i) (by simp only [h0, h2, h1, h3, h4, hp0, allN_true] <;> rfl)

theorem way38y_p (L : Nat → (St → T (Ex × St)) → St → T (Ex × St)) (p0 : (St → T (Ex × St)) → St → Bool) (n : Nat) (f : Nat → E6) (m : Nat) (g : Nat → E6) (i : Nat) : (finF (evalF tab ⟨callT tb11, (onP 0 p0 (en38a n f m g i) L), Gl⟩ Tryd.f38 [edgesV n f, edgesV m g] [])).path [true, true, true, true, true, true, false, false, false, false, true, false, true] = some ([(allN n (fun _ => Bool.true)), (fitN n), (mayN n f), (allN m (fun _ => Bool.true)), (fitN m), (mayN m g), (bnot (ieq 0 0)), (bnot (ieq 0 0)), (bnot (ieq 0 0)), (bnot (ieq 0 0)), (p0 (body38 (onP 0 p0 (en38a n f m g i) L)) (st38 n f m g 0 (jk38 n f m g ))), (ilt (Int.ofNat n) (Int.ofNat m)), (ilt (Int.ofNat m) (Int.ofNat n))], ((.tup [(iV 1), (iV 0)]), [])) := by kernel_rfl
theorem way38y (L : Nat → (St → T (Ex × St)) → St → T (Ex × St)) (p0 : (St → T (Ex × St)) → St → Bool) (n : Nat) (f : Nat → E6) (m : Nat) (g : Nat → E6) (i : Nat) (h0 : fitN n = true) (h2 : mayN n f = true) (h1 : fitN m = true) (h3 : mayN m g = true) (h4 : ilt (Int.ofNat n) (Int.ofNat m) = false) (h5 : ilt (Int.ofNat m) (Int.ofNat n) = true) (hp0 : p0 (body38 (onP 0 p0 (en38a n f m g i) L)) (st38 n f m g 0 (jk38 n f m g )) = true) : (finF (evalF tab ⟨callT tb11, (onP 0 p0 (en38a n f m g i) L), Gl⟩ Tryd.f38 [edgesV n f, edgesV m g] [])).sem = some ((.tup [(iV 1), (iV 0)]), []) :=
  sem_of_path (way38y_p L p0 n f m g i) (by simp only [h0, h2, h1, h3, h4, h5, hp0, allN_true] <;> rfl)

theorem way38z_p (L : Nat → (St → T (Ex × St)) → St → T (Ex × St)) (p0 : (St → T (Ex × St)) → St → Bool) (n : Nat) (f : Nat → E6) (m : Nat) (g : Nat → E6) (i : Nat) : (finF (evalF tab ⟨callT tb11, (onP 0 p0 (en38a n f m g i) L), Gl⟩ Tryd.f38 [edgesV n f, edgesV m g] [])).path [true, true, true, true, true, true, false, false, false, false, true, false, false] = some ([(allN n (fun _ => Bool.true)), (fitN n), (mayN n f), (allN m (fun _ => Bool.true)), (fitN m), (mayN m g), (bnot (ieq 0 0)), (bnot (ieq 0 0)), (bnot (ieq 0 0)), (bnot (ieq 0 0)), (p0 (body38 (onP 0 p0 (en38a n f m g i) L)) (st38 n f m g 0 (jk38 n f m g ))), (ilt (Int.ofNat n) (Int.ofNat m)), (ilt (Int.ofNat m) (Int.ofNat n))], ((.tup [(iV 0), (iV 0)]), [])) := by kernel_rfl
theorem way38z (L : Nat → (St → T (Ex × St)) → St → T (Ex × St)) (p0 : (St → T (Ex × St)) → St → Bool) (n : Nat) (f : Nat → E6) (m : Nat) (g : Nat → E6) (i : Nat) (h0 : fitN n = true) (h2 : mayN n f = true) (h1 : fitN m = true) (h3 : mayN m g = true) (h4 : ilt (Int.ofNat n) (Int.ofNat m) = false) (h5 : ilt (Int.ofNat m) (Int.ofNat n) = false) (hp0 : p0 (body38 (onP 0 p0 (en38a n f m g i) L)) (st38 n f m g 0 (jk38 n f m g )) = true) : (finF (evalF tab ⟨callT tb11, (onP 0 p0 (en38a n f m g i) L), Gl⟩ Tryd.f38 [edgesV n f, edgesV m g] [])).sem = some ((.tup [(iV 0), (iV 0)]), []) :=
  sem_of_path (way38z_p L p0 n f m g i) (by simp only [h0, h2, h1, h3, h4, h5, hp0, allN_true] <;> rfl)

section
variable (L : Nat → (St → T (Ex × St)) → St → T (Ex × St)) (n : Nat) (f : Nat → E6) (m : Nat) (g : Nat → E6)

theorem run38a (hn : n ≤ 4611686018427387904) (h : ∀ t, t < min n m → codeN (f t) = codeN (g t)) : ∀ (d i : Nat) (j : Nat → V) (q : Nat), min n m = i + d → d < q →
    (iterT (body38 L) (lp38 n f m g) q (st38 n f m g i j)).sem = some (en38a n f m g 0)
  | 0, i, j, q + 1, h1, _ => by
    rw [iter_round (round38 L n f m g i j)]
    by_cases hi : i < n
    · rw [ofNat_in hi, ofNat_lt hi, ofNat_ge (show m ≤ i by omega)]
      rfl
    · rw [ofNat_ge (show n ≤ i by omega)]
      rfl
  | d + 1, i, j, q + 1, h1, h2 => by
    have hi : i < n := by omega
    have hi' : i < m := by omega
    rw [iter_round (round38 L n f m g i j), ofNat_in hi, ofNat_in hi', ofNat_lt hi, ofNat_lt hi', nlt_true hi, nlt_true hi', succ_wr hi hn, h i (by omega), lt_false (Int.le_refl _)]
    exact run38a hn h d (i + 1) (fun _ => .und) q (by omega) (by omega)

theorem run38b (hn : n ≤ 4611686018427387904) (e : Nat) (he : e < n) (he' : e < m) (h : ∀ t, t < e → codeN (f t) = codeN (g t)) (hl : codeN (f e) < codeN (g e)) : ∀ (d i : Nat) (j : Nat → V) (q : Nat), e = i + d → d < q →
    (iterT (body38 L) (lp38 n f m g) q (st38 n f m g i j)).sem = some (en38b n f m g 0)
  | 0, i, j, q + 1, h1, _ => by
    have hi : i = e := by omega
    subst hi
    rw [iter_round (round38 L n f m g i j), ofNat_in he, ofNat_in he', ofNat_lt he, ofNat_lt he', nlt_true he, nlt_true he', lt_true hl]
    rfl
  | d + 1, i, j, q + 1, h1, h2 => by
    have hi : i < n := by omega
    have hi' : i < m := by omega
    rw [iter_round (round38 L n f m g i j), ofNat_in hi, ofNat_in hi', ofNat_lt hi, ofNat_lt hi', nlt_true hi, nlt_true hi', succ_wr hi hn, h i (by omega), lt_false (Int.le_refl _)]
    exact run38b hn e he he' h hl d (i + 1) (fun _ => .und) q (by omega) (by omega)

theorem run38c (hn : n ≤ 4611686018427387904) (e : Nat) (he : e < n) (he' : e < m) (h : ∀ t, t < e → codeN (f t) = codeN (g t)) (hl : codeN (g e) < codeN (f e)) : ∀ (d i : Nat) (j : Nat → V) (q : Nat), e = i + d → d < q →
    (iterT (body38 L) (lp38 n f m g) q (st38 n f m g i j)).sem = some (en38c n f m g 0)
  | 0, i, j, q + 1, h1, _ => by
    have hi : i = e := by omega
    subst hi
    rw [iter_round (round38 L n f m g i j), ofNat_in he, ofNat_in he', ofNat_lt he, ofNat_lt he', nlt_true he, nlt_true he', lt_true hl, lt_false (Int.le_of_lt hl)]
    rfl
  | d + 1, i, j, q + 1, h1, h2 => by
    have hi : i < n := by omega
    have hi' : i < m := by omega
    rw [iter_round (round38 L n f m g i j), ofNat_in hi, ofNat_in hi', ofNat_lt hi, ofNat_lt hi', nlt_true hi, nlt_true hi', succ_wr hi hn, h i (by omega), lt_false (Int.le_refl _)]
    exact run38c hn e he he' h hl d (i + 1) (fun _ => .und) q (by omega) (by omega)

end

/-- How two lists stand, and whether they may be. -/
def cmpT : List V → T (V × List Blk) := apL2 fun n f m g => .br (fitN n) (.br (fitN m) (out (.tup [iV (cmpN n f m g), iV (cmpF n f m g)])) .fail) .fail

noncomputable def L38 (n : Nat) (f : Nat → E6) (m : Nat) (g : Nat → E6) := loopsBy [(0, lp38 n f m g)]

theorem cmp38 (n : Nat) (f : Nat → E6) (m : Nat) (g : Nat → E6) (hn : fitN n = true) (hm : fitN m = true) : (finF (evalF tab (cxOf Gl tb11 [(0, lp38 n f m g)]) Tryd.f38 [edgesV n f, edgesV m g] [])).sem = some (.tup [iV (cmpN n f m g), iV (cmpF n f m g)], []) := by
  have hL := loopsBy_le [(0, lp38 n f m g)]
  have hs := fit_small hn
  unfold cmpN cmpF
  cases h1 : mayN n f with
  | false =>
    cases h2 : mayN m g with
    | false => exact way38m _ n f m g hn h1 hm h2
    | true => exact way38n _ n f m g hn h1 hm h2
  | true =>
    cases h2 : mayN m g with
    | false => exact way38k _ n f m g hn h1 hm h2
    | true =>
      show _ = some (V.tup [iV (cmpL (codesL n f) (codesL m g)), iV 0], [])
      rcases diff_at n m f g with hd | ⟨e, he, he', hd, hne⟩
      · rw [cmp_end n m f g hd]
        unfold signI
        have hq := fun L => run38a L n f m g hs hd (min n m) 0 (jk38 n f m g) (n + 1) (by omega) (by omega)
        cases h3 : ilt (Int.ofNat n) (Int.ofNat m) with
        | true => exact told_le (onP_le hL hL) _ (way38x _ _ n f m g 0 hn h1 hm h2 h3 (isP_true (hq _)))
        | false =>
          cases h4 : ilt (Int.ofNat m) (Int.ofNat n) with
          | true => exact told_le (onP_le hL hL) _ (way38y _ _ n f m g 0 hn h1 hm h2 h3 h4 (isP_true (hq _)))
          | false => exact told_le (onP_le hL hL) _ (way38z _ _ n f m g 0 hn h1 hm h2 h3 h4 (isP_true (hq _)))
      · rw [cmp_at n m f g e he he' hd hne]
        unfold signI
        rcases Int.lt_or_gt_of_ne hne with hl | hl
        · rw [lt_true hl]
          exact told_le (onP_le hL hL) _ (way38b _ _ n f m g 0 hn h1 hm h2 (isP_true (run38b _ n f m g hs e he he' hd hl e 0 (jk38 n f m g) (n + 1) (by omega) (by omega))))
        · rw [lt_true hl, lt_false (Int.le_of_lt hl)]
          exact told_le (onP_le hL hL) _ (way38c _ _ n f m g 0 hn h1 hm h2 (isP_true (run38c _ n f m g hs e he he' hd hl e 0 (jk38 n f m g) (n + 1) (by omega) (by omega))))

theorem cmpT_some {vs : List V} {r : V × List Blk} (h : (cmpT vs).sem = some r) : ∃ n f m g, ArgLE vs [edgesV n f, edgesV m g] ∧ fitN n = true ∧ fitN m = true ∧ r = (.tup [iV (cmpN n f m g), iV (cmpF n f m g)], []) := by
  obtain ⟨n, f, m, g, ha, h⟩ := apL2_some h
  obtain ⟨hn, h⟩ := sem_br_fail h
  obtain ⟨hm, h⟩ := sem_br_fail h
  exact ⟨n, f, m, g, ha, hn, hm, sem_leaf h⟩

theorem p38 : PureC Tryd.prog Gl 38 cmpT := by
  refine pureC_intro tabOK mixed Tryd.func38 (by kernel_rfl) (by kernel_rfl) fun vs v h' h => ?_
  obtain ⟨n, f, m, g, ha, hn, hm, hr⟩ := cmpT_some h
  simp only [Prod.mk.injEq] at hr
  obtain ⟨rfl, rfl⟩ := hr
  have hx := cx_ok tb11_ok [(0, lp38 n f m g)]
  exact ⟨_, cxOf Gl tb11 [(0, lp38 n f m g)], _, ha, rfl, hx.1, hx.2, cmp38 n f m g hn hm, RowsLE.refl _⟩

/-! ### The document's -/

def lp39 (n : Nat) (f : Nat → E6) (m : Nat) (g : Nat → E6) : Lp := ⟨[true, true, false, false, true, true, true, false, false, false, false, false, false, false, false, false, false, false, false, false, false, false, false, false, false, false, false, false, false, false, false, false, false, false, false, false, false, false, false, false, false, false, false, false, false, false, false, false, false, false, false, false, false, false, false, false, false, false, false, false, false, false, false, false, false, false, false, false, false, false, false, false, false, false, false, false], 0, [true, true, false, false, true, true, false, false, false, false, false, false, false, false, false, false, false, false, false, false, false, false, false, false, false, false, false, false, false, false, false, false, false, false, false, false, false, false, false, false, false, false, false, false, false, false, false, false, false, false, false, false, false, false, false, false, false, false, false, false, false, false, false, false, false, false, false, false, false, false, false, false, false, false, false, false], 0, n + 1⟩
def st39 (n : Nat) (f : Nat → E6) (m : Nat) (g : Nat → E6) (i : Nat) (j : Nat → V) : St := ⟨[.sl 6 n fun i => eV (f i), .sl 6 m fun i => eV (g i), j 2, j 3, iV 0, iV 0, iV (Int.ofNat i), j 7, j 8, j 9, j 10, j 11, j 12, j 13, j 14, j 15, j 16, j 17, j 18, j 19, j 20, j 21, j 22, j 23, j 24, j 25, j 26, j 27, j 28, j 29, j 30, j 31, j 32, j 33, j 34, j 35, j 36, j 37, j 38, j 39, j 40, j 41, j 42, j 43, j 44, j 45, j 46, j 47, j 48, j 49, j 50, j 51, j 52, j 53, j 54, j 55, j 56, j 57, j 58, j 59, j 60, j 61, j 62, j 63, j 64, j 65, j 66, j 67, j 68, j 69, j 70, j 71, j 72, j 73, j 74, j 75], []⟩
def en39a (n : Nat) (f : Nat → E6) (m : Nat) (g : Nat → E6) (i : Nat) : Ex × St := (.ex 0, ⟨[.sl 6 n fun i => eV (f i), .sl 6 m fun i => eV (g i), .und, .und, iV 0, iV 0, .und, .und, .und, .und, .und, .und, .und, .und, .und, .und, .und, .und, .und, .und, .und, .und, .und, .und, .und, .und, .und, .und, .und, .und, .und, .und, .und, .und, .und, .und, .und, .und, .und, .und, .und, .und, .und, .und, .und, .und, .und, .und, .und, .und, .und, .und, .und, .und, .und, .und, .und, .und, .und, .und, .und, .und, .und, .und, .und, .und, .und, .und, .und, .und, .und, .und, .und, .und, .und, .und], []⟩)
def en39b (n : Nat) (f : Nat → E6) (m : Nat) (g : Nat → E6) (i : Nat) : Ex × St := (.rt, ⟨[.sl 6 n fun i => eV (f i), .sl 6 m fun i => eV (g i), .und, .und, iV 0, iV 30, .und, .und, .und, .und, .und, .und, .und, .und, .und, .und, .und, .und, .und, .und, .und, .und, .und, .und, .und, .und, .und, .und, .und, .und, .und, .und, .und, .und, .und, .und, .und, .und, .und, .und, .und, .und, .und, .und, .und, .und, .und, .und, .und, .und, .und, .und, .und, .und, .und, .und, .und, .und, .und, .und, .und, .und, .und, .und, .und, .und, .und, .und, .und, .und, .und, .und, .und, .und, .und, .und], []⟩)
noncomputable def body39 (L : Nat → (St → T (Ex × St)) → St → T (Ex × St)) : St → T (Ex × St) := fun st => evalC tab ⟨callT tb11, L, Gl⟩ (loopBody Tryd.f39 0) 0 st
theorem round39 (L : Nat → (St → T (Ex × St)) → St → T (Ex × St)) (n : Nat) (f : Nat → E6) (m : Nat) (g : Nat → E6) (i : Nat) (j : Nat → V) : roundT (body39 L) (lp39 n f m g) (st39 n f m g i j)
 = (sel (ilt (Int.ofNat i) (Int.ofNat n)) (sel (band (ile 0 (Int.ofNat i)) (ilt (Int.ofNat i) (Int.ofNat n))) (sel (bnot (ieq (codeF (f i)) 0)) (some (.rt, ⟨[(.sl 6 n (fun i => (eV (f i)))), (.sl 6 m (fun i => (eV (g i)))), .und, .und, (iV 0), (iV 30), .und, .und, .und, .und, .und, .und, .und, .und, .und, .und, .und, .und, .und, .und, .und, .und, .und, .und, .und, .und, .und, .und, .und, .und, .und, .und, .und, .und, .und, .und, .und, .und, .und, .und, .und, .und, .und, .und, .und, .und, .und, .und, .und, .und, .und, .und, .und, .und, .und, .und, .und, .und, .und, .und, .und, .und, .und, .und, .und, .und, .und, .und, .und, .und, .und, .und, .und, .und, .und, .und], []⟩)) (some (.nm, ⟨[(.sl 6 n (fun i => (eV (f i)))), (.sl 6 m (fun i => (eV (g i)))), .und, .und, (iV 0), (iV 0), (iV (wr IntKind.i64 (iadd (Int.ofNat i) 1))), .und, .und, .und, .und, .und, .und, .und, .und, .und, .und, .und, .und, .und, .und, .und, .und, .und, .und, .und, .und, .und, .und, .und, .und, .und, .und, .und, .und, .und, .und, .und, .und, .und, .und, .und, .und, .und, .und, .und, .und, .und, .und, .und, .und, .und, .und, .und, .und, .und, .und, .und, .und, .und, .und, .und, .und, .und, .und, .und, .und, .und, .und, .und, .und, .und, .und, .und, .und, .und], []⟩))) none) (some ((.ex 0), ⟨[(.sl 6 n (fun i => (eV (f i)))), (.sl 6 m (fun i => (eV (g i)))), .und, .und, (iV 0), (iV 0), .und, .und, .und, .und, .und, .und, .und, .und, .und, .und, .und, .und, .und, .und, .und, .und, .und, .und, .und, .und, .und, .und, .und, .und, .und, .und, .und, .und, .und, .und, .und, .und, .und, .und, .und, .und, .und, .und, .und, .und, .und, .und, .und, .und, .und, .und, .und, .und, .und, .und, .und, .und, .und, .und, .und, .und, .und, .und, .und, .und, .und, .und, .und, .und, .und, .und, .und, .und, .und, .und], []⟩))) := by kernel_rfl
def jk39 (n : Nat) (f : Nat → E6) (m : Nat) (g : Nat → E6)  : Nat → V
  | _ => undefV

def lp39_2 (n : Nat) (f : Nat → E6) (m : Nat) (g : Nat → E6) : Lp := ⟨[true, true, false, false, true, true, false, true, false, false, false, false, false, false, false, false, false, false, false, false, false, false, false, false, false, false, false, false, false, false, false, false, false, false, false, false, false, false, false, false, false, false, false, false, false, false, false, false, false, false, false, false, false, false, false, false, false, false, false, false, false, false, false, false, false, false, false, false, false, false, false, false, false, false, false, false], 0, [true, true, false, false, true, true, false, false, false, false, false, false, false, false, false, false, false, false, false, false, false, false, false, false, false, false, false, false, false, false, false, false, false, false, false, false, false, false, false, false, false, false, false, false, false, false, false, false, false, false, false, false, false, false, false, false, false, false, false, false, false, false, false, false, false, false, false, false, false, false, false, false, false, false, false, false], 0, m + 1⟩
def st39_2 (n : Nat) (f : Nat → E6) (m : Nat) (g : Nat → E6) (i : Nat) (j : Nat → V) : St := ⟨[.sl 6 n fun i => eV (f i), .sl 6 m fun i => eV (g i), j 2, j 3, iV 0, iV 0, j 6, iV (Int.ofNat i), j 8, j 9, j 10, j 11, j 12, j 13, j 14, j 15, j 16, j 17, j 18, j 19, j 20, j 21, j 22, j 23, j 24, j 25, j 26, j 27, j 28, j 29, j 30, j 31, j 32, j 33, j 34, j 35, j 36, j 37, j 38, j 39, j 40, j 41, j 42, j 43, j 44, j 45, j 46, j 47, j 48, j 49, j 50, j 51, j 52, j 53, j 54, j 55, j 56, j 57, j 58, j 59, j 60, j 61, j 62, j 63, j 64, j 65, j 66, j 67, j 68, j 69, j 70, j 71, j 72, j 73, j 74, j 75], []⟩
def en39_2a (n : Nat) (f : Nat → E6) (m : Nat) (g : Nat → E6) (i : Nat) : Ex × St := (.ex 2, ⟨[.sl 6 n fun i => eV (f i), .sl 6 m fun i => eV (g i), .und, .und, iV 0, iV 0, .und, .und, .und, .und, .und, .und, .und, .und, .und, .und, .und, .und, .und, .und, .und, .und, .und, .und, .und, .und, .und, .und, .und, .und, .und, .und, .und, .und, .und, .und, .und, .und, .und, .und, .und, .und, .und, .und, .und, .und, .und, .und, .und, .und, .und, .und, .und, .und, .und, .und, .und, .und, .und, .und, .und, .und, .und, .und, .und, .und, .und, .und, .und, .und, .und, .und, .und, .und, .und, .und], []⟩)
def en39_2b (n : Nat) (f : Nat → E6) (m : Nat) (g : Nat → E6) (i : Nat) : Ex × St := (.rt, ⟨[.sl 6 n fun i => eV (f i), .sl 6 m fun i => eV (g i), .und, .und, iV 0, iV 30, .und, .und, .und, .und, .und, .und, .und, .und, .und, .und, .und, .und, .und, .und, .und, .und, .und, .und, .und, .und, .und, .und, .und, .und, .und, .und, .und, .und, .und, .und, .und, .und, .und, .und, .und, .und, .und, .und, .und, .und, .und, .und, .und, .und, .und, .und, .und, .und, .und, .und, .und, .und, .und, .und, .und, .und, .und, .und, .und, .und, .und, .und, .und, .und, .und, .und, .und, .und, .und, .und], []⟩)
noncomputable def body39_2 (L : Nat → (St → T (Ex × St)) → St → T (Ex × St)) : St → T (Ex × St) := fun st => evalC tab ⟨callT tb11, L, Gl⟩ (loopBody Tryd.f39 2) 2 st
theorem round39_2 (L : Nat → (St → T (Ex × St)) → St → T (Ex × St)) (n : Nat) (f : Nat → E6) (m : Nat) (g : Nat → E6) (i : Nat) (j : Nat → V) : roundT (body39_2 L) (lp39_2 n f m g) (st39_2 n f m g i j)
 = (sel (ilt (Int.ofNat i) (Int.ofNat m)) (sel (band (ile 0 (Int.ofNat i)) (ilt (Int.ofNat i) (Int.ofNat m))) (sel (bnot (ieq (codeF (g i)) 0)) (some (.rt, ⟨[(.sl 6 n (fun i => (eV (f i)))), (.sl 6 m (fun i => (eV (g i)))), .und, .und, (iV 0), (iV 30), .und, .und, .und, .und, .und, .und, .und, .und, .und, .und, .und, .und, .und, .und, .und, .und, .und, .und, .und, .und, .und, .und, .und, .und, .und, .und, .und, .und, .und, .und, .und, .und, .und, .und, .und, .und, .und, .und, .und, .und, .und, .und, .und, .und, .und, .und, .und, .und, .und, .und, .und, .und, .und, .und, .und, .und, .und, .und, .und, .und, .und, .und, .und, .und, .und, .und, .und, .und, .und, .und], []⟩)) (some (.nm, ⟨[(.sl 6 n (fun i => (eV (f i)))), (.sl 6 m (fun i => (eV (g i)))), .und, .und, (iV 0), (iV 0), .und, (iV (wr IntKind.i64 (iadd (Int.ofNat i) 1))), .und, .und, .und, .und, .und, .und, .und, .und, .und, .und, .und, .und, .und, .und, .und, .und, .und, .und, .und, .und, .und, .und, .und, .und, .und, .und, .und, .und, .und, .und, .und, .und, .und, .und, .und, .und, .und, .und, .und, .und, .und, .und, .und, .und, .und, .und, .und, .und, .und, .und, .und, .und, .und, .und, .und, .und, .und, .und, .und, .und, .und, .und, .und, .und, .und, .und, .und, .und], []⟩))) none) (some ((.ex 2), ⟨[(.sl 6 n (fun i => (eV (f i)))), (.sl 6 m (fun i => (eV (g i)))), .und, .und, (iV 0), (iV 0), .und, .und, .und, .und, .und, .und, .und, .und, .und, .und, .und, .und, .und, .und, .und, .und, .und, .und, .und, .und, .und, .und, .und, .und, .und, .und, .und, .und, .und, .und, .und, .und, .und, .und, .und, .und, .und, .und, .und, .und, .und, .und, .und, .und, .und, .und, .und, .und, .und, .und, .und, .und, .und, .und, .und, .und, .und, .und, .und, .und, .und, .und, .und, .und, .und, .und, .und, .und, .und, .und], []⟩))) := by kernel_rfl
def jk39_2 (n : Nat) (f : Nat → E6) (m : Nat) (g : Nat → E6)  : Nat → V
  | 2 => .und
  | 3 => .und
  | 6 => .und
  | 8 => .und
  | 9 => .und
  | 10 => .und
  | 11 => .und
  | 12 => .und
  | 13 => .und
  | 14 => .und
  | 15 => .und
  | 16 => .und
  | 17 => .und
  | 18 => .und
  | 19 => .und
  | 20 => .und
  | 21 => .und
  | 22 => .und
  | 23 => .und
  | 24 => .und
  | 25 => .und
  | 26 => .und
  | 27 => .und
  | 28 => .und
  | 29 => .und
  | 30 => .und
  | 31 => .und
  | 32 => .und
  | 33 => .und
  | 34 => .und
  | 35 => .und
  | 36 => .und
  | 37 => .und
  | 38 => .und
  | 39 => .und
  | 40 => .und
  | 41 => .und
  | 42 => .und
  | 43 => .und
  | 44 => .und
  | 45 => .und
  | 46 => .und
  | 47 => .und
  | 48 => .und
  | 49 => .und
  | 50 => .und
  | 51 => .und
  | 52 => .und
  | 53 => .und
  | 54 => .und
  | 55 => .und
  | 56 => .und
  | 57 => .und
  | 58 => .und
  | 59 => .und
  | 60 => .und
  | 61 => .und
  | 62 => .und
  | 63 => .und
  | 64 => .und
  | 65 => .und
  | 66 => .und
  | 67 => .und
  | 68 => .und
  | 69 => .und
  | 70 => .und
  | 71 => .und
  | 72 => .und
  | 73 => .und
  | 74 => .und
  | 75 => .und
  | _ => undefV

def lp39_4 (n : Nat) (f : Nat → E6) (m : Nat) (g : Nat → E6) : Lp := ⟨[true, true, false, false, true, true, false, false, true, false, false, false, false, false, false, false, false, false, false, false, false, false, false, false, false, false, false, false, false, false, false, false, false, false, false, false, false, false, false, false, false, false, false, false, false, false, false, false, false, false, false, false, false, false, false, false, false, false, false, false, false, false, false, false, false, false, false, false, false, false, false, false, false, false, false, false], 0, [true, true, false, false, true, true, false, false, false, false, false, false, false, false, false, false, false, false, false, false, false, false, false, false, false, false, false, false, false, false, false, false, false, false, false, false, false, false, false, false, false, false, false, false, false, false, false, false, false, false, false, false, false, false, false, false, false, false, false, false, false, false, false, false, false, false, false, false, false, false, false, false, false, false, false, false], 0, n + 1⟩
def st39_4 (n : Nat) (f : Nat → E6) (m : Nat) (g : Nat → E6) (i : Nat) (j : Nat → V) : St := ⟨[.sl 6 n fun i => eV (f i), .sl 6 m fun i => eV (g i), j 2, j 3, iV 0, iV 0, j 6, j 7, iV (Int.ofNat i), j 9, j 10, j 11, j 12, j 13, j 14, j 15, j 16, j 17, j 18, j 19, j 20, j 21, j 22, j 23, j 24, j 25, j 26, j 27, j 28, j 29, j 30, j 31, j 32, j 33, j 34, j 35, j 36, j 37, j 38, j 39, j 40, j 41, j 42, j 43, j 44, j 45, j 46, j 47, j 48, j 49, j 50, j 51, j 52, j 53, j 54, j 55, j 56, j 57, j 58, j 59, j 60, j 61, j 62, j 63, j 64, j 65, j 66, j 67, j 68, j 69, j 70, j 71, j 72, j 73, j 74, j 75], []⟩
def en39_4a (n : Nat) (f : Nat → E6) (m : Nat) (g : Nat → E6) (i : Nat) : Ex × St := (.ex 4, ⟨[.sl 6 n fun i => eV (f i), .sl 6 m fun i => eV (g i), .und, .und, iV 0, iV 0, .und, .und, .und, .und, .und, .und, .und, .und, .und, .und, .und, .und, .und, .und, .und, .und, .und, .und, .und, .und, .und, .und, .und, .und, .und, .und, .und, .und, .und, .und, .und, .und, .und, .und, .und, .und, .und, .und, .und, .und, .und, .und, .und, .und, .und, .und, .und, .und, .und, .und, .und, .und, .und, .und, .und, .und, .und, .und, .und, .und, .und, .und, .und, .und, .und, .und, .und, .und, .und, .und], []⟩)
def en39_4b (n : Nat) (f : Nat → E6) (m : Nat) (g : Nat → E6) (i : Nat) : Ex × St := (.rt, ⟨[.sl 6 n fun i => eV (f i), .sl 6 m fun i => eV (g i), .und, .und, iV (sel (ilt (codeN (f i)) (codeN (g i))) (-1) (sel (ilt (codeN (g i)) (codeN (f i))) 1 0)), iV 0, .und, .und, .und, .und, .und, .und, .und, .und, .und, .und, .und, .und, .und, .und, .und, .und, .und, .und, .und, .und, .und, .und, .und, .und, .und, .und, .und, .und, .und, .und, .und, .und, .und, .und, .und, .und, .und, .und, .und, .und, .und, .und, .und, .und, .und, .und, .und, .und, .und, .und, .und, .und, .und, .und, .und, .und, .und, .und, .und, .und, .und, .und, .und, .und, .und, .und, .und, .und, .und, .und], []⟩)
noncomputable def body39_4 (L : Nat → (St → T (Ex × St)) → St → T (Ex × St)) : St → T (Ex × St) := fun st => evalC tab ⟨callT tb11, L, Gl⟩ (loopBody Tryd.f39 4) 4 st
theorem round39_4 (L : Nat → (St → T (Ex × St)) → St → T (Ex × St)) (n : Nat) (f : Nat → E6) (m : Nat) (g : Nat → E6) (i : Nat) (j : Nat → V) : roundT (body39_4 L) (lp39_4 n f m g) (st39_4 n f m g i j)
 = (sel (ilt (Int.ofNat i) (Int.ofNat n)) (sel (ilt (Int.ofNat i) (Int.ofNat n)) (sel (ilt (Int.ofNat i) (Int.ofNat n)) (sel (ilt (Int.ofNat i) (Int.ofNat n)) (sel (ilt (Int.ofNat i) (Int.ofNat n)) (sel (ilt (Int.ofNat i) (Int.ofNat m)) (sel (band (ile 0 (Int.ofNat i)) (ilt (Int.ofNat i) (Int.ofNat n))) (sel (band (ile 0 (Int.ofNat i)) (ilt (Int.ofNat i) (Int.ofNat m))) (sel (bnot (ieq (codeN (f i)) (codeN (g i)))) (some (.rt, ⟨[(.sl 6 n (fun i => (eV (f i)))), (.sl 6 m (fun i => (eV (g i)))), .und, .und, (iV (sel (ilt (codeN (f i)) (codeN (g i))) (-1) (sel (ilt (codeN (g i)) (codeN (f i))) 1 0))), (iV 0), .und, .und, .und, .und, .und, .und, .und, .und, .und, .und, .und, .und, .und, .und, .und, .und, .und, .und, .und, .und, .und, .und, .und, .und, .und, .und, .und, .und, .und, .und, .und, .und, .und, .und, .und, .und, .und, .und, .und, .und, .und, .und, .und, .und, .und, .und, .und, .und, .und, .und, .und, .und, .und, .und, .und, .und, .und, .und, .und, .und, .und, .und, .und, .und, .und, .und, .und, .und, .und, .und], []⟩)) (some (.nm, ⟨[(.sl 6 n (fun i => (eV (f i)))), (.sl 6 m (fun i => (eV (g i)))), .und, .und, (iV 0), (iV 0), .und, .und, (iV (wr IntKind.i64 (iadd (Int.ofNat i) 1))), .und, .und, .und, .und, .und, .und, .und, .und, .und, .und, .und, .und, .und, .und, .und, .und, .und, .und, .und, .und, .und, .und, .und, .und, .und, .und, .und, .und, .und, .und, .und, .und, .und, .und, .und, .und, .und, .und, .und, .und, .und, .und, .und, .und, .und, .und, .und, .und, .und, .und, .und, .und, .und, .und, .und, .und, .und, .und, .und, .und, .und, .und, .und, .und, .und, .und, .und], []⟩))) none) none) (some ((.ex 4), ⟨[(.sl 6 n (fun i => (eV (f i)))), (.sl 6 m (fun i => (eV (g i)))), .und, .und, (iV 0), (iV 0), .und, .und, .und, .und, .und, .und, .und, .und, .und, .und, .und, .und, .und, .und, .und, .und, .und, .und, .und, .und, .und, .und, .und, .und, .und, .und, .und, .und, .und, .und, .und, .und, .und, .und, .und, .und, .und, .und, .und, .und, .und, .und, .und, .und, .und, .und, .und, .und, .und, .und, .und, .und, .und, .und, .und, .und, .und, .und, .und, .und, .und, .und, .und, .und, .und, .und, .und, .und, .und, .und], []⟩))) (some ((.ex 4), ⟨[(.sl 6 n (fun i => (eV (f i)))), (.sl 6 m (fun i => (eV (g i)))), .und, .und, (iV 0), (iV 0), .und, .und, .und, .und, .und, .und, .und, .und, .und, .und, .und, .und, .und, .und, .und, .und, .und, .und, .und, .und, .und, .und, .und, .und, .und, .und, .und, .und, .und, .und, .und, .und, .und, .und, .und, .und, .und, .und, .und, .und, .und, .und, .und, .und, .und, .und, .und, .und, .und, .und, .und, .und, .und, .und, .und, .und, .und, .und, .und, .und, .und, .und, .und, .und, .und, .und, .und, .und, .und, .und], []⟩))) (sel (ilt (Int.ofNat i) (Int.ofNat n)) none (some ((.ex 4), ⟨[(.sl 6 n (fun i => (eV (f i)))), (.sl 6 m (fun i => (eV (g i)))), .und, .und, (iV 0), (iV 0), .und, .und, .und, .und, .und, .und, .und, .und, .und, .und, .und, .und, .und, .und, .und, .und, .und, .und, .und, .und, .und, .und, .und, .und, .und, .und, .und, .und, .und, .und, .und, .und, .und, .und, .und, .und, .und, .und, .und, .und, .und, .und, .und, .und, .und, .und, .und, .und, .und, .und, .und, .und, .und, .und, .und, .und, .und, .und, .und, .und, .und, .und, .und, .und, .und, .und, .und, .und, .und, .und], []⟩)))) (sel (ilt (Int.ofNat i) (Int.ofNat n)) none (sel (ilt (Int.ofNat i) (Int.ofNat n)) none (some ((.ex 4), ⟨[(.sl 6 n (fun i => (eV (f i)))), (.sl 6 m (fun i => (eV (g i)))), .und, .und, (iV 0), (iV 0), .und, .und, .und, .und, .und, .und, .und, .und, .und, .und, .und, .und, .und, .und, .und, .und, .und, .und, .und, .und, .und, .und, .und, .und, .und, .und, .und, .und, .und, .und, .und, .und, .und, .und, .und, .und, .und, .und, .und, .und, .und, .und, .und, .und, .und, .und, .und, .und, .und, .und, .und, .und, .und, .und, .und, .und, .und, .und, .und, .und, .und, .und, .und, .und, .und, .und, .und, .und, .und, .und], []⟩))))) (sel (ilt (Int.ofNat i) (Int.ofNat n)) none (sel (ilt (Int.ofNat i) (Int.ofNat n)) none (sel (ilt (Int.ofNat i) (Int.ofNat n)) none (some ((.ex 4), ⟨[(.sl 6 n (fun i => (eV (f i)))), (.sl 6 m (fun i => (eV (g i)))), .und, .und, (iV 0), (iV 0), .und, .und, .und, .und, .und, .und, .und, .und, .und, .und, .und, .und, .und, .und, .und, .und, .und, .und, .und, .und, .und, .und, .und, .und, .und, .und, .und, .und, .und, .und, .und, .und, .und, .und, .und, .und, .und, .und, .und, .und, .und, .und, .und, .und, .und, .und, .und, .und, .und, .und, .und, .und, .und, .und, .und, .und, .und, .und, .und, .und, .und, .und, .und, .und, .und, .und, .und, .und, .und, .und], []⟩)))))) (sel (ilt (Int.ofNat i) (Int.ofNat n)) (sel (ilt (Int.ofNat i) (Int.ofNat n)) (sel (ilt (Int.ofNat i) (Int.ofNat n)) none (sel (ilt (Int.ofNat i) (Int.ofNat n)) none (some ((.ex 4), ⟨[(.sl 6 n (fun i => (eV (f i)))), (.sl 6 m (fun i => (eV (g i)))), .und, .und, (iV 0), (iV 0), .und, .und, .und, .und, .und, .und, .und, .und, .und, .und, .und, .und, .und, .und, .und, .und, .und, .und, .und, .und, .und, .und, .und, .und, .und, .und, .und, .und, .und, .und, .und, .und, .und, .und, .und, .und, .und, .und, .und, .und, .und, .und, .und, .und, .und, .und, .und, .und, .und, .und, .und, .und, .und, .und, .und, .und, .und, .und, .und, .und, .und, .und, .und, .und, .und, .und, .und, .und, .und, .und], []⟩)))) (sel (ilt (Int.ofNat i) (Int.ofNat n)) none (sel (ilt (Int.ofNat i) (Int.ofNat n)) none (some ((.ex 4), ⟨[(.sl 6 n (fun i => (eV (f i)))), (.sl 6 m (fun i => (eV (g i)))), .und, .und, (iV 0), (iV 0), .und, .und, .und, .und, .und, .und, .und, .und, .und, .und, .und, .und, .und, .und, .und, .und, .und, .und, .und, .und, .und, .und, .und, .und, .und, .und, .und, .und, .und, .und, .und, .und, .und, .und, .und, .und, .und, .und, .und, .und, .und, .und, .und, .und, .und, .und, .und, .und, .und, .und, .und, .und, .und, .und, .und, .und, .und, .und, .und, .und, .und, .und, .und, .und, .und, .und, .und, .und, .und, .und], []⟩))))) (sel (ilt (Int.ofNat i) (Int.ofNat n)) none (sel (ilt (Int.ofNat i) (Int.ofNat n)) none (sel (ilt (Int.ofNat i) (Int.ofNat n)) none (some ((.ex 4), ⟨[(.sl 6 n (fun i => (eV (f i)))), (.sl 6 m (fun i => (eV (g i)))), .und, .und, (iV 0), (iV 0), .und, .und, .und, .und, .und, .und, .und, .und, .und, .und, .und, .und, .und, .und, .und, .und, .und, .und, .und, .und, .und, .und, .und, .und, .und, .und, .und, .und, .und, .und, .und, .und, .und, .und, .und, .und, .und, .und, .und, .und, .und, .und, .und, .und, .und, .und, .und, .und, .und, .und, .und, .und, .und, .und, .und, .und, .und, .und, .und, .und, .und, .und, .und, .und, .und, .und, .und, .und, .und, .und], []⟩))))))) := by kernel_rfl
def jk39_4 (n : Nat) (f : Nat → E6) (m : Nat) (g : Nat → E6)  : Nat → V
  | 2 => .und
  | 3 => .und
  | 6 => .und
  | 7 => .und
  | 9 => .und
  | 10 => .und
  | 11 => .und
  | 12 => .und
  | 13 => .und
  | 14 => .und
  | 15 => .und
  | 16 => .und
  | 17 => .und
  | 18 => .und
  | 19 => .und
  | 20 => .und
  | 21 => .und
  | 22 => .und
  | 23 => .und
  | 24 => .und
  | 25 => .und
  | 26 => .und
  | 27 => .und
  | 28 => .und
  | 29 => .und
  | 30 => .und
  | 31 => .und
  | 32 => .und
  | 33 => .und
  | 34 => .und
  | 35 => .und
  | 36 => .und
  | 37 => .und
  | 38 => .und
  | 39 => .und
  | 40 => .und
  | 41 => .und
  | 42 => .und
  | 43 => .und
  | 44 => .und
  | 45 => .und
  | 46 => .und
  | 47 => .und
  | 48 => .und
  | 49 => .und
  | 50 => .und
  | 51 => .und
  | 52 => .und
  | 53 => .und
  | 54 => .und
  | 55 => .und
  | 56 => .und
  | 57 => .und
  | 58 => .und
  | 59 => .und
  | 60 => .und
  | 61 => .und
  | 62 => .und
  | 63 => .und
  | 64 => .und
  | 65 => .und
  | 66 => .und
  | 67 => .und
  | 68 => .und
  | 69 => .und
  | 70 => .und
  | 71 => .und
  | 72 => .und
  | 73 => .und
  | 74 => .und
  | 75 => .und
  | _ => undefV

theorem way39n_p (L : Nat → (St → T (Ex × St)) → St → T (Ex × St)) (p0 : (St → T (Ex × St)) → St → Bool) (n : Nat) (f : Nat → E6) (m : Nat) (g : Nat → E6) : (finF (evalF tab ⟨callT tb11, (onP 0 p0 (en39b n f m g 0) L), Gl⟩ Tryd.f39 [edgesV n f, edgesV m g] [])).path [true] = some ([(p0 (body39 (onP 0 p0 (en39b n f m g 0) L)) (st39 n f m g 0 (jk39 n f m g )))], ((.tup [(iV 0), (iV 30)]), [])) := by kernel_rfl
theorem way39n (L : Nat → (St → T (Ex × St)) → St → T (Ex × St)) (p0 : (St → T (Ex × St)) → St → Bool) (n : Nat) (f : Nat → E6) (m : Nat) (g : Nat → E6)  (hp0 : p0 (body39 (onP 0 p0 (en39b n f m g 0) L)) (st39 n f m g 0 (jk39 n f m g )) = true) : (finF (evalF tab ⟨callT tb11, (onP 0 p0 (en39b n f m g 0) L), Gl⟩ Tryd.f39 [edgesV n f, edgesV m g] [])).sem = some ((.tup [(iV 0), (iV 30)]), []) :=
  sem_of_path (way39n_p L p0 n f m g) (by simp only [hp0] <;> rfl)

theorem way39m_p (L : Nat → (St → T (Ex × St)) → St → T (Ex × St)) (p0 : (St → T (Ex × St)) → St → Bool) (p2 : (St → T (Ex × St)) → St → Bool) (n : Nat) (f : Nat → E6) (m : Nat) (g : Nat → E6) : (finF (evalF tab ⟨callT tb11, (onP 0 p0 (en39a n f m g 0) (onP 2 p2 (en39_2b n f m g 0) L)), Gl⟩ Tryd.f39 [edgesV n f, edgesV m g] [])).path [true, true] = some ([(p0 (body39 (onP 0 p0 (en39a n f m g 0) (onP 2 p2 (en39_2b n f m g 0) L))) (st39 n f m g 0 (jk39 n f m g ))), (p2 (body39_2 (onP 0 p0 (en39a n f m g 0) (onP 2 p2 (en39_2b n f m g 0) L))) (st39_2 n f m g 0 (jk39_2 n f m g )))], ((.tup [(iV 0), (iV 30)]), [])) := by kernel_rfl
theorem way39m (L : Nat → (St → T (Ex × St)) → St → T (Ex × St)) (p0 : (St → T (Ex × St)) → St → Bool) (p2 : (St → T (Ex × St)) → St → Bool) (n : Nat) (f : Nat → E6) (m : Nat) (g : Nat → E6)  (hp0 : p0 (body39 (onP 0 p0 (en39a n f m g 0) (onP 2 p2 (en39_2b n f m g 0) L))) (st39 n f m g 0 (jk39 n f m g )) = true) (hp2 : p2 (body39_2 (onP 0 p0 (en39a n f m g 0) (onP 2 p2 (en39_2b n f m g 0) L))) (st39_2 n f m g 0 (jk39_2 n f m g )) = true) : (finF (evalF tab ⟨callT tb11, (onP 0 p0 (en39a n f m g 0) (onP 2 p2 (en39_2b n f m g 0) L)), Gl⟩ Tryd.f39 [edgesV n f, edgesV m g] [])).sem = some ((.tup [(iV 0), (iV 30)]), []) :=
  sem_of_path (way39m_p L p0 p2 n f m g) (by simp only [hp0, hp2] <;> rfl)

theorem way39b_p (L : Nat → (St → T (Ex × St)) → St → T (Ex × St)) (p0 : (St → T (Ex × St)) → St → Bool) (p2 : (St → T (Ex × St)) → St → Bool) (p4 : (St → T (Ex × St)) → St → Bool) (n : Nat) (f : Nat → E6) (m : Nat) (g : Nat → E6) (i : Nat) : (finF (evalF tab ⟨callT tb11, (onP 0 p0 (en39a n f m g 0) (onP 2 p2 (en39_2a n f m g 0) (onP 4 p4 (en39_4b n f m g i) L))), Gl⟩ Tryd.f39 [edgesV n f, edgesV m g] [])).path [true, true, true] = some ([(p0 (body39 (onP 0 p0 (en39a n f m g 0) (onP 2 p2 (en39_2a n f m g 0) (onP 4 p4 (en39_4b n f m g i) L)))) (st39 n f m g 0 (jk39 n f m g ))), (p2 (body39_2 (onP 0 p0 (en39a n f m g 0) (onP 2 p2 (en39_2a n f m g 0) (onP 4 p4 (en39_4b n f m g i) L)))) (st39_2 n f m g 0 (jk39_2 n f m g ))), (p4 (body39_4 (onP 0 p0 (en39a n f m g 0) (onP 2 p2 (en39_2a n f m g 0) (onP 4 p4 (en39_4b n f m g i) L)))) (st39_4 n f m g 0 (jk39_4 n f m g )))], ((.tup [(iV (sel (ilt (codeN (f i)) (codeN (g i))) (-1) (sel (ilt (codeN (g i)) (codeN (f i))) 1 0))), (iV 0)]), [])) := by kernel_rfl
theorem way39b (L : Nat → (St → T (Ex × St)) → St → T (Ex × St)) (p0 : (St → T (Ex × St)) → St → Bool) (p2 : (St → T (Ex × St)) → St → Bool) (p4 : (St → T (Ex × St)) → St → Bool) (n : Nat) (f : Nat → E6) (m : Nat) (g : Nat → E6) (i : Nat)  (hp0 : p0 (body39 (onP 0 p0 (en39a n f m g 0) (onP 2 p2 (en39_2a n f m g 0) (onP 4 p4 (en39_4b n f m g i) L)))) (st39 n f m g 0 (jk39 n f m g )) = true) (hp2 : p2 (body39_2 (onP 0 p0 (en39a n f m g 0) (onP 2 p2 (en39_2a n f m g 0) (onP 4 p4 (en39_4b n f m g i) L)))) (st39_2 n f m g 0 (jk39_2 n f m g )) = true) (hp4 : p4 (body39_4 (onP 0 p0 (en39a n f m g 0) (onP 2 p2 (en39_2a n f m g 0) (onP 4 p4 (en39_4b n f m g i) L)))) (st39_4 n f m g 0 (jk39_4 n f m g )) = true) : (finF (evalF tab ⟨callT tb11, (onP 0 p0 (en39a n f m g 0) (onP 2 p2 (en39_2a n f m g 0) (onP 4 p4 (en39_4b n f m g i) L))), Gl⟩ Tryd.f39 [edgesV n f, edgesV m g] [])).sem = some ((.tup [(iV (sel (ilt (codeN (f i)) (codeN (g i))) (-1) (sel (ilt (codeN (g i)) (codeN (f i))) 1 0))), (iV 0)]), []) :=
  sem_of_path (way39b_p L p0 p2 p4 n f m g i) (by simp only [hp0, hp2, hp4] <;> rfl)

theorem way39a_p (L : Nat → (St → T (Ex × St)) → St → T (Ex × St)) (p0 : (St → T (Ex × St)) → St → Bool) (p2 : (St → T (Ex × St)) → St → Bool) (p4 : (St → T (Ex × St)) → St → Bool) (n : Nat) (f : Nat → E6) (m : Nat) (g : Nat → E6) : (finF (evalF tab ⟨callT tb11, (onP 0 p0 (en39a n f m g 0) (onP 2 p2 (en39_2a n f m g 0) (onP 4 p4 (en39_4a n f m g 0) L))), Gl⟩ Tryd.f39 [edgesV n f, edgesV m g] [])).path [true, true, true] = some ([(p0 (body39 (onP 0 p0 (en39a n f m g 0) (onP 2 p2 (en39_2a n f m g 0) (onP 4 p4 (en39_4a n f m g 0) L)))) (st39 n f m g 0 (jk39 n f m g ))), (p2 (body39_2 (onP 0 p0 (en39a n f m g 0) (onP 2 p2 (en39_2a n f m g 0) (onP 4 p4 (en39_4a n f m g 0) L)))) (st39_2 n f m g 0 (jk39_2 n f m g ))), (p4 (body39_4 (onP 0 p0 (en39a n f m g 0) (onP 2 p2 (en39_2a n f m g 0) (onP 4 p4 (en39_4a n f m g 0) L)))) (st39_4 n f m g 0 (jk39_4 n f m g )))], ((.tup [(iV (sel (ilt (Int.ofNat n) (Int.ofNat m)) (-1) (sel (ilt (Int.ofNat m) (Int.ofNat n)) 1 0))), (iV 0)]), [])) := by kernel_rfl
theorem way39a (L : Nat → (St → T (Ex × St)) → St → T (Ex × St)) (p0 : (St → T (Ex × St)) → St → Bool) (p2 : (St → T (Ex × St)) → St → Bool) (p4 : (St → T (Ex × St)) → St → Bool) (n : Nat) (f : Nat → E6) (m : Nat) (g : Nat → E6)  (hp0 : p0 (body39 (onP 0 p0 (en39a n f m g 0) (onP 2 p2 (en39_2a n f m g 0) (onP 4 p4 (en39_4a n f m g 0) L)))) (st39 n f m g 0 (jk39 n f m g )) = true) (hp2 : p2 (body39_2 (onP 0 p0 (en39a n f m g 0) (onP 2 p2 (en39_2a n f m g 0) (onP 4 p4 (en39_4a n f m g 0) L)))) (st39_2 n f m g 0 (jk39_2 n f m g )) = true) (hp4 : p4 (body39_4 (onP 0 p0 (en39a n f m g 0) (onP 2 p2 (en39_2a n f m g 0) (onP 4 p4 (en39_4a n f m g 0) L)))) (st39_4 n f m g 0 (jk39_4 n f m g )) = true) : (finF (evalF tab ⟨callT tb11, (onP 0 p0 (en39a n f m g 0) (onP 2 p2 (en39_2a n f m g 0) (onP 4 p4 (en39_4a n f m g 0) L))), Gl⟩ Tryd.f39 [edgesV n f, edgesV m g] [])).sem = some ((.tup [(iV (sel (ilt (Int.ofNat n) (Int.ofNat m)) (-1) (sel (ilt (Int.ofNat m) (Int.ofNat n)) 1 0))), (iV 0)]), []) :=
  sem_of_path (way39a_p L p0 p2 p4 n f m g) (by simp only [hp0, hp2, hp4] <;> rfl)

section
variable (L : Nat → (St → T (Ex × St)) → St → T (Ex × St)) (n : Nat) (f : Nat → E6) (m : Nat) (g : Nat → E6)

theorem run39a (hn : n ≤ 4611686018427387904) (ho : ∀ t, t < n → codeF (f t) = 0) : ∀ (d i : Nat) (j : Nat → V) (q : Nat), n = i + d → d < q →
    (iterT (body39 L) (lp39 n f m g) q (st39 n f m g i j)).sem = some (en39a n f m g 0)
  | 0, i, j, q + 1, h1, _ => by
    rw [iter_round (round39 L n f m g i j), ofNat_ge (show n ≤ i by omega)]
    rfl
  | d + 1, i, j, q + 1, h1, h2 => by
    have hi : i < n := by omega
    rw [iter_round (round39 L n f m g i j), ofNat_in hi, ofNat_lt hi, succ_wr hi hn, ho i hi]
    exact run39a hn ho d (i + 1) (fun _ => .und) q (by omega) (by omega)

theorem run39b (hn : n ≤ 4611686018427387904) (e : Nat) (he : e < n) (hb : codeF (f e) = 30) (ho : ∀ t, t < e → codeF (f t) = 0) : ∀ (d i : Nat) (j : Nat → V) (q : Nat), e = i + d → d < q →
    (iterT (body39 L) (lp39 n f m g) q (st39 n f m g i j)).sem = some (en39b n f m g 0)
  | 0, i, j, q + 1, h1, _ => by
    have hi : i = e := by omega
    subst hi
    rw [iter_round (round39 L n f m g i j), ofNat_in he, ofNat_lt he, hb]
    rfl
  | d + 1, i, j, q + 1, h1, h2 => by
    have hi : i < n := by omega
    rw [iter_round (round39 L n f m g i j), ofNat_in hi, ofNat_lt hi, succ_wr hi hn, ho i (by omega)]
    exact run39b hn e he hb ho d (i + 1) (fun _ => .und) q (by omega) (by omega)

theorem run39_2a (hn : m ≤ 4611686018427387904) (ho : ∀ t, t < m → codeF (g t) = 0) : ∀ (d i : Nat) (j : Nat → V) (q : Nat), m = i + d → d < q →
    (iterT (body39_2 L) (lp39_2 n f m g) q (st39_2 n f m g i j)).sem = some (en39_2a n f m g 0)
  | 0, i, j, q + 1, h1, _ => by
    rw [iter_round (round39_2 L n f m g i j), ofNat_ge (show m ≤ i by omega)]
    rfl
  | d + 1, i, j, q + 1, h1, h2 => by
    have hi : i < m := by omega
    rw [iter_round (round39_2 L n f m g i j), ofNat_in hi, ofNat_lt hi, succ_wr hi hn, ho i hi]
    exact run39_2a hn ho d (i + 1) (fun _ => .und) q (by omega) (by omega)

theorem run39_2b (hn : m ≤ 4611686018427387904) (e : Nat) (he : e < m) (hb : codeF (g e) = 30) (ho : ∀ t, t < e → codeF (g t) = 0) : ∀ (d i : Nat) (j : Nat → V) (q : Nat), e = i + d → d < q →
    (iterT (body39_2 L) (lp39_2 n f m g) q (st39_2 n f m g i j)).sem = some (en39_2b n f m g 0)
  | 0, i, j, q + 1, h1, _ => by
    have hi : i = e := by omega
    subst hi
    rw [iter_round (round39_2 L n f m g i j), ofNat_in he, ofNat_lt he, hb]
    rfl
  | d + 1, i, j, q + 1, h1, h2 => by
    have hi : i < m := by omega
    rw [iter_round (round39_2 L n f m g i j), ofNat_in hi, ofNat_lt hi, succ_wr hi hn, ho i (by omega)]
    exact run39_2b hn e he hb ho d (i + 1) (fun _ => .und) q (by omega) (by omega)

theorem run39_4a (hn : n ≤ 4611686018427387904) (h : ∀ t, t < min n m → codeN (f t) = codeN (g t)) : ∀ (d i : Nat) (j : Nat → V) (q : Nat), min n m = i + d → d < q →
    (iterT (body39_4 L) (lp39_4 n f m g) q (st39_4 n f m g i j)).sem = some (en39_4a n f m g 0)
  | 0, i, j, q + 1, h1, _ => by
    rw [iter_round (round39_4 L n f m g i j)]
    by_cases hi : i < n
    · rw [ofNat_in hi, ofNat_lt hi, ofNat_ge (show m ≤ i by omega)]
      rfl
    · rw [ofNat_ge (show n ≤ i by omega)]
      rfl
  | d + 1, i, j, q + 1, h1, h2 => by
    have hi : i < n := by omega
    have hi' : i < m := by omega
    rw [iter_round (round39_4 L n f m g i j), ofNat_in hi, ofNat_in hi', ofNat_lt hi, ofNat_lt hi', succ_wr hi hn, h i (by omega), ieq_self]
    exact run39_4a hn h d (i + 1) (fun _ => .und) q (by omega) (by omega)

theorem run39_4b (hn : n ≤ 4611686018427387904) (e : Nat) (he : e < n) (he' : e < m) (h : ∀ t, t < e → codeN (f t) = codeN (g t)) (hne : codeN (f e) ≠ codeN (g e)) : ∀ (d i : Nat) (j : Nat → V) (q : Nat), e = i + d → d < q →
    (iterT (body39_4 L) (lp39_4 n f m g) q (st39_4 n f m g i j)).sem = some (en39_4b n f m g e)
  | 0, i, j, q + 1, h1, _ => by
    have hi : i = e := by omega
    subst hi
    rw [iter_round (round39_4 L n f m g i j), ofNat_in he, ofNat_in he', ofNat_lt he, ofNat_lt he', show ieq (codeN (f i)) (codeN (g i)) = false by simpa [ieq] using hne]
    rfl
  | d + 1, i, j, q + 1, h1, h2 => by
    have hi : i < n := by omega
    have hi' : i < m := by omega
    rw [iter_round (round39_4 L n f m g i j), ofNat_in hi, ofNat_in hi', ofNat_lt hi, ofNat_lt hi', succ_wr hi hn, h i (by omega), ieq_self]
    exact run39_4b hn e he he' h hne d (i + 1) (fun _ => .und) q (by omega) (by omega)

end

def lps39 (n : Nat) (f : Nat → E6) (m : Nat) (g : Nat → E6) : List (Nat × Lp) := [(0, lp39 n f m g), (2, lp39_2 n f m g), (4, lp39_4 n f m g)]

theorem cmp39 (n : Nat) (f : Nat → E6) (m : Nat) (g : Nat → E6) (hn : fitN n = true) (hm : fitN m = true) : (finF (evalF tab (cxOf Gl tb11 (lps39 n f m g)) Tryd.f39 [edgesV n f, edgesV m g] [])).sem = some (.tup [iV (cmpN n f m g), iV (cmpF n f m g)], []) := by
  have hL := loopsBy_le (lps39 n f m g)
  have hs := fit_small hn
  have hs' := fit_small hm
  unfold cmpN cmpF
  cases h1 : mayN n f with
  | false =>
    obtain ⟨e, k1, k2, k3⟩ := may_no h1
    exact told_le (onP_le hL hL) _ (way39n _ _ n f m g (isP_true (run39b _ n f m g hs e k1 k2 k3 e 0 (jk39 n f m g) (n + 1) (by omega) (by omega))))
  | true =>
    have q1 := fun L => run39a L n f m g hs (mayN_iff.1 h1) n 0 (jk39 n f m g) (n + 1) (by omega) (by omega)
    cases h2 : mayN m g with
    | false =>
      obtain ⟨e, k1, k2, k3⟩ := may_no h2
      exact told_le (onP_le (onP_le hL hL) hL) _ (way39m _ _ _ n f m g (isP_true (q1 _)) (isP_true (run39_2b _ n f m g hs' e k1 k2 k3 e 0 (jk39_2 n f m g) (m + 1) (by omega) (by omega))))
    | true =>
      have q2 := fun L => run39_2a L n f m g hs' (mayN_iff.1 h2) m 0 (jk39_2 n f m g) (m + 1) (by omega) (by omega)
      show _ = some (V.tup [iV (cmpL (codesL n f) (codesL m g)), iV 0], [])
      rcases diff_at n m f g with hd | ⟨e, he, he', hd, hne⟩
      · rw [cmp_end n m f g hd]
        exact told_le (onP_le (onP_le (onP_le hL hL) hL) hL) _ (way39a _ _ _ _ n f m g (isP_true (q1 _)) (isP_true (q2 _)) (isP_true (run39_4a _ n f m g hs hd (min n m) 0 (jk39_4 n f m g) (n + 1) (by omega) (by omega))))
      · rw [cmp_at n m f g e he he' hd hne]
        exact told_le (onP_le (onP_le (onP_le hL hL) hL) hL) _ (way39b _ _ _ _ n f m g e (isP_true (q1 _)) (isP_true (q2 _)) (isP_true (run39_4b _ n f m g hs e he he' hd hne e 0 (jk39_4 n f m g) (n + 1) (by omega) (by omega))))

theorem p39 : PureC Tryd.prog Gl 39 cmpT := by
  refine pureC_intro tabOK mixed Tryd.func39 (by kernel_rfl) (by kernel_rfl) fun vs v h' h => ?_
  obtain ⟨n, f, m, g, ha, hn, hm, hr⟩ := cmpT_some h
  simp only [Prod.mk.injEq] at hr
  obtain ⟨rfl, rfl⟩ := hr
  have hx := cx_ok tb11_ok (lps39 n f m g)
  exact ⟨_, cxOf Gl tb11 (lps39 n f m g), _, ha, rfl, hx.1, hx.2, cmp39 n f m g hn hm, RowsLE.refl _⟩

noncomputable def tb12 : List (Nat × (List V → T (V × List Blk))) := (38, cmpT) :: (39, cmpT) :: tb11
theorem tb12_ok : AllPure Tryd.prog Gl tb12 := .cons p38 <| .cons p39 tb11_ok

end Go.Proofs.YtcaljjnadbpacaaDoor.Ed
