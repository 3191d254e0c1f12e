/-
  Layer 5: classes of two edges up to so many. No conditions.
-/
import Derived.Test.YtdmjcpindopjdaaCoVb
namespace Go.Proofs.Ytdmjcpindopjdaa.Co
open Go.Sy

noncomputable def tb21 : List (Nat × (List V → T (V × List Blk))) := [(34, askT), (35, smallT), (36, classesT), (39, uuT fun x y => uV (plusU x y))]
theorem tb21_ok : AllPure Try.prog Gl tb21 := .cons p34 <| .cons p35 <| .cons p36c <| .cons p39 .nil

def lp21c (n : Nat) (f : Nat → E6) (k : Int) : Lp := ⟨[false, true, false, false, true, true, true, false, true, true, false, false, false, false, false, false, false, false, false, false, false, false, false, false, false, false, false, false, false, false, false, false, false, false, false, false, false, false, false, false, false, false, false, false, false, false], 1, [false, false, false, false, true, true, false, false, true, false, false, false, false, false, false, false, false, false, false, false, false, false, false, false, false, false, false, false, false, false, false, false, false, false, false, false, false, false, false, false, false, false, false, false, false, false], 0, toN k + 1⟩
def st21c (n : Nat) (f : Nat → E6) (k : Int) (s i : Int) (j : Nat → V) : St := ⟨[j 0, iV k, j 2, j 3, iV 0, iV 0, .ref 0, j 7, uV s, iV i, j 10, j 11, j 12, j 13, j 14, j 15, j 16, j 17, j 18, j 19, j 20, j 21, j 22, j 23, j 24, j 25, j 26, j 27, j 28, j 29, j 30, j 31, j 32, j 33, j 34, j 35, j 36, j 37, j 38, j 39, j 40, j 41, j 42, j 43, j 44, j 45], [.row 54 1 ((toN k) + 1) (fun i => (uV (wV n f i)))]⟩
def en21ca (n : Nat) (f : Nat → E6) (k : Int) (s i : Int) : Ex × St := (.ex 0, ⟨[.und, .und, .und, .und, iV 0, iV 0, .und, .und, uV s, .und, .und, .und, .und, .und, .und, .und, .und, .und, .und, .und, .und, .und, .und, .und, .und, .und, .und, .und, .und, .und, .und, .und, .und, .und, .und, .und, .und, .und, .und, .und, .und, .und, .und, .und, .und, .und], []⟩)
def en21cr (n : Nat) (f : Nat → E6) (k : Int) (s i : Int) : Ex × St := (.rt, ⟨[.und, .und, .und, .und, iV 0, iV 3, .und, .und, uV s, .und, .und, .und, .und, .und, .und, .und, .und, .und, .und, .und, .und, .und, .und, .und, .und, .und, .und, .und, .und, .und, .und, .und, .und, .und, .und, .und, .und, .und, .und, .und, .und, .und, .und, .und, .und, .und], []⟩)
noncomputable def body21c (L : Nat → (St → T (Ex × St)) → St → T (Ex × St)) : St → T (Ex × St) := fun st => evalC tab ⟨callT tb21, L, Gl⟩ (loopBody Try.f21 0) 0 st
theorem rc21a_p (L : Nat → (St → T (Ex × St)) → St → T (Ex × St)) (n : Nat) (f : Nat → E6) (k : Int) (s i : Int)  (j : Nat → V) : ((body21c L (st21c n f k s i j)).bind fun r => T.leaf (cutR (lp21c n f k) r)).path [false] = some ([(ile i k)], ((.ex 0), ⟨[.und, .und, .und, .und, (iV 0), (iV 0), .und, .und, (uV s), .und, .und, .und, .und, .und, .und, .und, .und, .und, .und, .und, .und, .und, .und, .und, .und, .und, .und, .und, .und, .und, .und, .und, .und, .und, .und, .und, .und, .und, .und, .und, .und, .und, .und, .und, .und, .und], []⟩)) := by kernel_rfl
theorem rc21a (L : Nat → (St → T (Ex × St)) → St → T (Ex × St)) (n : Nat) (f : Nat → E6) (k : Int) (s i : Int)  (j : Nat → V) (h0 : ile i k = false) : ((body21c L (st21c n f k s i j)).bind fun r => T.leaf (cutR (lp21c n f k) r)).sem = some ((.ex 0), ⟨[.und, .und, .und, .und, (iV 0), (iV 0), .und, .und, (uV s), .und, .und, .und, .und, .und, .und, .und, .und, .und, .und, .und, .und, .und, .und, .und, .und, .und, .und, .und, .und, .und, .und, .und, .und, .und, .und, .und, .und, .und, .und, .und, .und, .und, .und, .und, .und, .und], []⟩) := by
  exact sem_of_path (rc21a_p L n f k s i j) (by simp only [h0] <;> rfl)
theorem rc21r_p (L : Nat → (St → T (Ex × St)) → St → T (Ex × St)) (n : Nat) (f : Nat → E6) (k : Int) (s i : Int)  (j : Nat → V) : ((body21c L (st21c n f k s i j)).bind fun r => T.leaf (cutR (lp21c n f k) r)).path [true, true, true, true, true, true] = some ([(ile i k), (band (ile 0 i) (ilt i (Int.ofNat ((toN k) + 1)))), (nlt (toN i) ((toN k) + 1)), (okU (wV n f (toN i))), (ile 9223372036854775808 (wV n f (toN i))), (bnot (ieq 3 0))], (.rt, ⟨[.und, .und, .und, .und, (iV 0), (iV 3), .und, .und, (uV s), .und, .und, .und, .und, .und, .und, .und, .und, .und, .und, .und, .und, .und, .und, .und, .und, .und, .und, .und, .und, .und, .und, .und, .und, .und, .und, .und, .und, .und, .und, .und, .und, .und, .und, .und, .und, .und], []⟩)) := by kernel_rfl
theorem rc21r (L : Nat → (St → T (Ex × St)) → St → T (Ex × St)) (n : Nat) (f : Nat → E6) (k : Int) (s i : Int)  (j : Nat → V) (h0 : ile i k = true) (h1 : band (ile 0 i) (ilt i (Int.ofNat ((toN k) + 1))) = true) (h2 : nlt (toN i) ((toN k) + 1) = true) (h4 : okU (wV n f (toN i)) = true) (h3 : ile 9223372036854775808 (wV n f (toN i)) = true) : ((body21c L (st21c n f k s i j)).bind fun r => T.leaf (cutR (lp21c n f k) r)).sem = some (.rt, ⟨[.und, .und, .und, .und, (iV 0), (iV 3), .und, .und, (uV s), .und, .und, .und, .und, .und, .und, .und, .und, .und, .und, .und, .und, .und, .und, .und, .und, .und, .und, .und, .und, .und, .und, .und, .und, .und, .und, .und, .und, .und, .und, .und, .und, .und, .und, .und, .und, .und], []⟩) := by
  exact sem_of_path (rc21r_p L n f k s i j) (by simp only [h1] <;> simp only [h0, h2, h4, h3] <;> rfl)
theorem rc21n_p (L : Nat → (St → T (Ex × St)) → St → T (Ex × St)) (n : Nat) (f : Nat → E6) (k : Int) (s i : Int)  (j : Nat → V) : ((body21c L (st21c n f k s i j)).bind fun r => T.leaf (cutR (lp21c n f k) r)).path [true, true, true, true, false, false, true, true, true, true, true, true, true, true] = some ([(ile i k), (band (ile 0 i) (ilt i (Int.ofNat ((toN k) + 1)))), (nlt (toN i) ((toN k) + 1)), (okU (wV n f (toN i))), (ile 9223372036854775808 (wV n f (toN i))), (bnot (ieq 0 0)), (allN ((toN k) + 1) (fun _ => Bool.true)), (ile 1 i), (ile i 16), (ilt i (Int.ofNat ((toN k) + 1))), (allN ((toN i) + 1) (fun i => (okU (wV n f i)))), (ilt (sumC (wV n f) (toN i) (toN i)) (i * 18446744073709551616)), (okU s), (okU (clsN (wV n f) (toN i)))], (.nm, ⟨[.und, (iV k), .und, .und, (iV 0), (iV 0), (.ref 0), .und, (uV (plusU s (clsN (wV n f) (toN i)))), (iV (wr IntKind.i64 (iadd i 1))), .und, .und, .und, .und, .und, .und, .und, .und, .und, .und, .und, .und, .und, .und, .und, .und, .und, .und, .und, .und, .und, .und, .und, .und, .und, .und, .und, .und, .und, .und, .und, .und, .und, .und, .und, .und], [(.row 54 1 ((toN k) + 1) (fun i => (uV (wV n f i))))]⟩)) := by kernel_rfl
theorem rc21n (L : Nat → (St → T (Ex × St)) → St → T (Ex × St)) (n : Nat) (f : Nat → E6) (k : Int) (s i : Int)  (j : Nat → V) (h0 : ile i k = true) (h1 : band (ile 0 i) (ilt i (Int.ofNat ((toN k) + 1))) = true) (h2 : nlt (toN i) ((toN k) + 1) = true) (h5 : okU (wV n f (toN i)) = true) (h3 : ile 9223372036854775808 (wV n f (toN i)) = false) (h6 : ile 1 i = true) (h7 : ile i 16 = true) (h4 : ilt i (Int.ofNat ((toN k) + 1)) = true) (h8 : allN ((toN i) + 1) (fun i => (okU (wV n f i))) = true) (h9 : ilt (sumC (wV n f) (toN i) (toN i)) (i * 18446744073709551616) = true) (h10 : okU s = true) (h11 : okU (clsN (wV n f) (toN i)) = true) : ((body21c L (st21c n f k s i j)).bind fun r => T.leaf (cutR (lp21c n f k) r)).sem = some (.nm, ⟨[.und, (iV k), .und, .und, (iV 0), (iV 0), (.ref 0), .und, (uV (plusU s (clsN (wV n f) (toN i)))), (iV (wr IntKind.i64 (iadd i 1))), .und, .und, .und, .und, .und, .und, .und, .und, .und, .und, .und, .und, .und, .und, .und, .und, .und, .und, .und, .und, .und, .und, .und, .und, .und, .und, .und, .und, .und, .und, .und, .und, .und, .und, .und, .und], [(.row 54 1 ((toN k) + 1) (fun i => (uV (wV n f i))))]⟩) := by
  exact sem_of_path (rc21n_p L n f k s i j) (by simp only [h1] <;> simp only [h0, h2, h5, h3, h6, h7, h4, h8, h9, h10, h11, allN_true] <;> rfl)
def jk21c (n : Nat) (f : Nat → E6) (k : Int)  : Nat → V
  | 0 => (.sl 6 n (fun i => (eV (f i))))
  | 7 => (iV 0)
  | 12 => (.tup [(.ref 0), (iV 0)])
  | 13 => (.sl 6 n (fun i => (eV (f i))))
  | 14 => (iV k)
  | 15 => (.tup [(.ref 0), (iV 0)])
  | 16 => (.ref 0)
  | 17 => (iV 0)
  | 18 => (iV 0)
  | 19 => (bV (bnot (ieq 0 0)))
  | _ => undefV

theorem wc21f_p (L : Nat → (St → T (Ex × St)) → St → T (Ex × St)) (n : Nat) (f : Nat → E6) (k : Int) : (finF (evalF tab ⟨callT tb21, L, Gl⟩ Try.f21 [edgesV n f, iV k] [])).path [true, true, true] = some ([(allN n (fun _ => Bool.true)), (ilt 128 (Int.ofNat n)), (bnot (ieq 2 0))], ((.tup [(iV 0), (iV 2)]), [])) := by kernel_rfl
theorem wc21f (L : Nat → (St → T (Ex × St)) → St → T (Ex × St)) (n : Nat) (f : Nat → E6) (k : Int) (h0 : ilt 128 (Int.ofNat n) = true) : (finF (evalF tab ⟨callT tb21, L, Gl⟩ Try.f21 [edgesV n f, iV k] [])).sem = some ((.tup [(iV 0), (iV 2)]), []) := by
  exact sem_of_path (wc21f_p L n f k) (by simp only [h0, allN_true] <;> rfl)

theorem wc21e_p (L : Nat → (St → T (Ex × St)) → St → T (Ex × St)) (n : Nat) (f : Nat → E6) (k : Int) : (finF (evalF tab ⟨callT tb21, L, Gl⟩ Try.f21 [edgesV n f, iV k] [])).path [true, false, false, true] = some ([(allN n (fun _ => Bool.true)), (ilt 128 (Int.ofNat n)), (mayN n f), (bnot (ieq 30 0))], ((.tup [(iV 0), (iV 30)]), [])) := by kernel_rfl
theorem wc21e (L : Nat → (St → T (Ex × St)) → St → T (Ex × St)) (n : Nat) (f : Nat → E6) (k : Int) (h0 : ilt 128 (Int.ofNat n) = false) (h1 : mayN n f = false) : (finF (evalF tab ⟨callT tb21, L, Gl⟩ Try.f21 [edgesV n f, iV k] [])).sem = some ((.tup [(iV 0), (iV 30)]), []) := by
  exact sem_of_path (wc21e_p L n f k) (by simp only [h0, h1, allN_true] <;> rfl)

theorem wc21l_p (L : Nat → (St → T (Ex × St)) → St → T (Ex × St)) (n : Nat) (f : Nat → E6) (k : Int) : (finF (evalF tab ⟨callT tb21, L, Gl⟩ Try.f21 [edgesV n f, iV k] [])).path [true, false, true, true, true] = some ([(allN n (fun _ => Bool.true)), (ilt 128 (Int.ofNat n)), (mayN n f), (ilt k 2), (bnot (ieq 40 0))], ((.tup [(iV 0), (iV 40)]), [])) := by kernel_rfl
theorem wc21l (L : Nat → (St → T (Ex × St)) → St → T (Ex × St)) (n : Nat) (f : Nat → E6) (k : Int) (h0 : ilt 128 (Int.ofNat n) = false) (h1 : mayN n f = true) (h2 : ilt k 2 = true) : (finF (evalF tab ⟨callT tb21, L, Gl⟩ Try.f21 [edgesV n f, iV k] [])).sem = some ((.tup [(iV 0), (iV 40)]), []) := by
  exact sem_of_path (wc21l_p L n f k) (by simp only [h0, h1, h2, allN_true] <;> rfl)

theorem wc21g_p (L : Nat → (St → T (Ex × St)) → St → T (Ex × St)) (n : Nat) (f : Nat → E6) (k : Int) : (finF (evalF tab ⟨callT tb21, L, Gl⟩ Try.f21 [edgesV n f, iV k] [])).path [true, false, true, false, true, true] = some ([(allN n (fun _ => Bool.true)), (ilt 128 (Int.ofNat n)), (mayN n f), (ilt k 2), (ilt 16 k), (bnot (ieq 40 0))], ((.tup [(iV 0), (iV 40)]), [])) := by kernel_rfl
theorem wc21g (L : Nat → (St → T (Ex × St)) → St → T (Ex × St)) (n : Nat) (f : Nat → E6) (k : Int) (h0 : ilt 128 (Int.ofNat n) = false) (h1 : mayN n f = true) (h2 : ilt k 2 = false) (h3 : ilt 16 k = true) : (finF (evalF tab ⟨callT tb21, L, Gl⟩ Try.f21 [edgesV n f, iV k] [])).sem = some ((.tup [(iV 0), (iV 40)]), []) := by
  exact sem_of_path (wc21g_p L n f k) (by simp only [h0, h1, h2, h3, allN_true] <;> rfl)

theorem wc21r_p (L : Nat → (St → T (Ex × St)) → St → T (Ex × St)) (p0 : (St → T (Ex × St)) → St → Bool) (n : Nat) (f : Nat → E6) (k : Int) (s i : Int) : (finF (evalF tab ⟨callT tb21, (onP 0 p0 (en21cr n f k s i) L), Gl⟩ Try.f21 [edgesV n f, iV k] [])).path [true, false, true, false, false, true, false, true] = some ([(allN n (fun _ => Bool.true)), (ilt 128 (Int.ofNat n)), (mayN n f), (ilt k 2), (ilt 16 k), (ile 1 k), (bnot (ieq 0 0)), (p0 (body21c (onP 0 p0 (en21cr n f k s i) L)) (st21c n f k 0 2 (jk21c n f k )))], ((.tup [(iV 0), (iV 3)]), [])) := by kernel_rfl
theorem wc21r (L : Nat → (St → T (Ex × St)) → St → T (Ex × St)) (p0 : (St → T (Ex × St)) → St → Bool) (n : Nat) (f : Nat → E6) (k : Int) (s i : Int) (h0 : ilt 128 (Int.ofNat n) = false) (h1 : mayN n f = true) (h2 : ilt k 2 = false) (h3 : ilt 16 k = false) (h4 : ile 1 k = true) (hp0 : p0 (body21c (onP 0 p0 (en21cr n f k s i) L)) (st21c n f k 0 2 (jk21c n f k )) = true) : (finF (evalF tab ⟨callT tb21, (onP 0 p0 (en21cr n f k s i) L), Gl⟩ Try.f21 [edgesV n f, iV k] [])).sem = some ((.tup [(iV 0), (iV 3)]), []) := by
  exact sem_of_path (wc21r_p L p0 n f k s i) (by simp only [h0, h1, h2, h3, h4, hp0, allN_true] <;> rfl)

theorem wc21m_p (L : Nat → (St → T (Ex × St)) → St → T (Ex × St)) (p0 : (St → T (Ex × St)) → St → Bool) (n : Nat) (f : Nat → E6) (k : Int) (s i : Int) : (finF (evalF tab ⟨callT tb21, (onP 0 p0 (en21ca n f k s i) L), Gl⟩ Try.f21 [edgesV n f, iV k] [])).path [true, false, true, false, false, true, false, true, true, true] = some ([(allN n (fun _ => Bool.true)), (ilt 128 (Int.ofNat n)), (mayN n f), (ilt k 2), (ilt 16 k), (ile 1 k), (bnot (ieq 0 0)), (p0 (body21c (onP 0 p0 (en21ca n f k s i) L)) (st21c n f k 0 2 (jk21c n f k ))), (okU s), (ile 9223372036854775808 s)], ((.tup [(iV 0), (iV 3)]), [])) := by kernel_rfl
theorem wc21m (L : Nat → (St → T (Ex × St)) → St → T (Ex × St)) (p0 : (St → T (Ex × St)) → St → Bool) (n : Nat) (f : Nat → E6) (k : Int) (s i : Int) (h0 : ilt 128 (Int.ofNat n) = false) (h1 : mayN n f = true) (h2 : ilt k 2 = false) (h3 : ilt 16 k = false) (h4 : ile 1 k = true) (h6 : okU s = true) (h5 : ile 9223372036854775808 s = true) (hp0 : p0 (body21c (onP 0 p0 (en21ca n f k s i) L)) (st21c n f k 0 2 (jk21c n f k )) = true) : (finF (evalF tab ⟨callT tb21, (onP 0 p0 (en21ca n f k s i) L), Gl⟩ Try.f21 [edgesV n f, iV k] [])).sem = some ((.tup [(iV 0), (iV 3)]), []) := by
  exact sem_of_path (wc21m_p L p0 n f k s i) (by simp only [h0, h1, h2, h3, h4, h6, h5, hp0, allN_true] <;> rfl)

theorem wc21w_p (L : Nat → (St → T (Ex × St)) → St → T (Ex × St)) (p0 : (St → T (Ex × St)) → St → Bool) (n : Nat) (f : Nat → E6) (k : Int) (s i : Int) : (finF (evalF tab ⟨callT tb21, (onP 0 p0 (en21ca n f k s i) L), Gl⟩ Try.f21 [edgesV n f, iV k] [])).path [true, false, true, false, false, true, false, true, true, false] = some ([(allN n (fun _ => Bool.true)), (ilt 128 (Int.ofNat n)), (mayN n f), (ilt k 2), (ilt 16 k), (ile 1 k), (bnot (ieq 0 0)), (p0 (body21c (onP 0 p0 (en21ca n f k s i) L)) (st21c n f k 0 2 (jk21c n f k ))), (okU s), (ile 9223372036854775808 s)], ((.tup [(iV s), (iV 0)]), [])) := by kernel_rfl
theorem wc21w (L : Nat → (St → T (Ex × St)) → St → T (Ex × St)) (p0 : (St → T (Ex × St)) → St → Bool) (n : Nat) (f : Nat → E6) (k : Int) (s i : Int) (h0 : ilt 128 (Int.ofNat n) = false) (h1 : mayN n f = true) (h2 : ilt k 2 = false) (h3 : ilt 16 k = false) (h4 : ile 1 k = true) (h6 : okU s = true) (h5 : ile 9223372036854775808 s = false) (hp0 : p0 (body21c (onP 0 p0 (en21ca n f k s i) L)) (st21c n f k 0 2 (jk21c n f k )) = true) : (finF (evalF tab ⟨callT tb21, (onP 0 p0 (en21ca n f k s i) L), Gl⟩ Try.f21 [edgesV n f, iV k] [])).sem = some ((.tup [(iV s), (iV 0)]), []) := by
  exact sem_of_path (wc21w_p L p0 n f k s i) (by simp only [h0, h1, h2, h3, h4, h6, h5, hp0, allN_true] <;> rfl)


/-- The sum of the classes of two edges up to j; whether none of them are too many; how far that goes. -/
def upS (n : Nat) (f : Nat → E6) : Nat → Int
  | j + 2 => upS n f (j + 1) + cls05 n f (j + 2)
  | _ => 0
def upOK (n : Nat) (f : Nat → E6) : Nat → Bool
  | j + 2 => upOK n f (j + 1) && decide (cl05 n f (j + 2) < 9223372036854775808)
  | _ => true
def upL (n : Nat) (f : Nat → E6) : Nat → Nat
  | 0 => 0
  | j + 1 => if upOK n f (j + 1) = true then j + 1 else upL n f j

theorem upOK_down (n : Nat) (f : Nat → E6) : ∀ t j, upOK n f (j + t) = true → upOK n f j = true
  | 0, _, h => h
  | t + 1, 0, _ => rfl
  | t + 1, j + 1, h => by
    have h : upOK n f (j + t + 2) = true := by rw [show j + t + 2 = j + 1 + (t + 1) by omega]; exact h
    rw [upOK] at h
    simp at h
    refine upOK_down n f t (j + 1) ?_
    rw [show j + 1 + t = j + t + 1 by omega]
    exact h.1

theorem upL_at (n : Nat) (f : Nat → E6) (j : Nat) (h1 : upOK n f j = true) (h2 : upOK n f (j + 1) = false) : ∀ t, upL n f (j + t) = j
  | 0 => by
    cases j with
    | zero => rfl
    | succ j => show upL n f (j + 1) = _; rw [upL, if_pos h1]
  | t + 1 => by
    have : upOK n f (j + t + 1) = false := by
      cases h : upOK n f (j + t + 1) with
      | false => rfl
      | true =>
        have := upOK_down n f t (j + 1) (by rw [show j + 1 + t = j + t + 1 by omega]; exact h)
        rw [this] at h2
        cases h2
    show upL n f (j + t + 1) = j
    rw [upL, if_neg (by rw [this]; simp), upL_at n f j h1 h2 t]

theorem upS_nonneg (n : Nat) (f : Nat → E6) : ∀ j, j ≤ 16 → 0 ≤ upS n f j
  | 0, _ => Int.le_refl _
  | 1, _ => Int.le_refl _
  | j + 2, h => by
    have := upS_nonneg n f (j + 1) (by omega)
    have h2 : 0 ≤ cls05 n f (j + 2) := (cls_bound (natM n f) (j + 2) (by omega) h).1
    rw [upS]
    omega

theorem okU_sat {x : Int} (h : 0 ≤ x) : okU (satU x) = true := by
  rw [okU_iff]
  unfold satU
  split <;> omega

def end21 (n : Nat) (f : Nat → E6) (k : Nat) : Ex × St := if upOK n f k = true then en21ca n f (Int.ofNat k) (satU (upS n f k)) 0 else en21cr n f (Int.ofNat k) (satU (upS n f (upL n f k))) 0

theorem run21 (L : Nat → (St → T (Ex × St)) → St → T (Ex × St)) (n : Nat) (f : Nat → E6) (hn : n ≤ 128) (k : Nat) (hk : k ≤ 16) : ∀ (e j : Nat) (i : Nat → V) (q : Nat), k = (j + 1) + e → e < q → upOK n f (j + 1) = true →
    (iterT (body21c L) (lp21c n f (Int.ofNat k)) q (st21c n f (Int.ofNat k) (satU (upS n f (j + 1))) (Int.ofNat (j + 2)) i)).sem = some (end21 n f k)
  | 0, j, i, q + 1, h1, _, hu => by
    have hd : k = j + 1 := by omega
    subst hd
    unfold end21
    rw [if_pos hu]
    exact iter_round (rc21a L n f _ _ _ i (ofNat_gt (by omega)))
  | e + 1, j, i, q + 1, h1, h2, hu => by
    have f1 : ile (Int.ofNat (j + 2)) (Int.ofNat k) = true := ofNat_le (by omega)
    have f2 : band (ile 0 (Int.ofNat (j + 2))) (ilt (Int.ofNat (j + 2)) (Int.ofNat ((toN (Int.ofNat k)) + 1))) = true := ofNat_in (show j + 2 < k + 1 by omega)
    have f3 : nlt (toN (Int.ofNat (j + 2))) ((toN (Int.ofNat k)) + 1) = true := nlt_true (show j + 2 < k + 1 by omega)
    have ej : toN (Int.ofNat (j + 2)) = j + 2 := rfl
    have f4 : okU (wV n f (toN (Int.ofNat (j + 2)))) = true := okU_wV n f hn _
    by_cases hs : cl05 n f (j + 2) < 9223372036854775808
    · have hu2 : upOK n f (j + 1 + 1) = true := by show upOK n f (j + 2) = true; rw [upOK, hu]; simpa using hs
      obtain ⟨c1, c2, c3, c4⟩ := cls_wV n f hn (j + 2) (by omega) (by omega) hs
      have hS := upS_nonneg n f (j + 1) (by omega)
      have e1 : ile 9223372036854775808 (wV n f (toN (Int.ofNat (j + 2)))) = false := by rw [ej, wV_sat n f hn _ (by omega), sat_le]; exact le_false hs
      rw [iter_round (rc21n L n f (Int.ofNat k) _ (Int.ofNat (j + 2)) i f1 f2 f3 f4 e1 (le_true (by simp; omega)) (le_true (by simp; omega)) (ofNat_lt (show j + 2 < k + 1 by omega)) (allN_iff.2 fun i _ => okU_wV n f hn i) (lt_true c2) (okU_sat hS) (by rw [ej, c1]; exact okU_iff.2 ⟨c3, by omega⟩)), goOn_nm,
        succ_wr (show j + 2 < k + 1 by omega) (by omega), ej, c1]
      have e2 : plusU (satU (upS n f (j + 1))) (cls05 n f (j + 2)) = satU (upS n f (j + 1 + 1)) := by
        have := sat_plus hS c3
        rw [sat_small c4] at this
        rw [this]
        rfl
      rw [e2]
      exact run21 L n f hn k hk e (j + 1) (fun _ => .und) q (by omega) (by omega) hu2
    · have hu2 : upOK n f (j + 1 + 1) = false := by show upOK n f (j + 2) = false; rw [upOK, hu]; simpa using hs
      have hk2 : upOK n f k = false := by
        cases h : upOK n f k with
        | false => rfl
        | true =>
          have := upOK_down n f e (j + 1 + 1) (by rw [show j + 1 + 1 + e = k by omega]; exact h)
          rw [this] at hu2
          cases hu2
      have hl := upL_at n f (j + 1) hu hu2 (e + 1)
      rw [show j + 1 + (e + 1) = k by omega] at hl
      unfold end21
      rw [if_neg (by rw [hk2]; simp), hl]
      have e1 : ile 9223372036854775808 (wV n f (toN (Int.ofNat (j + 2)))) = true := by rw [ej, wV_sat n f hn _ (by omega), sat_le]; exact le_true (by omega)
      exact iter_round (rc21r L n f (Int.ofNat k) _ (Int.ofNat (j + 2)) i f1 f2 f3 f4 e1)

/-- Classes up to a length, or why not. -/
def upR (n : Nat) (f : Nat → E6) (k : Int) : Int × Int :=
  sel (ilt 128 (Int.ofNat n)) (0, 2) (sel (mayN n f) (sel (ilt k 2) (0, 40) (sel (ilt 16 k) (0, 40) (sel (upOK n f (toN k)) (sel (ile 9223372036854775808 (upS n f (toN k))) (0, 3) (upS n f (toN k), 0)) (0, 3)))) (0, 30))

def upT : List V → T (V × List Blk)
  | [v, u] => apL v fun n f => match gI u with
    | some k => out (.tup [iV (upR n f k).1, iV (upR n f k).2])
    | none => .fail
  | _ => .fail

theorem upT_some {vs : List V} {r : V × List Blk} (h : (upT vs).sem = some r) :
    ∃ n f k, ArgLE vs [edgesV n f, iV k] ∧ r = (.tup [iV (upR n f k).1, iV (upR n f k).2], []) := by
  unfold upT at h
  split at h
  · obtain ⟨n, f, ha, hq⟩ := apL_some h
    split at hq
    · rename_i u _ k hk
      refine ⟨n, f, k, fun S w cs hv => ?_, sem_leaf hq⟩
      obtain ⟨c, l, rfl, q1, c', l', rfl, q2, q3⟩ := hv
      rw [gI_some hk] at q2
      exact ⟨c, _, rfl, ha S w c q1, c', _, rfl, q2, q3⟩
    · cases hq
  · cases h

theorem p21c : PureC Try.prog Gl 21 upT := by
  refine pureC_intro tabOK mixed Try.func21 (by kernel_rfl) (by kernel_rfl) fun vs v h' h => ?_
  obtain ⟨n, f, k, hA, hr⟩ := upT_some h
  simp only [Prod.mk.injEq] at hr
  obtain ⟨rfl, rfl⟩ := hr
  have hx := cx_ok tb21_ok [(0, lp21c n f k)]
  have hL := loopsBy_le [(0, lp21c n f k)]
  refine ⟨_, cxOf Gl tb21 [(0, lp21c n f k)], _, hA, rfl, hx.1, hx.2, ?_, RowsLE.refl _⟩
  unfold upR
  rcases many n with ⟨h1, _⟩ | ⟨h1, hn⟩
  · rw [h1]; exact wc21f _ n f k h1
  · rw [h1]
    cases hm : mayN n f with
    | false => exact wc21e _ n f k h1 hm
    | true =>
      cases h2 : ilt k 2 with
      | true => exact wc21l _ n f k h1 hm h2
      | false =>
        cases h3 : ilt 16 k with
        | true => exact wc21g _ n f k h1 hm h2 h3
        | false =>
          have h2' : 2 ≤ k := by simpa [ilt] using h2
          have h3' : k ≤ 16 := by simpa [ilt] using h3
          obtain ⟨j, rfl⟩ := Int.eq_ofNat_of_zero_le (show (0 : Int) ≤ k by omega)
          have hj1 : 2 ≤ j := by omega
          have hj2 : j ≤ 16 := by omega
          have h4 : ile 1 (Int.ofNat j) = true := le_true (by simp; omega)
          have hrun := fun L i => run21 L n f hn j hj2 (j - 1) 0 i (j + 1) (by omega) (by omega) rfl
          have hS := upS_nonneg n f j hj2
          unfold end21 at hrun
          show _ = some (V.tup [iV (sel (upOK n f j) (sel (ile 9223372036854775808 (upS n f j)) ((0 : Int), (3 : Int)) (upS n f j, 0)) (0, 3)).1, iV (sel (upOK n f j) (sel (ile 9223372036854775808 (upS n f j)) ((0 : Int), (3 : Int)) (upS n f j, 0)) (0, 3)).2], [])
          cases hu : upOK n f j with
          | true =>
            rw [if_pos hu] at hrun
            cases h8 : ile 9223372036854775808 (upS n f j) with
            | true => exact told_le (onP_le hL hL) _ (wc21m _ _ n f _ _ 0 h1 hm h2 h3 h4 (okU_sat hS) (by rw [sat_le]; exact h8) (isP_true (hrun _ _)))
            | false =>
              have h9 : satU (upS n f j) = upS n f j := sat_small (by have := of_decide_eq_false h8; omega)
              have := told_le (onP_le hL hL) _ (wc21w (loopsBy [(0, lp21c n f (Int.ofNat j))]) _ n f _ _ 0 h1 hm h2 h3 h4 (okU_sat hS) (by rw [sat_le]; exact h8) (isP_true (hrun _ _)))
              rw [h9] at this
              exact this
          | false =>
            rw [if_neg (by rw [hu]; simp)] at hrun
            exact told_le (onP_le hL hL) _ (wc21r _ _ n f _ _ 0 h1 hm h2 h3 h4 (isP_true (hrun _ _)))

end Go.Proofs.Ytdmjcpindopjdaa.Co
