/-
  Layer 5: classes and words, the functions. No conditions.
-/
import Derived.Test.YtdmjcpindopjdaaCoVa
namespace Go.Proofs.Ytdmjcpindopjdaa.Co
open Go.Sy

noncomputable def tb17 : List (Nat × (List V → T (V × List Blk))) := [(34, askT), (35, smallT), (36, classesT)]
theorem tb17_ok : AllPure Try.prog Gl tb17 := .cons p34 <| .cons p35 <| .cons p36c .nil
noncomputable def tb29 : List (Nat × (List V → T (V × List Blk))) := [(34, askT), (35, smallT), (45, wordsT 16)]
theorem tb29_ok : AllPure Try.prog Gl tb29 := .cons p34 <| .cons p35 <| .cons p45c .nil

theorem wc17f_p (L : Nat → (St → T (Ex × St)) → St → T (Ex × St)) (n : Nat) (f : Nat → E6) (k : Int) : (finF (evalF tab ⟨callT tb17, L, Gl⟩ Try.f17 [edgesV n f, iV k] [])).path [true, true, true] = some ([(allN n (fun _ => Bool.true)), (ilt 128 (Int.ofNat n)), (bnot (ieq 2 0))], ((.tup [(iV 0), (iV 2)]), [])) := by kernel_rfl
theorem wc17f (L : Nat → (St → T (Ex × St)) → St → T (Ex × St)) (n : Nat) (f : Nat → E6) (k : Int) (h0 : ilt 128 (Int.ofNat n) = true) : (finF (evalF tab ⟨callT tb17, L, Gl⟩ Try.f17 [edgesV n f, iV k] [])).sem = some ((.tup [(iV 0), (iV 2)]), []) := by
  exact sem_of_path (wc17f_p L n f k) (by simp only [h0, allN_true] <;> rfl)

theorem wc17e_p (L : Nat → (St → T (Ex × St)) → St → T (Ex × St)) (n : Nat) (f : Nat → E6) (k : Int) : (finF (evalF tab ⟨callT tb17, L, Gl⟩ Try.f17 [edgesV n f, iV k] [])).path [true, false, false, true] = some ([(allN n (fun _ => Bool.true)), (ilt 128 (Int.ofNat n)), (mayN n f), (bnot (ieq 30 0))], ((.tup [(iV 0), (iV 30)]), [])) := by kernel_rfl
theorem wc17e (L : Nat → (St → T (Ex × St)) → St → T (Ex × St)) (n : Nat) (f : Nat → E6) (k : Int) (h0 : ilt 128 (Int.ofNat n) = false) (h1 : mayN n f = false) : (finF (evalF tab ⟨callT tb17, L, Gl⟩ Try.f17 [edgesV n f, iV k] [])).sem = some ((.tup [(iV 0), (iV 30)]), []) := by
  exact sem_of_path (wc17e_p L n f k) (by simp only [h0, h1, allN_true] <;> rfl)

theorem wc17l_p (L : Nat → (St → T (Ex × St)) → St → T (Ex × St)) (n : Nat) (f : Nat → E6) (k : Int) : (finF (evalF tab ⟨callT tb17, L, Gl⟩ Try.f17 [edgesV n f, iV k] [])).path [true, false, true, true, true] = some ([(allN n (fun _ => Bool.true)), (ilt 128 (Int.ofNat n)), (mayN n f), (ilt k 1), (bnot (ieq 40 0))], ((.tup [(iV 0), (iV 40)]), [])) := by kernel_rfl
theorem wc17l (L : Nat → (St → T (Ex × St)) → St → T (Ex × St)) (n : Nat) (f : Nat → E6) (k : Int) (h0 : ilt 128 (Int.ofNat n) = false) (h1 : mayN n f = true) (h2 : ilt k 1 = true) : (finF (evalF tab ⟨callT tb17, L, Gl⟩ Try.f17 [edgesV n f, iV k] [])).sem = some ((.tup [(iV 0), (iV 40)]), []) := by
  exact sem_of_path (wc17l_p L n f k) (by simp only [h0, h1, h2, allN_true] <;> rfl)

theorem wc17g_p (L : Nat → (St → T (Ex × St)) → St → T (Ex × St)) (n : Nat) (f : Nat → E6) (k : Int) : (finF (evalF tab ⟨callT tb17, L, Gl⟩ Try.f17 [edgesV n f, iV k] [])).path [true, false, true, false, true, true] = some ([(allN n (fun _ => Bool.true)), (ilt 128 (Int.ofNat n)), (mayN n f), (ilt k 1), (ilt 16 k), (bnot (ieq 40 0))], ((.tup [(iV 0), (iV 40)]), [])) := by kernel_rfl
theorem wc17g (L : Nat → (St → T (Ex × St)) → St → T (Ex × St)) (n : Nat) (f : Nat → E6) (k : Int) (h0 : ilt 128 (Int.ofNat n) = false) (h1 : mayN n f = true) (h2 : ilt k 1 = false) (h3 : ilt 16 k = true) : (finF (evalF tab ⟨callT tb17, L, Gl⟩ Try.f17 [edgesV n f, iV k] [])).sem = some ((.tup [(iV 0), (iV 40)]), []) := by
  exact sem_of_path (wc17g_p L n f k) (by simp only [h0, h1, h2, h3, allN_true] <;> rfl)

theorem wc17m_p (L : Nat → (St → T (Ex × St)) → St → T (Ex × St)) (n : Nat) (f : Nat → E6) (k : Int) : (finF (evalF tab ⟨callT tb17, L, Gl⟩ Try.f17 [edgesV n f, iV k] [])).path [true, false, true, false, false, true, false, true, true, true, true, true] = some ([(allN n (fun _ => Bool.true)), (ilt 128 (Int.ofNat n)), (mayN n f), (ilt k 1), (ilt 16 k), (ile 1 k), (bnot (ieq 0 0)), (band (ile 0 k) (ilt k (Int.ofNat ((toN k) + 1)))), (nlt (toN k) ((toN k) + 1)), (okU (wV n f (toN k))), (ile 9223372036854775808 (wV n f (toN k))), (bnot (ieq 3 0))], ((.tup [(iV 0), (iV 3)]), [])) := by kernel_rfl
theorem wc17m (L : Nat → (St → T (Ex × St)) → St → T (Ex × St)) (n : Nat) (f : Nat → E6) (k : Int) (h0 : ilt 128 (Int.ofNat n) = false) (h1 : mayN n f = true) (h2 : ilt k 1 = false) (h3 : ilt 16 k = false) (h4 : ile 1 k = true) (h5 : band (ile 0 k) (ilt k (Int.ofNat ((toN k) + 1))) = true) (h6 : nlt (toN k) ((toN k) + 1) = true) (h7 : okU (wV n f (toN k)) = true) (h9 : ile 9223372036854775808 (wV n f (toN k)) = true) : (finF (evalF tab ⟨callT tb17, L, Gl⟩ Try.f17 [edgesV n f, iV k] [])).sem = some ((.tup [(iV 0), (iV 3)]), []) := by
  exact sem_of_path (wc17m_p L n f k) (by simp only [h5] <;> simp only [h0, h1, h2, h3, h4, h6, h7, h9, allN_true] <;> rfl)

theorem wc17w_p (L : Nat → (St → T (Ex × St)) → St → T (Ex × St)) (n : Nat) (f : Nat → E6) (k : Int) : (finF (evalF tab ⟨callT tb17, L, Gl⟩ Try.f17 [edgesV n f, iV k] [])).path [true, false, true, false, false, true, false, true, true, true, false, false, true, true, true, true, true, true, true, false] = some ([(allN n (fun _ => Bool.true)), (ilt 128 (Int.ofNat n)), (mayN n f), (ilt k 1), (ilt 16 k), (ile 1 k), (bnot (ieq 0 0)), (band (ile 0 k) (ilt k (Int.ofNat ((toN k) + 1)))), (nlt (toN k) ((toN k) + 1)), (okU (wV n f (toN k))), (ile 9223372036854775808 (wV n f (toN k))), (bnot (ieq 0 0)), (allN ((toN k) + 1) (fun _ => Bool.true)), (ile 1 k), (ile k 16), (ilt k (Int.ofNat ((toN k) + 1))), (allN ((toN k) + 1) (fun i => (okU (wV n f i)))), (ilt (sumC (wV n f) (toN k) (toN k)) (k * 18446744073709551616)), (okU (clsN (wV n f) (toN k))), (ile 9223372036854775808 (clsN (wV n f) (toN k)))], ((.tup [(iV (clsN (wV n f) (toN k))), (iV 0)]), [])) := by kernel_rfl
theorem wc17w (L : Nat → (St → T (Ex × St)) → St → T (Ex × St)) (n : Nat) (f : Nat → E6) (k : Int) (h0 : ilt 128 (Int.ofNat n) = false) (h1 : mayN n f = true) (h2 : ilt k 1 = false) (h3 : ilt 16 k = false) (h4 : ile 1 k = true) (h5 : band (ile 0 k) (ilt k (Int.ofNat ((toN k) + 1))) = true) (h6 : nlt (toN k) ((toN k) + 1) = true) (h7 : okU (wV n f (toN k)) = true) (h9 : ile 9223372036854775808 (wV n f (toN k)) = false) (h11 : ile k 16 = true) (h8 : ilt k (Int.ofNat ((toN k) + 1)) = true) (h12 : allN ((toN k) + 1) (fun i => (okU (wV n f i))) = true) (h13 : ilt (sumC (wV n f) (toN k) (toN k)) (k * 18446744073709551616) = true) (h14 : okU (clsN (wV n f) (toN k)) = true) (h10 : ile 9223372036854775808 (clsN (wV n f) (toN k)) = false) : (finF (evalF tab ⟨callT tb17, L, Gl⟩ Try.f17 [edgesV n f, iV k] [])).sem = some ((.tup [(iV (clsN (wV n f) (toN k))), (iV 0)]), []) := by
  exact sem_of_path (wc17w_p L n f k) (by simp only [h5] <;> simp only [h0, h1, h2, h3, h4, h6, h7, h9, h11, h8, h12, h13, h14, h10, allN_true] <;> rfl)
theorem wc29f_p (L : Nat → (St → T (Ex × St)) → St → T (Ex × St)) (n : Nat) (f : Nat → E6) (k : Int) : (finF (evalF tab ⟨callT tb29, L, Gl⟩ Try.f29 [edgesV n f, iV k] [])).path [true, true, true] = some ([(allN n (fun _ => Bool.true)), (ilt 128 (Int.ofNat n)), (bnot (ieq 2 0))], ((.tup [(iV 0), (iV 2)]), [])) := by kernel_rfl
theorem wc29f (L : Nat → (St → T (Ex × St)) → St → T (Ex × St)) (n : Nat) (f : Nat → E6) (k : Int) (h0 : ilt 128 (Int.ofNat n) = true) : (finF (evalF tab ⟨callT tb29, L, Gl⟩ Try.f29 [edgesV n f, iV k] [])).sem = some ((.tup [(iV 0), (iV 2)]), []) := by
  exact sem_of_path (wc29f_p L n f k) (by simp only [h0, allN_true] <;> rfl)

theorem wc29e_p (L : Nat → (St → T (Ex × St)) → St → T (Ex × St)) (n : Nat) (f : Nat → E6) (k : Int) : (finF (evalF tab ⟨callT tb29, L, Gl⟩ Try.f29 [edgesV n f, iV k] [])).path [true, false, false, true] = some ([(allN n (fun _ => Bool.true)), (ilt 128 (Int.ofNat n)), (mayN n f), (bnot (ieq 30 0))], ((.tup [(iV 0), (iV 30)]), [])) := by kernel_rfl
theorem wc29e (L : Nat → (St → T (Ex × St)) → St → T (Ex × St)) (n : Nat) (f : Nat → E6) (k : Int) (h0 : ilt 128 (Int.ofNat n) = false) (h1 : mayN n f = false) : (finF (evalF tab ⟨callT tb29, L, Gl⟩ Try.f29 [edgesV n f, iV k] [])).sem = some ((.tup [(iV 0), (iV 30)]), []) := by
  exact sem_of_path (wc29e_p L n f k) (by simp only [h0, h1, allN_true] <;> rfl)

theorem wc29l_p (L : Nat → (St → T (Ex × St)) → St → T (Ex × St)) (n : Nat) (f : Nat → E6) (k : Int) : (finF (evalF tab ⟨callT tb29, L, Gl⟩ Try.f29 [edgesV n f, iV k] [])).path [true, false, true, true, true] = some ([(allN n (fun _ => Bool.true)), (ilt 128 (Int.ofNat n)), (mayN n f), (ilt k 1), (bnot (ieq 40 0))], ((.tup [(iV 0), (iV 40)]), [])) := by kernel_rfl
theorem wc29l (L : Nat → (St → T (Ex × St)) → St → T (Ex × St)) (n : Nat) (f : Nat → E6) (k : Int) (h0 : ilt 128 (Int.ofNat n) = false) (h1 : mayN n f = true) (h2 : ilt k 1 = true) : (finF (evalF tab ⟨callT tb29, L, Gl⟩ Try.f29 [edgesV n f, iV k] [])).sem = some ((.tup [(iV 0), (iV 40)]), []) := by
  exact sem_of_path (wc29l_p L n f k) (by simp only [h0, h1, h2, allN_true] <;> rfl)

theorem wc29g_p (L : Nat → (St → T (Ex × St)) → St → T (Ex × St)) (n : Nat) (f : Nat → E6) (k : Int) : (finF (evalF tab ⟨callT tb29, L, Gl⟩ Try.f29 [edgesV n f, iV k] [])).path [true, false, true, false, true, true] = some ([(allN n (fun _ => Bool.true)), (ilt 128 (Int.ofNat n)), (mayN n f), (ilt k 1), (ilt 16 k), (bnot (ieq 40 0))], ((.tup [(iV 0), (iV 40)]), [])) := by kernel_rfl
theorem wc29g (L : Nat → (St → T (Ex × St)) → St → T (Ex × St)) (n : Nat) (f : Nat → E6) (k : Int) (h0 : ilt 128 (Int.ofNat n) = false) (h1 : mayN n f = true) (h2 : ilt k 1 = false) (h3 : ilt 16 k = true) : (finF (evalF tab ⟨callT tb29, L, Gl⟩ Try.f29 [edgesV n f, iV k] [])).sem = some ((.tup [(iV 0), (iV 40)]), []) := by
  exact sem_of_path (wc29g_p L n f k) (by simp only [h0, h1, h2, h3, allN_true] <;> rfl)

theorem wc29m_p (L : Nat → (St → T (Ex × St)) → St → T (Ex × St)) (n : Nat) (f : Nat → E6) (k : Int) : (finF (evalF tab ⟨callT tb29, L, Gl⟩ Try.f29 [edgesV n f, iV k] [])).path [true, false, true, false, false, true, false, true, true, true, true, true] = some ([(allN n (fun _ => Bool.true)), (ilt 128 (Int.ofNat n)), (mayN n f), (ilt k 1), (ilt 16 k), (ile 1 k), (bnot (ieq 0 0)), (band (ile 0 k) (ilt k (Int.ofNat ((toN k) + 1)))), (nlt (toN k) ((toN k) + 1)), (okU (wV n f (toN k))), (ile 9223372036854775808 (wV n f (toN k))), (bnot (ieq 3 0))], ((.tup [(iV 0), (iV 3)]), [])) := by kernel_rfl
theorem wc29m (L : Nat → (St → T (Ex × St)) → St → T (Ex × St)) (n : Nat) (f : Nat → E6) (k : Int) (h0 : ilt 128 (Int.ofNat n) = false) (h1 : mayN n f = true) (h2 : ilt k 1 = false) (h3 : ilt 16 k = false) (h4 : ile 1 k = true) (h5 : band (ile 0 k) (ilt k (Int.ofNat ((toN k) + 1))) = true) (h6 : nlt (toN k) ((toN k) + 1) = true) (h7 : okU (wV n f (toN k)) = true) (h9 : ile 9223372036854775808 (wV n f (toN k)) = true) : (finF (evalF tab ⟨callT tb29, L, Gl⟩ Try.f29 [edgesV n f, iV k] [])).sem = some ((.tup [(iV 0), (iV 3)]), []) := by
  exact sem_of_path (wc29m_p L n f k) (by simp only [h5] <;> simp only [h0, h1, h2, h3, h4, h6, h7, h9, allN_true] <;> rfl)

theorem wc29w_p (L : Nat → (St → T (Ex × St)) → St → T (Ex × St)) (n : Nat) (f : Nat → E6) (k : Int) : (finF (evalF tab ⟨callT tb29, L, Gl⟩ Try.f29 [edgesV n f, iV k] [])).path [true, false, true, false, false, true, false, true, true, true, false, false, true, true, true, true, true, true, false] = some ([(allN n (fun _ => Bool.true)), (ilt 128 (Int.ofNat n)), (mayN n f), (ilt k 1), (ilt 16 k), (ile 1 k), (bnot (ieq 0 0)), (band (ile 0 k) (ilt k (Int.ofNat ((toN k) + 1)))), (nlt (toN k) ((toN k) + 1)), (okU (wV n f (toN k))), (ile 9223372036854775808 (wV n f (toN k))), (bnot (ieq 0 0)), (allN ((toN k) + 1) (fun _ => Bool.true)), (ile 1 k), (ile k 16), (ilt k (Int.ofNat ((toN k) + 1))), (wOK (wV n f) (toN k)), (okU (wrdN (wV n f) (toN k))), (ile 9223372036854775808 (wrdN (wV n f) (toN k)))], ((.tup [(iV (wrdN (wV n f) (toN k))), (iV 0)]), [])) := by kernel_rfl
theorem wc29w (L : Nat → (St → T (Ex × St)) → St → T (Ex × St)) (n : Nat) (f : Nat → E6) (k : Int) (h0 : ilt 128 (Int.ofNat n) = false) (h1 : mayN n f = true) (h2 : ilt k 1 = false) (h3 : ilt 16 k = false) (h4 : ile 1 k = true) (h5 : band (ile 0 k) (ilt k (Int.ofNat ((toN k) + 1))) = true) (h6 : nlt (toN k) ((toN k) + 1) = true) (h7 : okU (wV n f (toN k)) = true) (h9 : ile 9223372036854775808 (wV n f (toN k)) = false) (h11 : ile k 16 = true) (h8 : ilt k (Int.ofNat ((toN k) + 1)) = true) (h12 : wOK (wV n f) (toN k) = true) (h13 : okU (wrdN (wV n f) (toN k)) = true) (h10 : ile 9223372036854775808 (wrdN (wV n f) (toN k)) = false) : (finF (evalF tab ⟨callT tb29, L, Gl⟩ Try.f29 [edgesV n f, iV k] [])).sem = some ((.tup [(iV (wrdN (wV n f) (toN k))), (iV 0)]), []) := by
  exact sem_of_path (wc29w_p L n f k) (by simp only [h5] <;> simp only [h0, h1, h2, h3, h4, h6, h7, h9, h11, h8, h12, h13, h10, allN_true] <;> rfl)

theorem p17c : PureC Try.prog Gl 17 (gateT fun n f k => cls05 n f k) := by
  refine pureC_intro tabOK mixed Try.func17 (by kernel_rfl) (by kernel_rfl) fun vs v h' h => ?_
  obtain ⟨n, f, k, hA, hr⟩ := gateT_some h
  simp only [Prod.mk.injEq] at hr
  obtain ⟨rfl, rfl⟩ := hr
  have hx := cx_ok tb17_ok []
  refine ⟨_, cxOf Gl tb17 [], _, hA, rfl, hx.1, hx.2, ?_, RowsLE.refl _⟩
  unfold gateR
  rcases many n with ⟨h1, _⟩ | ⟨h1, hn⟩
  · rw [h1]; exact wc17f _ n f k h1
  · rw [h1]
    cases hm : mayN n f with
    | false => exact wc17e _ n f k h1 hm
    | true =>
      cases h2 : ilt k 1 with
      | true => exact wc17l _ n f k h1 hm h2
      | false =>
        cases h3 : ilt 16 k with
        | true => exact wc17g _ n f k h1 hm h2 h3
        | false =>
          have h2' : 1 ≤ k := by simpa [ilt] using h2
          have h3' : k ≤ 16 := by simpa [ilt] using h3
          obtain ⟨j, rfl⟩ := Int.eq_ofNat_of_zero_le (show (0 : Int) ≤ k by omega)
          have ej : toN (Int.ofNat j) = j := rfl
          have hj1 : 1 ≤ j := by omega
          have hj2 : j ≤ 16 := by omega
          have h4 : ile 1 (Int.ofNat j) = true := le_true h2'
          have h5 : band (ile 0 (Int.ofNat j)) (ilt (Int.ofNat j) (Int.ofNat ((toN (Int.ofNat j)) + 1))) = true := ofNat_in (Nat.lt_succ_self j)
          have h6 : nlt (toN (Int.ofNat j)) ((toN (Int.ofNat j)) + 1) = true := nlt_true (Nat.lt_succ_self j)
          have h8 : ile 9223372036854775808 (wV n f (toN (Int.ofNat j))) = ile 9223372036854775808 (cl05 n f (toN (Int.ofNat j))) := by
            rw [ej, wV_sat n f hn j hj1, sat_le]
          cases h9 : ile 9223372036854775808 (cl05 n f (toN (Int.ofNat j))) with
          | true => exact wc17m _ n f _ h1 hm h2 h3 h4 h5 h6 (okU_wV n f hn _) (h8.trans h9)
          | false =>
            have hs : cl05 n f j < 9223372036854775808 := by
              have := of_decide_eq_false h9
              rw [ej] at this
              omega
            have h16 : ile (Int.ofNat j) 16 = true := le_true h3'
            have hl : ilt (Int.ofNat j) (Int.ofNat ((toN (Int.ofNat j)) + 1)) = true := ofNat_lt (Nat.lt_succ_self j)
            obtain ⟨c1, c2, c3, c4⟩ := cls_wV n f hn j hj1 hj2 hs
            have hw := wc17w (loopsBy []) n f (Int.ofNat j) h1 hm h2 h3 h4 h5 h6 (okU_wV n f hn _) (h8.trans h9) h16 hl (allN_iff.2 fun i _ => okU_wV n f hn i) (lt_true c2) (by rw [ej, c1]; exact okU_iff.2 ⟨c3, by omega⟩) (by rw [ej, c1]; exact le_false c4)
            rw [ej, c1] at hw
            exact hw

theorem p29c : PureC Try.prog Gl 29 (gateT fun n f k => wrdN (cl05 n f) k) := by
  refine pureC_intro tabOK mixed Try.func29 (by kernel_rfl) (by kernel_rfl) fun vs v h' h => ?_
  obtain ⟨n, f, k, hA, hr⟩ := gateT_some h
  simp only [Prod.mk.injEq] at hr
  obtain ⟨rfl, rfl⟩ := hr
  have hx := cx_ok tb29_ok []
  refine ⟨_, cxOf Gl tb29 [], _, hA, rfl, hx.1, hx.2, ?_, RowsLE.refl _⟩
  unfold gateR
  rcases many n with ⟨h1, _⟩ | ⟨h1, hn⟩
  · rw [h1]; exact wc29f _ n f k h1
  · rw [h1]
    cases hm : mayN n f with
    | false => exact wc29e _ n f k h1 hm
    | true =>
      cases h2 : ilt k 1 with
      | true => exact wc29l _ n f k h1 hm h2
      | false =>
        cases h3 : ilt 16 k with
        | true => exact wc29g _ n f k h1 hm h2 h3
        | false =>
          have h2' : 1 ≤ k := by simpa [ilt] using h2
          have h3' : k ≤ 16 := by simpa [ilt] using h3
          obtain ⟨j, rfl⟩ := Int.eq_ofNat_of_zero_le (show (0 : Int) ≤ k by omega)
          have ej : toN (Int.ofNat j) = j := rfl
          have hj1 : 1 ≤ j := by omega
          have hj2 : j ≤ 16 := by omega
          have h4 : ile 1 (Int.ofNat j) = true := le_true h2'
          have h5 : band (ile 0 (Int.ofNat j)) (ilt (Int.ofNat j) (Int.ofNat ((toN (Int.ofNat j)) + 1))) = true := ofNat_in (Nat.lt_succ_self j)
          have h6 : nlt (toN (Int.ofNat j)) ((toN (Int.ofNat j)) + 1) = true := nlt_true (Nat.lt_succ_self j)
          have h8 : ile 9223372036854775808 (wV n f (toN (Int.ofNat j))) = ile 9223372036854775808 (cl05 n f (toN (Int.ofNat j))) := by
            rw [ej, wV_sat n f hn j hj1, sat_le]
          cases h9 : ile 9223372036854775808 (cl05 n f (toN (Int.ofNat j))) with
          | true => exact wc29m _ n f _ h1 hm h2 h3 h4 h5 h6 (okU_wV n f hn _) (h8.trans h9)
          | false =>
            have hs : cl05 n f j < 9223372036854775808 := by
              have := of_decide_eq_false h9
              rw [ej] at this
              omega
            have h16 : ile (Int.ofNat j) 16 = true := le_true h3'
            have hl : ilt (Int.ofNat j) (Int.ofNat ((toN (Int.ofNat j)) + 1)) = true := ofNat_lt (Nat.lt_succ_self j)
            have c1 := (wrd_wV n f hn j hj1 hj2 hs j (Nat.mod_self j)).2
            obtain ⟨c3, c4⟩ := wrd_bound n f j hj1 hj2 hs
            have hw := wc29w (loopsBy []) n f (Int.ofNat j) h1 hm h2 h3 h4 h5 h6 (okU_wV n f hn _) (h8.trans h9) h16 hl (wOK_wV n f hn j hj1 hj2 hs) (by rw [ej, c1]; exact okU_iff.2 ⟨c3, by omega⟩) (by rw [ej, c1]; exact le_false c4)
            rw [ej, c1] at hw
            exact hw

end Go.Proofs.Ytdmjcpindopjdaa.Co
