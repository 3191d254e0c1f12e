/-
  Layer 5: how many closed lists there are. No conditions.
-/
import Derived.Test.YtdmjcpindopjdaaCoW
namespace Go.Proofs.Ytdmjcpindopjdaa.Co
open Go.Sy

noncomputable def tbX : List (Nat × (List V → T (V × List Blk))) := [(34, askT), (35, smallT)]
theorem tbX_ok : AllPure Try.prog Gl tbX := .cons p34 <| .cons p35 .nil

theorem way16f_p (L : Nat → (St → T (Ex × St)) → St → T (Ex × St)) (n : Nat) (f : Nat → E6) (k : Int) : (finF (evalF tab ⟨callT tbX, L, Gl⟩ Try.f16 [edgesV n f, iV k] [])).path [true, true, true] = some ([(allN n (fun _ => Bool.true)), (ilt 128 (Int.ofNat n)), (bnot (ieq 2 0))], ((.tup [(iV 0), (iV 2)]), [])) := by kernel_rfl
theorem way16f (L : Nat → (St → T (Ex × St)) → St → T (Ex × St)) (n : Nat) (f : Nat → E6) (k : Int) (h0 : ilt 128 (Int.ofNat n) = true) : (finF (evalF tab ⟨callT tbX, L, Gl⟩ Try.f16 [edgesV n f, iV k] [])).sem = some ((.tup [(iV 0), (iV 2)]), []) := by
  exact sem_of_path (way16f_p L n f k) (by simp only [h0, allN_true] <;> rfl)

theorem way16e_p (L : Nat → (St → T (Ex × St)) → St → T (Ex × St)) (n : Nat) (f : Nat → E6) (k : Int) : (finF (evalF tab ⟨callT tbX, L, Gl⟩ Try.f16 [edgesV n f, iV k] [])).path [true, false, false, true] = some ([(allN n (fun _ => Bool.true)), (ilt 128 (Int.ofNat n)), (mayN n f), (bnot (ieq 30 0))], ((.tup [(iV 0), (iV 30)]), [])) := by kernel_rfl
theorem way16e (L : Nat → (St → T (Ex × St)) → St → T (Ex × St)) (n : Nat) (f : Nat → E6) (k : Int) (h0 : ilt 128 (Int.ofNat n) = false) (h1 : mayN n f = false) : (finF (evalF tab ⟨callT tbX, L, Gl⟩ Try.f16 [edgesV n f, iV k] [])).sem = some ((.tup [(iV 0), (iV 30)]), []) := by
  exact sem_of_path (way16e_p L n f k) (by simp only [h0, h1, allN_true] <;> rfl)

theorem way16l_p (L : Nat → (St → T (Ex × St)) → St → T (Ex × St)) (n : Nat) (f : Nat → E6) (k : Int) : (finF (evalF tab ⟨callT tbX, L, Gl⟩ Try.f16 [edgesV n f, iV k] [])).path [true, false, true, true, true] = some ([(allN n (fun _ => Bool.true)), (ilt 128 (Int.ofNat n)), (mayN n f), (ilt k 1), (bnot (ieq 40 0))], ((.tup [(iV 0), (iV 40)]), [])) := by kernel_rfl
theorem way16l (L : Nat → (St → T (Ex × St)) → St → T (Ex × St)) (n : Nat) (f : Nat → E6) (k : Int) (h0 : ilt 128 (Int.ofNat n) = false) (h1 : mayN n f = true) (h2 : ilt k 1 = true) : (finF (evalF tab ⟨callT tbX, L, Gl⟩ Try.f16 [edgesV n f, iV k] [])).sem = some ((.tup [(iV 0), (iV 40)]), []) := by
  exact sem_of_path (way16l_p L n f k) (by simp only [h0, h1, h2, allN_true] <;> rfl)

theorem way16g_p (L : Nat → (St → T (Ex × St)) → St → T (Ex × St)) (n : Nat) (f : Nat → E6) (k : Int) : (finF (evalF tab ⟨callT tbX, L, Gl⟩ Try.f16 [edgesV n f, iV k] [])).path [true, false, true, false, true, true] = some ([(allN n (fun _ => Bool.true)), (ilt 128 (Int.ofNat n)), (mayN n f), (ilt k 1), (ilt 16 k), (bnot (ieq 40 0))], ((.tup [(iV 0), (iV 40)]), [])) := by kernel_rfl
theorem way16g (L : Nat → (St → T (Ex × St)) → St → T (Ex × St)) (n : Nat) (f : Nat → E6) (k : Int) (h0 : ilt 128 (Int.ofNat n) = false) (h1 : mayN n f = true) (h2 : ilt k 1 = false) (h3 : ilt 16 k = true) : (finF (evalF tab ⟨callT tbX, L, Gl⟩ Try.f16 [edgesV n f, iV k] [])).sem = some ((.tup [(iV 0), (iV 40)]), []) := by
  exact sem_of_path (way16g_p L n f k) (by simp only [h0, h1, h2, h3, allN_true] <;> rfl)

theorem way16m_p (L : Nat → (St → T (Ex × St)) → St → T (Ex × St)) (n : Nat) (f : Nat → E6) (k : Int) : (finF (evalF tab ⟨callT tbX, L, Gl⟩ Try.f16 [edgesV n f, iV k] [])).path [true, false, true, false, false, true, false, true, true, true, true] = some ([(allN n (fun _ => Bool.true)), (ilt 128 (Int.ofNat n)), (mayN n f), (ilt k 1), (ilt 16 k), (ile 1 k), (bnot (ieq 0 0)), (band (ile 0 k) (ilt k (Int.ofNat ((toN k) + 1)))), (nlt (toN k) ((toN k) + 1)), (okU (wV n f (toN k))), (ile 9223372036854775808 (wV n f (toN k)))], ((.tup [(iV 0), (iV 3)]), [])) := by kernel_rfl
theorem way16m (L : Nat → (St → T (Ex × St)) → St → T (Ex × St)) (n : Nat) (f : Nat → E6) (k : Int) (h0 : ilt 128 (Int.ofNat n) = false) (h1 : mayN n f = true) (h2 : ilt k 1 = false) (h3 : ilt 16 k = false) (h4 : ile 1 k = true) (h5 : band (ile 0 k) (ilt k (Int.ofNat ((toN k) + 1))) = true) (h6 : nlt (toN k) ((toN k) + 1) = true) (h7 : okU (wV n f (toN k)) = true) (h8 : ile 9223372036854775808 (wV n f (toN k)) = true) : (finF (evalF tab ⟨callT tbX, L, Gl⟩ Try.f16 [edgesV n f, iV k] [])).sem = some ((.tup [(iV 0), (iV 3)]), []) := by
  exact sem_of_path (way16m_p L n f k) (by simp only [h0, h1, h2, h3, h4, h5, h6, h7, h8, allN_true] <;> rfl)

theorem way16w_p (L : Nat → (St → T (Ex × St)) → St → T (Ex × St)) (n : Nat) (f : Nat → E6) (k : Int) : (finF (evalF tab ⟨callT tbX, L, Gl⟩ Try.f16 [edgesV n f, iV k] [])).path [true, false, true, false, false, true, false, true, true, true, false] = some ([(allN n (fun _ => Bool.true)), (ilt 128 (Int.ofNat n)), (mayN n f), (ilt k 1), (ilt 16 k), (ile 1 k), (bnot (ieq 0 0)), (band (ile 0 k) (ilt k (Int.ofNat ((toN k) + 1)))), (nlt (toN k) ((toN k) + 1)), (okU (wV n f (toN k))), (ile 9223372036854775808 (wV n f (toN k)))], ((.tup [(iV (wV n f (toN k))), (iV 0)]), [])) := by kernel_rfl
theorem way16w (L : Nat → (St → T (Ex × St)) → St → T (Ex × St)) (n : Nat) (f : Nat → E6) (k : Int) (h0 : ilt 128 (Int.ofNat n) = false) (h1 : mayN n f = true) (h2 : ilt k 1 = false) (h3 : ilt 16 k = false) (h4 : ile 1 k = true) (h5 : band (ile 0 k) (ilt k (Int.ofNat ((toN k) + 1))) = true) (h6 : nlt (toN k) ((toN k) + 1) = true) (h7 : okU (wV n f (toN k)) = true) (h8 : ile 9223372036854775808 (wV n f (toN k)) = false) : (finF (evalF tab ⟨callT tbX, L, Gl⟩ Try.f16 [edgesV n f, iV k] [])).sem = some ((.tup [(iV (wV n f (toN k))), (iV 0)]), []) := by
  exact sem_of_path (way16w_p L n f k) (by simp only [h0, h1, h2, h3, h4, h5, h6, h7, h8, allN_true] <;> rfl)

theorem okU_wV (n : Nat) (f : Nat → E6) (hn : n ≤ 128) (i : Nat) : okU (wV n f i) = true := by
  have hm : (m50 (matN n f 0) (matN n f 1) (matN n f 2) (matN n f 3)).ok = true := okA_mat n f hn
  unfold wV wA
  cases i with
  | zero => rfl
  | succ t =>
    have := M4.ok_iff.1 (powM_ok hm t)
    exact okU_plus this.1 this.2.2.2

/-- How many closed lists of k edges, or why not. -/
def walkR (n : Nat) (f : Nat → E6) (k : Int) : Int × Int :=
  sel (ilt 128 (Int.ofNat n)) (0, 2) (sel (mayN n f) (sel (ilt k 1) (0, 40) (sel (ilt 16 k) (0, 40) (sel (ile 9223372036854775808 (wV n f (toN k))) (0, 3) (wV n f (toN k), 0)))) (0, 30))

theorem walk16 (L : Nat → (St → T (Ex × St)) → St → T (Ex × St)) (n : Nat) (f : Nat → E6) (k : Int) : (finF (evalF tab ⟨callT tbX, L, Gl⟩ Try.f16 [edgesV n f, iV k] [])).sem = some (.tup [iV (walkR n f k).1, iV (walkR n f k).2], []) := by
  unfold walkR
  rcases many n with ⟨h1, _⟩ | ⟨h1, hn⟩
  · rw [h1]; exact way16f L n f k h1
  · rw [h1]
    cases hm : mayN n f with
    | false => exact way16e L n f k h1 hm
    | true =>
      cases h2 : ilt k 1 with
      | true => exact way16l L n f k h1 hm h2
      | false =>
        cases h3 : ilt 16 k with
        | true => exact way16g L n f k h1 hm h2 h3
        | false =>
          have h2' : 1 ≤ k := by simpa [ilt] using h2
          obtain ⟨j, rfl⟩ := Int.eq_ofNat_of_zero_le (show (0 : Int) ≤ k by omega)
          have h5 : band (ile 0 (Int.ofNat j)) (ilt (Int.ofNat j) (Int.ofNat ((toN (Int.ofNat j)) + 1))) = true := ofNat_in (Nat.lt_succ_self j)
          have h6 : nlt (toN (Int.ofNat j)) ((toN (Int.ofNat j)) + 1) = true := nlt_true (Nat.lt_succ_self j)
          cases h8 : ile 9223372036854775808 (wV n f (toN (Int.ofNat j))) with
          | true => exact way16m L n f _ h1 hm h2 h3 (le_true h2') h5 h6 (okU_wV n f hn _) h8
          | false => exact way16w L n f _ h1 hm h2 h3 (le_true h2') h5 h6 (okU_wV n f hn _) h8

end Go.Proofs.Ytdmjcpindopjdaa.Co
