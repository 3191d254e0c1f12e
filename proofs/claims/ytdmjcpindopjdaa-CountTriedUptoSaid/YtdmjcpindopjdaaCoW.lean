/-
  Layer 5: what all counts look at first. No conditions.
-/
import Derived.Test.YtdmjcpindopjdaaCoV
namespace Go.Proofs.Ytdmjcpindopjdaa.Co
open Go.Sy

def wA (a b c d : Int) (i : Nat) : Int := wG (m50 a b c d) i
def okA (a b c d : Int) : Bool := (m50 a b c d).ok

noncomputable def tbW : List (Nat × (List V → T (V × List Blk))) := [(12, matT), (50, walksT)]
theorem tbW_ok : AllPure Try.prog Gl tbW := .cons p12 <| .cons p50 .nil

theorem way34f_p (L : Nat → (St → T (Ex × St)) → St → T (Ex × St)) (n : Nat) (f : Nat → E6) (k q : Int) : (finF (evalF tab ⟨callT tbW, L, Gl⟩ Try.f34 [edgesV n f, iV k, iV q] [])).path [true, true, true] = some ([(allN n (fun _ => Bool.true)), (ilt 128 (Int.ofNat n)), (bnot (ieq 2 0))], ((.tup [(.ref 0), (iV 2)]), [(.row 54 1 0 (fun _ => .und))])) := by kernel_rfl
theorem way34f (L : Nat → (St → T (Ex × St)) → St → T (Ex × St)) (n : Nat) (f : Nat → E6) (k q : Int) (h0 : ilt 128 (Int.ofNat n) = true) : (finF (evalF tab ⟨callT tbW, L, Gl⟩ Try.f34 [edgesV n f, iV k, iV q] [])).sem = some ((.tup [(.ref 0), (iV 2)]), [(.row 54 1 0 (fun _ => .und))]) := by
  exact sem_of_path (way34f_p L n f k q) (by simp only [h0, allN_true] <;> rfl)

theorem way34e_p (L : Nat → (St → T (Ex × St)) → St → T (Ex × St)) (n : Nat) (f : Nat → E6) (k q : Int) : (finF (evalF tab ⟨callT tbW, L, Gl⟩ Try.f34 [edgesV n f, iV k, iV q] [])).path [true, false, false, true] = some ([(allN n (fun _ => Bool.true)), (ilt 128 (Int.ofNat n)), (mayN n f), (bnot (ieq 30 0))], ((.tup [(.ref 0), (iV 30)]), [(.row 54 1 0 (fun _ => .und))])) := by kernel_rfl
theorem way34e (L : Nat → (St → T (Ex × St)) → St → T (Ex × St)) (n : Nat) (f : Nat → E6) (k q : Int) (h0 : ilt 128 (Int.ofNat n) = false) (h1 : mayN n f = false) : (finF (evalF tab ⟨callT tbW, L, Gl⟩ Try.f34 [edgesV n f, iV k, iV q] [])).sem = some ((.tup [(.ref 0), (iV 30)]), [(.row 54 1 0 (fun _ => .und))]) := by
  exact sem_of_path (way34e_p L n f k q) (by simp only [h0, h1, allN_true] <;> rfl)

theorem way34l_p (L : Nat → (St → T (Ex × St)) → St → T (Ex × St)) (n : Nat) (f : Nat → E6) (k q : Int) : (finF (evalF tab ⟨callT tbW, L, Gl⟩ Try.f34 [edgesV n f, iV k, iV q] [])).path [true, false, true, false, true, true, true, true] = some ([(allN n (fun _ => Bool.true)), (ilt 128 (Int.ofNat n)), (mayN n f), (bnot (ieq 0 0)), (ilt k q), (ilt k q), (ilt k q), Bool.true], ((.tup [(.ref 0), (iV 40)]), [(.row 54 1 0 (fun _ => .und))])) := by kernel_rfl
theorem way34l (L : Nat → (St → T (Ex × St)) → St → T (Ex × St)) (n : Nat) (f : Nat → E6) (k q : Int) (h0 : ilt 128 (Int.ofNat n) = false) (h1 : mayN n f = true) (h2 : ilt k q = true) : (finF (evalF tab ⟨callT tbW, L, Gl⟩ Try.f34 [edgesV n f, iV k, iV q] [])).sem = some ((.tup [(.ref 0), (iV 40)]), [(.row 54 1 0 (fun _ => .und))]) := by
  exact sem_of_path (way34l_p L n f k q) (by simp only [h0, h1, h2, allN_true] <;> rfl)

theorem way34g_p (L : Nat → (St → T (Ex × St)) → St → T (Ex × St)) (n : Nat) (f : Nat → E6) (k q : Int) : (finF (evalF tab ⟨callT tbW, L, Gl⟩ Try.f34 [edgesV n f, iV k, iV q] [])).path [true, false, true, false, false, false, false, true] = some ([(allN n (fun _ => Bool.true)), (ilt 128 (Int.ofNat n)), (mayN n f), (bnot (ieq 0 0)), (ilt k q), (ilt k q), (ilt k q), (ilt 16 k)], ((.tup [(.ref 0), (iV 40)]), [(.row 54 1 0 (fun _ => .und))])) := by kernel_rfl
theorem way34g (L : Nat → (St → T (Ex × St)) → St → T (Ex × St)) (n : Nat) (f : Nat → E6) (k q : Int) (h0 : ilt 128 (Int.ofNat n) = false) (h1 : mayN n f = true) (h2 : ilt k q = false) (h3 : ilt 16 k = true) : (finF (evalF tab ⟨callT tbW, L, Gl⟩ Try.f34 [edgesV n f, iV k, iV q] [])).sem = some ((.tup [(.ref 0), (iV 40)]), [(.row 54 1 0 (fun _ => .und))]) := by
  exact sem_of_path (way34g_p L n f k q) (by simp only [h0, h1, h2, h3, allN_true] <;> rfl)

theorem way34w_p (L : Nat → (St → T (Ex × St)) → St → T (Ex × St)) (n : Nat) (f : Nat → E6) (k q : Int) : (finF (evalF tab ⟨callT tbW, L, Gl⟩ Try.f34 [edgesV n f, iV k, iV q] [])).path [true, false, true, false, false, false, false, false, true, true, true] = some ([(allN n (fun _ => Bool.true)), (ilt 128 (Int.ofNat n)), (mayN n f), (bnot (ieq 0 0)), (ilt k q), (ilt k q), (ilt k q), (ilt 16 k), (ile 1 k), (ile k 16), (okA (matN n f 0) (matN n f 1) (matN n f 2) (matN n f 3))], ((.tup [(.ref 0), (iV 0)]), [(.row 54 1 ((toN k) + 1) (fun i => (uV (wA (matN n f 0) (matN n f 1) (matN n f 2) (matN n f 3) i))))])) := by kernel_rfl
theorem way34w (L : Nat → (St → T (Ex × St)) → St → T (Ex × St)) (n : Nat) (f : Nat → E6) (k q : Int) (h0 : ilt 128 (Int.ofNat n) = false) (h1 : mayN n f = true) (h2 : ilt k q = false) (h3 : ilt 16 k = false) (h4 : ile 1 k = true) (h5 : ile k 16 = true) (h6 : okA (matN n f 0) (matN n f 1) (matN n f 2) (matN n f 3) = true) : (finF (evalF tab ⟨callT tbW, L, Gl⟩ Try.f34 [edgesV n f, iV k, iV q] [])).sem = some ((.tup [(.ref 0), (iV 0)]), [(.row 54 1 ((toN k) + 1) (fun i => (uV (wA (matN n f 0) (matN n f 1) (matN n f 2) (matN n f 3) i))))]) := by
  exact sem_of_path (way34w_p L n f k q) (by simp only [h0, h1, h2, h3, h4, h5, h6, allN_true] <;> rfl)

theorem okU_mat (n : Nat) (f : Nat → E6) (hn : n ≤ 128) (q : Nat) : okU (wr IntKind.u64 (matN n f q)) = true := by
  have h1 := cntL_le (onceR f n) q
  have h2 := onceR_len f n
  rw [okU_iff, wr_u]
  unfold matN
  have : Int.ofNat (cntL (onceR f n) q) % 18446744073709551616 = Int.ofNat (cntL (onceR f n) q) := by
    simp
    omega
  rw [this]
  simp
  omega

theorem okA_mat (n : Nat) (f : Nat → E6) (hn : n ≤ 128) : okA (matN n f 0) (matN n f 1) (matN n f 2) (matN n f 3) = true :=
  M4.ok_iff.2 ⟨okU_mat n f hn 0, okU_mat n f hn 1, okU_mat n f hn 2, okU_mat n f hn 3⟩

/-- The closed lists of a vocabulary by their length, up to 2^63. -/
def wV (n : Nat) (f : Nat → E6) (i : Nat) : Int := wA (matN n f 0) (matN n f 1) (matN n f 2) (matN n f 3) i

def noRow (e : Int) : T (V × List Blk) := .leaf (.tup [.ref 0, iV e], [.row 54 1 0 fun _ => .und])

def askT : List V → T (V × List Blk)
  | [v, u, t] => apL v fun n f => match gI u, gI t with
    | some k, some q => .br (ilt 128 (Int.ofNat n)) (noRow 2) (.br (mayN n f) (.br (ilt k q) (noRow 40) (.br (ilt 16 k) (noRow 40) (.br (ile 1 k) (.leaf (.tup [.ref 0, iV 0], [.row 54 1 (toN k + 1) fun i => uV (wV n f i)])) .fail))) (noRow 30))
    | _, _ => .fail
  | _ => .fail

theorem p34 : PureC Try.prog Gl 34 askT := by
  refine pureC_intro tabOK mixed Try.func34 (by kernel_rfl) (by kernel_rfl) fun vs v h' h => ?_
  unfold askT at h
  split at h
  · obtain ⟨n, f, ha, hq⟩ := apL_some h
    split at hq
    · rename_i u t _ _ k q hk hqq
      have hx := cx_ok tbW_ok []
      have hA : ArgLE [_, u, t] [edgesV n f, iV k, iV q] := fun S w cs hv => by
        obtain ⟨c, l, rfl, q1, c', l', rfl, q2, c2, l2, rfl, q3, q4⟩ := hv
        rw [gI_some hk] at q2
        rw [gI_some hqq] at q3
        exact ⟨c, _, rfl, ha S w c q1, c', _, rfl, q2, c2, l2, rfl, q3, q4⟩
      refine ⟨_, cxOf Gl tbW [], h', hA, rfl, hx.1, hx.2, ?_, RowsLE.refl _⟩
      rcases many n with ⟨h1, _⟩ | ⟨h1, hn⟩
      · rw [h1] at hq
        rw [sem_leaf hq]
        exact way34f _ n f k q h1
      · rw [h1] at hq
        cases hm : mayN n f with
        | false =>
          rw [hm] at hq
          rw [sem_leaf hq]
          exact way34e _ n f k q h1 hm
        | true =>
          rw [hm] at hq
          cases h2 : ilt k q with
          | true =>
            rw [h2] at hq
            rw [sem_leaf hq]
            exact way34l _ n f k q h1 hm h2
          | false =>
            rw [h2] at hq
            cases h3 : ilt 16 k with
            | true =>
              rw [h3] at hq
              rw [sem_leaf hq]
              exact way34g _ n f k q h1 hm h2 h3
            | false =>
              rw [h3] at hq
              obtain ⟨h4, hq⟩ := sem_br_fail hq
              rw [sem_leaf hq]
              have h5 : ile k 16 = true := le_true (by simpa [ilt] using h3)
              exact way34w _ n f k q h1 hm h2 h3 h4 h5 (okA_mat n f hn)
    · cases hq
  · cases h

end Go.Proofs.Ytdmjcpindopjdaa.Co
