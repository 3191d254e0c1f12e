/-
  Layer 5, the document's side: classes and words, of a vocabulary. No conditions.
-/
import Derived.Test.YtdmjcpindopjdaaCoVh
namespace Go.Proofs.Ytdmjcpindopjdaa.Co
open Go.Sy

def gate1 (n : Nat) (f : Nat → E6) (k x : Int) : Int := (gateR n f k x).1
def gate2 (n : Nat) (f : Nat → E6) (k x : Int) : Int := (gateR n f k x).2

/-- Why nothing comes out does not hang on what would come out. -/
theorem gate_cases (n : Nat) (f : Nat → E6) (k : Int) : (∃ e : Int, e ≠ 0 ∧ ∀ x, gateR n f k x = (0, e)) ∨ ((∀ x, gateR n f k x = (x, 0)) ∧ ilt 128 (Int.ofNat n) = false ∧ n ≤ 128 ∧ mayN n f = true ∧ 1 ≤ k ∧ k ≤ 16 ∧ cl05 n f (toN k) < 9223372036854775808) := by
  unfold gateR
  rcases many n with ⟨h1, _⟩ | ⟨h1, hn⟩
  · rw [h1]; exact .inl ⟨2, by decide, fun _ => rfl⟩
  · rw [h1]
    cases mayN n f with
    | false => exact .inl ⟨30, by decide, fun _ => rfl⟩
    | true =>
      cases h2 : ilt k 1 with
      | true => exact .inl ⟨40, by decide, fun _ => rfl⟩
      | false =>
        cases h3 : ilt 16 k with
        | true => exact .inl ⟨40, by decide, fun _ => rfl⟩
        | false =>
          cases h9 : ile 9223372036854775808 (cl05 n f (toN k)) with
          | true => exact .inl ⟨3, by decide, fun _ => rfl⟩
          | false => exact .inr ⟨fun _ => rfl, rfl, hn, rfl, by simpa [ilt] using h2, by simpa [ilt] using h3, by have := of_decide_eq_false h9; omega⟩

noncomputable def tb30 : List (Nat × (List V → T (V × List Blk))) := [(18, gateT fun n f k => cl05 n f k), (13, matT), (44, wordT 16)]
theorem tb30_ok : AllPure Try.prog Gl tb30 := .cons p18c <| .cons p13 <| .cons p44c .nil

theorem wc30e_p (L : Nat → (St → T (Ex × St)) → St → T (Ex × St)) (n : Nat) (f : Nat → E6) (k : Int) : (finF (evalF tab ⟨callT tb30, L, Gl⟩ Try.f30 [edgesV n f, iV k] [])).path [true, true] = some ([(allN n (fun _ => Bool.true)), (bnot (ieq (gate2 n f k (cl05 n f (toN k))) 0))], ((.tup [(iV 0), (iV (gate2 n f k (cl05 n f (toN k))))]), [])) := by kernel_rfl
theorem wc30e (L : Nat → (St → T (Ex × St)) → St → T (Ex × St)) (n : Nat) (f : Nat → E6) (k : Int) (h0 : ieq (gate2 n f k (cl05 n f (toN k))) 0 = false) : (finF (evalF tab ⟨callT tb30, L, Gl⟩ Try.f30 [edgesV n f, iV k] [])).sem = some ((.tup [(iV 0), (iV (gate2 n f k (cl05 n f (toN k))))]), []) := by
  exact sem_of_path (wc30e_p L n f k) (by simp only [h0, allN_true] <;> rfl)

theorem wc30w_p (L : Nat → (St → T (Ex × St)) → St → T (Ex × St)) (n : Nat) (f : Nat → E6) (k : Int) : (finF (evalF tab ⟨callT tb30, L, Gl⟩ Try.f30 [edgesV n f, iV k] [])).path [true, false, true, false, true, true, true, true, true] = some ([(allN n (fun _ => Bool.true)), (bnot (ieq (gate2 n f k (cl05 n f (toN k))) 0)), (allN n (fun _ => Bool.true)), (ilt 128 (Int.ofNat n)), (mayN n f), (ile 1 k), (ile k 16), (okQ (matN n f 0) (matN n f 1) (matN n f 2) (matN n f 3)), (rOK (matN n f 0) (matN n f 1) (matN n f 2) (matN n f 3) (toN k))], ((.tup [(iV (wrR (matN n f 0) (matN n f 1) (matN n f 2) (matN n f 3) (toN k))), (iV 0)]), [])) := by kernel_rfl
theorem wc30w (L : Nat → (St → T (Ex × St)) → St → T (Ex × St)) (n : Nat) (f : Nat → E6) (k : Int) (h0 : ieq (gate2 n f k (cl05 n f (toN k))) 0 = true) (h1 : ilt 128 (Int.ofNat n) = false) (h2 : mayN n f = true) (h17 : ile 1 k = true) (h18 : ile k 16 = true) (h19 : okQ (matN n f 0) (matN n f 1) (matN n f 2) (matN n f 3) = true) (h20 : rOK (matN n f 0) (matN n f 1) (matN n f 2) (matN n f 3) (toN k) = true) : (finF (evalF tab ⟨callT tb30, L, Gl⟩ Try.f30 [edgesV n f, iV k] [])).sem = some ((.tup [(iV (wrR (matN n f 0) (matN n f 1) (matN n f 2) (matN n f 3) (toN k))), (iV 0)]), []) := by
  exact sem_of_path (wc30w_p L n f k) (by simp only [h0, h1, h2, h17, h18, h19, h20, allN_true] <;> rfl)
theorem wc28e_p (L : Nat → (St → T (Ex × St)) → St → T (Ex × St)) (n : Nat) (f : Nat → E6) (k : Int) : (finF (evalF tab ⟨callT tb30, L, Gl⟩ Try.f28 [edgesV n f, iV k] [])).path [true, true] = some ([(allN n (fun _ => Bool.true)), (bnot (ieq (gate2 n f k (cl05 n f (toN k))) 0))], ((.tup [(iV 0), (iV (gate2 n f k (cl05 n f (toN k))))]), [])) := by kernel_rfl
theorem wc28e (L : Nat → (St → T (Ex × St)) → St → T (Ex × St)) (n : Nat) (f : Nat → E6) (k : Int) (h0 : ieq (gate2 n f k (cl05 n f (toN k))) 0 = false) : (finF (evalF tab ⟨callT tb30, L, Gl⟩ Try.f28 [edgesV n f, iV k] [])).sem = some ((.tup [(iV 0), (iV (gate2 n f k (cl05 n f (toN k))))]), []) := by
  exact sem_of_path (wc28e_p L n f k) (by simp only [h0, allN_true] <;> rfl)

def lp28c (n : Nat) (f : Nat → E6) (k : Int) : Lp := ⟨[false, true, false, false, false, false, false, false, true, false, true, true, false, false, false, false, false, false, false, false, false, false, false, false, false, false, false, false, false, false, false, false, false, false, false, false, false, false, false, false, false], 1, [false, false, false, false, false, false, false, false, false, false, true, false, false, false, false, false, false, false, false, false, false, false, false, false, false, false, false, false, false, false, false, false, false, false, false, false, false, false, false, false, false], 0, toN k + 1⟩
def st28c (n : Nat) (f : Nat → E6) (k : Int) (s i : Int) (j : Nat → V) : St := ⟨[j 0, iV k, j 2, j 3, j 4, j 5, j 6, j 7, .ptr 0 0, j 9, iV s, iV i, j 12, j 13, j 14, j 15, j 16, j 17, j 18, j 19, j 20, j 21, j 22, j 23, j 24, j 25, j 26, j 27, j 28, j 29, j 30, j 31, j 32, j 33, j 34, j 35, j 36, j 37, j 38, j 39, j 40], [.cells [iV (matN n f 0), iV (matN n f 1), iV (matN n f 2), iV (matN n f 3)]]⟩
def en28ca (n : Nat) (f : Nat → E6) (k : Int) (s i : Int) : Ex × St := (.ex 0, ⟨[.und, .und, .und, .und, .und, .und, .und, .und, .und, .und, iV s, .und, .und, .und, .und, .und, .und, .und, .und, .und, .und, .und, .und, .und, .und, .und, .und, .und, .und, .und, .und, .und, .und, .und, .und, .und, .und, .und, .und, .und, .und], []⟩)
noncomputable def body28c (L : Nat → (St → T (Ex × St)) → St → T (Ex × St)) : St → T (Ex × St) := fun st => evalC tab ⟨callT tb30, L, Gl⟩ (loopBody Try.f28 0) 0 st
theorem rc28a_p (L : Nat → (St → T (Ex × St)) → St → T (Ex × St)) (n : Nat) (f : Nat → E6) (k : Int) (s i : Int)  (j : Nat → V) : ((body28c L (st28c n f k s i j)).bind fun r => T.leaf (cutR (lp28c n f k) r)).path [false] = some ([(ile i k)], ((.ex 0), ⟨[.und, .und, .und, .und, .und, .und, .und, .und, .und, .und, (iV s), .und, .und, .und, .und, .und, .und, .und, .und, .und, .und, .und, .und, .und, .und, .und, .und, .und, .und, .und, .und, .und, .und, .und, .und, .und, .und, .und, .und, .und, .und], []⟩)) := by kernel_rfl
theorem rc28a (L : Nat → (St → T (Ex × St)) → St → T (Ex × St)) (n : Nat) (f : Nat → E6) (k : Int) (s i : Int)  (j : Nat → V) (h0 : ile i k = false) : ((body28c L (st28c n f k s i j)).bind fun r => T.leaf (cutR (lp28c n f k) r)).sem = some ((.ex 0), ⟨[.und, .und, .und, .und, .und, .und, .und, .und, .und, .und, (iV s), .und, .und, .und, .und, .und, .und, .und, .und, .und, .und, .und, .und, .und, .und, .und, .und, .und, .und, .und, .und, .und, .und, .und, .und, .und, .und, .und, .und, .und, .und], []⟩) := by
  exact sem_of_path (rc28a_p L n f k s i j) (by simp only [h0] <;> rfl)
theorem rc28s_p (L : Nat → (St → T (Ex × St)) → St → T (Ex × St)) (n : Nat) (f : Nat → E6) (k : Int) (s i : Int)  (j : Nat → V) : ((body28c L (st28c n f k s i j)).bind fun r => T.leaf (cutR (lp28c n f k) r)).path [true, false, false] = some ([(ile i k), (ieq i 0), (ieq (itmod k i) 0)], (.nm, ⟨[.und, (iV k), .und, .und, .und, .und, .und, .und, (.ptr 0 0), .und, (iV s), (iV (wr IntKind.i64 (iadd i 1))), .und, .und, .und, .und, .und, .und, .und, .und, .und, .und, .und, .und, .und, .und, .und, .und, .und, .und, .und, .und, .und, .und, .und, .und, .und, .und, .und, .und, .und], [(.cells [(iV (matN n f 0)), (iV (matN n f 1)), (iV (matN n f 2)), (iV (matN n f 3))])]⟩)) := by kernel_rfl
theorem rc28s (L : Nat → (St → T (Ex × St)) → St → T (Ex × St)) (n : Nat) (f : Nat → E6) (k : Int) (s i : Int)  (j : Nat → V) (h0 : ile i k = true) (h1 : ieq i 0 = false) (h2 : ieq (itmod k i) 0 = false) : ((body28c L (st28c n f k s i j)).bind fun r => T.leaf (cutR (lp28c n f k) r)).sem = some (.nm, ⟨[.und, (iV k), .und, .und, .und, .und, .und, .und, (.ptr 0 0), .und, (iV s), (iV (wr IntKind.i64 (iadd i 1))), .und, .und, .und, .und, .und, .und, .und, .und, .und, .und, .und, .und, .und, .und, .und, .und, .und, .und, .und, .und, .und, .und, .und, .und, .und, .und, .und, .und, .und], [(.cells [(iV (matN n f 0)), (iV (matN n f 1)), (iV (matN n f 2)), (iV (matN n f 3))])]⟩) := by
  exact sem_of_path (rc28s_p L n f k s i j) (by simp only [h0, h1, h2] <;> rfl)
theorem rc28t_p (L : Nat → (St → T (Ex × St)) → St → T (Ex × St)) (n : Nat) (f : Nat → E6) (k : Int) (s i : Int)  (j : Nat → V) : ((body28c L (st28c n f k s i j)).bind fun r => T.leaf (cutR (lp28c n f k) r)).path [true, false, true, true, true, true, true] = some ([(ile i k), (ieq i 0), (ieq (itmod k i) 0), (ile 1 i), (ile i 16), (okQ (matN n f 0) (matN n f 1) (matN n f 2) (matN n f 3)), (rOK (matN n f 0) (matN n f 1) (matN n f 2) (matN n f 3) (toN i))], (.nm, ⟨[.und, (iV k), .und, .und, .und, .und, .und, .und, (.ptr 0 0), .und, (iV (wr IntKind.i64 (iadd s (wrR (matN n f 0) (matN n f 1) (matN n f 2) (matN n f 3) (toN i))))), (iV (wr IntKind.i64 (iadd i 1))), .und, .und, .und, .und, .und, .und, .und, .und, .und, .und, .und, .und, .und, .und, .und, .und, .und, .und, .und, .und, .und, .und, .und, .und, .und, .und, .und, .und, .und], [(.cells [(iV (matN n f 0)), (iV (matN n f 1)), (iV (matN n f 2)), (iV (matN n f 3))])]⟩)) := by kernel_rfl
theorem rc28t (L : Nat → (St → T (Ex × St)) → St → T (Ex × St)) (n : Nat) (f : Nat → E6) (k : Int) (s i : Int)  (j : Nat → V) (h0 : ile i k = true) (h1 : ieq i 0 = false) (h2 : ieq (itmod k i) 0 = true) (h17 : ile 1 i = true) (h18 : ile i 16 = true) (h19 : okQ (matN n f 0) (matN n f 1) (matN n f 2) (matN n f 3) = true) (h20 : rOK (matN n f 0) (matN n f 1) (matN n f 2) (matN n f 3) (toN i) = true) : ((body28c L (st28c n f k s i j)).bind fun r => T.leaf (cutR (lp28c n f k) r)).sem = some (.nm, ⟨[.und, (iV k), .und, .und, .und, .und, .und, .und, (.ptr 0 0), .und, (iV (wr IntKind.i64 (iadd s (wrR (matN n f 0) (matN n f 1) (matN n f 2) (matN n f 3) (toN i))))), (iV (wr IntKind.i64 (iadd i 1))), .und, .und, .und, .und, .und, .und, .und, .und, .und, .und, .und, .und, .und, .und, .und, .und, .und, .und, .und, .und, .und, .und, .und, .und, .und, .und, .und, .und, .und], [(.cells [(iV (matN n f 0)), (iV (matN n f 1)), (iV (matN n f 2)), (iV (matN n f 3))])]⟩) := by
  exact sem_of_path (rc28t_p L n f k s i j) (by simp only [h0, h1, h2, h17, h18, h19, h20] <;> rfl)
def jk28c (n : Nat) (f : Nat → E6) (k : Int)  : Nat → V
  | 0 => (.sl 6 n (fun i => (eV (f i))))
  | 4 => (iV 0)
  | 5 => (iV 0)
  | 6 => (iV (gate1 n f k (cl05 n f (toN k))))
  | 7 => (iV (gate2 n f k (cl05 n f (toN k))))
  | 9 => (iV 0)
  | 12 => (.tup [(iV (gate1 n f k (cl05 n f (toN k)))), (iV (gate2 n f k (cl05 n f (toN k))))])
  | 13 => (.sl 6 n (fun i => (eV (f i))))
  | 14 => (iV k)
  | 15 => (.tup [(iV (gate1 n f k (cl05 n f (toN k)))), (iV (gate2 n f k (cl05 n f (toN k))))])
  | 16 => (iV (gate1 n f k (cl05 n f (toN k))))
  | 17 => (iV (gate2 n f k (cl05 n f (toN k))))
  | 18 => (iV (gate2 n f k (cl05 n f (toN k))))
  | 19 => (bV (bnot (ieq (gate2 n f k (cl05 n f (toN k))) 0)))
  | 21 => (.tup [(.agg [(iV (matN n f 0)), (iV (matN n f 1)), (iV (matN n f 2)), (iV (matN n f 3))]), (iV 0)])
  | 22 => (.sl 6 n (fun i => (eV (f i))))
  | 23 => (.tup [(.agg [(iV (matN n f 0)), (iV (matN n f 1)), (iV (matN n f 2)), (iV (matN n f 3))]), (iV 0)])
  | 24 => (.agg [(iV (matN n f 0)), (iV (matN n f 1)), (iV (matN n f 2)), (iV (matN n f 3))])
  | 25 => (iV 0)
  | _ => undefV

theorem wc28w_p (L : Nat → (St → T (Ex × St)) → St → T (Ex × St)) (p0 : (St → T (Ex × St)) → St → Bool) (n : Nat) (f : Nat → E6) (k : Int) (s i : Int) : (finF (evalF tab ⟨callT tb30, (onP 0 p0 (en28ca n f k s i) L), Gl⟩ Try.f28 [edgesV n f, iV k] [])).path [true, false, true, false, true, true] = some ([(allN n (fun _ => Bool.true)), (bnot (ieq (gate2 n f k (cl05 n f (toN k))) 0)), (allN n (fun _ => Bool.true)), (ilt 128 (Int.ofNat n)), (mayN n f), (p0 (body28c (onP 0 p0 (en28ca n f k s i) L)) (st28c n f k 0 1 (jk28c n f k )))], ((.tup [(iV s), (iV 0)]), [])) := by kernel_rfl
theorem wc28w (L : Nat → (St → T (Ex × St)) → St → T (Ex × St)) (p0 : (St → T (Ex × St)) → St → Bool) (n : Nat) (f : Nat → E6) (k : Int) (s i : Int) (h0 : ieq (gate2 n f k (cl05 n f (toN k))) 0 = true) (h1 : ilt 128 (Int.ofNat n) = false) (h2 : mayN n f = true) (hp0 : p0 (body28c (onP 0 p0 (en28ca n f k s i) L)) (st28c n f k 0 1 (jk28c n f k )) = true) : (finF (evalF tab ⟨callT tb30, (onP 0 p0 (en28ca n f k s i) L), Gl⟩ Try.f28 [edgesV n f, iV k] [])).sem = some ((.tup [(iV s), (iV 0)]), []) := by
  exact sem_of_path (wc28w_p L p0 n f k s i) (by simp only [h0, h1, h2, hp0, allN_true] <;> rfl)


theorem wrR_mat (n : Nat) (f : Nat → E6) (k : Nat) : wrR (matN n f 0) (matN n f 1) (matN n f 2) (matN n f 3) k = wrdN (cl05 n f) k := rfl

theorem p30c : PureC Try.prog Gl 30 (gateT fun n f k => wrdN (cl05 n f) k) := by
  refine pureC_intro tabOK mixed Try.func30 (by kernel_rfl) (by kernel_rfl) fun vs v h' h => ?_
  obtain ⟨n, f, k, hA, hr⟩ := gateT_some h
  simp only [Prod.mk.injEq] at hr
  obtain ⟨rfl, rfl⟩ := hr
  have hx := cx_ok tb30_ok []
  refine ⟨_, cxOf Gl tb30 [], _, hA, rfl, hx.1, hx.2, ?_, RowsLE.refl _⟩
  rcases gate_cases n f k with ⟨e, he, hg⟩ | ⟨hg, h1, hn, hm, h2, h3, h4⟩
  · have hw := wc30e (loopsBy []) n f k (by unfold gate2; rw [hg]; exact ieq_false he)
    unfold gate2 at hw
    rw [hg] at hw ⊢
    exact hw
  · rw [hg]
    have hr : rOK (matN n f 0) (matN n f 1) (matN n f 2) (matN n f 3) (toN k) = true := decide_eq_true (show cl05 n f (toN k) ≤ 9223372036854775807 by omega)
    exact wc30w (loopsBy []) n f k (by unfold gate2; rw [hg]; rfl) h1 hm (le_true h2) (le_true h3) (okQ_mat n f hn) hr

set_option maxHeartbeats 2000000 in
theorem run28 (L : Nat → (St → T (Ex × St)) → St → T (Ex × St)) (n : Nat) (f : Nat → E6) (hn : n ≤ 128) (k : Nat) (h1 : 1 ≤ k) (hk : k ≤ 16) (hs : cl05 n f k < 9223372036854775808) : ∀ (e i : Nat) (j : Nat → V) (q : Nat), k = i + e → e < q →
    (iterT (body28c L) (lp28c n f (Int.ofNat k)) q (st28c n f (Int.ofNat k) (sum1 (wrdN (cl05 n f)) k i) (Int.ofNat (i + 1)) j)).sem = some (en28ca n f (Int.ofNat k) (cls05 n f k) 0)
  | 0, i, j, q + 1, h, _ => by
    have : k = i := by omega
    subst this
    exact iter_round (rc28a L n f _ _ _ j (ofNat_gt (by omega)))
  | e + 1, i, j, q + 1, h, h2 => by
    have hz : ieq (Int.ofNat (i + 1)) 0 = false := ieq_false (by simp; omega)
    by_cases hd : k % (i + 1) = 0
    · have hW : ∀ e, 1 ≤ e → e ≤ k → k % e = 0 → 0 ≤ wrdN (cl05 n f) e := fun e e1 e2 _ => wrd_nonneg (natM n f) e e1 (by omega)
      have hcl : cl05 n f (i + 1) ≤ cl05 n f k := cl_dvd (natM n f) k (i + 1) h1 hk hd (by omega) (by omega)
      have hr : rOK (matN n f 0) (matN n f 1) (matN n f 2) (matN n f 3) (toN (Int.ofNat (i + 1))) = true := decide_eq_true (show cl05 n f (i + 1) ≤ 9223372036854775807 by omega)
      have hb := sum1_le (wrdN (cl05 n f)) k hW (i + 1) (by omega)
      have hup := sumW_mono (wrdN (cl05 n f)) k hW (k - (i + 1)) (i + 1) (by omega)
      rw [show i + 1 + (k - (i + 1)) = k by omega, sumW_all (cl05 n f) k h1 hk fun e e1 e2 _ => wrd_mul (natM n f) e e1 (by omega)] at hup
      have hsum : sum1 (wrdN (cl05 n f)) k (i + 1) = sum1 (wrdN (cl05 n f)) k i + wrdN (cl05 n f) (i + 1) := by rw [sum1, if_pos hd]
      rw [iter_round (rc28t L n f (Int.ofNat k) _ (Int.ofNat (i + 1)) j (ofNat_le (by omega)) hz (by rw [ieq_mod]; exact decide_eq_true hd) (le_true (by simp; omega)) (le_true (by simp; omega)) (okQ_mat n f hn) hr), goOn_nm,
        show toN (Int.ofNat (i + 1)) = i + 1 from rfl, succ_wr (show i + 1 < k + 1 by omega) (by omega), wrR_mat]
      have es : wr IntKind.i64 (iadd (sum1 (wrdN (cl05 n f)) k i) (wrdN (cl05 n f) (i + 1))) = sum1 (wrdN (cl05 n f)) k (i + 1) := by
        rw [hsum] at hb ⊢
        exact wr_i _ (by unfold iadd; omega) (by unfold iadd; omega)
      rw [es]
      exact run28 L n f hn k h1 hk hs e (i + 1) (fun _ => .und) q (by omega) (by omega)
    · rw [iter_round (rc28s L n f (Int.ofNat k) _ (Int.ofNat (i + 1)) j (ofNat_le (by omega)) hz (by rw [ieq_mod]; exact decide_eq_false hd)), goOn_nm, succ_wr (show i + 1 < k + 1 by omega) (by omega),
        show sum1 (wrdN (cl05 n f)) k i = sum1 (wrdN (cl05 n f)) k (i + 1) by rw [sum1, if_neg hd]]
      exact run28 L n f hn k h1 hk hs e (i + 1) (fun _ => .und) q (by omega) (by omega)

theorem p28c : PureC Try.prog Gl 28 (gateT fun n f k => cls05 n f k) := by
  refine pureC_intro tabOK mixed Try.func28 (by kernel_rfl) (by kernel_rfl) fun vs v h' h => ?_
  obtain ⟨n, f, k, hA, hr⟩ := gateT_some h
  simp only [Prod.mk.injEq] at hr
  obtain ⟨rfl, rfl⟩ := hr
  have hx := cx_ok tb30_ok [(0, lp28c n f k)]
  have hL := loopsBy_le [(0, lp28c n f k)]
  refine ⟨_, cxOf Gl tb30 [(0, lp28c n f k)], _, hA, rfl, hx.1, hx.2, ?_, RowsLE.refl _⟩
  rcases gate_cases n f k with ⟨e, he, hg⟩ | ⟨hg, h1, hn, hm, h2, h3, h4⟩
  · have hw := wc28e (loopsBy [(0, lp28c n f k)]) n f k (by unfold gate2; rw [hg]; exact ieq_false he)
    unfold gate2 at hw
    rw [hg] at hw ⊢
    exact hw
  · rw [hg]
    obtain ⟨j, rfl⟩ := Int.eq_ofNat_of_zero_le (show (0 : Int) ≤ k by omega)
    exact told_le (onP_le hL hL) _ (wc28w _ _ n f _ _ 0 (by unfold gate2; rw [hg]; rfl) h1 hm (isP_true (run28 _ n f hn j (by omega) (by omega) h4 j 0 _ (j + 1) (by omega) (by omega))))

/-! ### Up to a length -/

noncomputable def tb22 : List (Nat × (List V → T (V × List Blk))) := [(32, vocT), (28, gateT fun n f k => cls05 n f k), (40, ggT fun x y => .tup [iV (topI (x + y)), bV (okT (x + y))])]
theorem tb22_ok : AllPure Try.prog Gl tb22 := .cons p32 <| .cons p28c <| .cons p40 .nil

theorem wc22f_p (L : Nat → (St → T (Ex × St)) → St → T (Ex × St)) (n : Nat) (f : Nat → E6) (k : Int) : (finF (evalF tab ⟨callT tb22, L, Gl⟩ Try.f22 [edgesV n f, iV k] [])).path [true, true, true] = some ([(allN n (fun _ => Bool.true)), (ilt 128 (Int.ofNat n)), (bnot (ieq 2 0))], ((.tup [(iV 0), (iV 2)]), [])) := by kernel_rfl
theorem wc22f (L : Nat → (St → T (Ex × St)) → St → T (Ex × St)) (n : Nat) (f : Nat → E6) (k : Int) (h0 : ilt 128 (Int.ofNat n) = true) : (finF (evalF tab ⟨callT tb22, L, Gl⟩ Try.f22 [edgesV n f, iV k] [])).sem = some ((.tup [(iV 0), (iV 2)]), []) := by
  exact sem_of_path (wc22f_p L n f k) (by simp only [h0, allN_true] <;> rfl)

theorem wc22e_p (L : Nat → (St → T (Ex × St)) → St → T (Ex × St)) (n : Nat) (f : Nat → E6) (k : Int) : (finF (evalF tab ⟨callT tb22, L, Gl⟩ Try.f22 [edgesV n f, iV k] [])).path [true, false, false, true] = some ([(allN n (fun _ => Bool.true)), (ilt 128 (Int.ofNat n)), (mayN n f), (bnot (ieq 30 0))], ((.tup [(iV 0), (iV 30)]), [])) := by kernel_rfl
theorem wc22e (L : Nat → (St → T (Ex × St)) → St → T (Ex × St)) (n : Nat) (f : Nat → E6) (k : Int) (h0 : ilt 128 (Int.ofNat n) = false) (h1 : mayN n f = false) : (finF (evalF tab ⟨callT tb22, L, Gl⟩ Try.f22 [edgesV n f, iV k] [])).sem = some ((.tup [(iV 0), (iV 30)]), []) := by
  exact sem_of_path (wc22e_p L n f k) (by simp only [h0, h1, allN_true] <;> rfl)

theorem wc22l_p (L : Nat → (St → T (Ex × St)) → St → T (Ex × St)) (n : Nat) (f : Nat → E6) (k : Int) : (finF (evalF tab ⟨callT tb22, L, Gl⟩ Try.f22 [edgesV n f, iV k] [])).path [true, false, true, false, true, true, true, true] = some ([(allN n (fun _ => Bool.true)), (ilt 128 (Int.ofNat n)), (mayN n f), (bnot (ieq 0 0)), (ilt k 2), (ilt k 2), (ilt k 2), Bool.true], ((.tup [(iV 0), (iV 40)]), [])) := by kernel_rfl
theorem wc22l (L : Nat → (St → T (Ex × St)) → St → T (Ex × St)) (n : Nat) (f : Nat → E6) (k : Int) (h0 : ilt 128 (Int.ofNat n) = false) (h1 : mayN n f = true) (h2 : ilt k 2 = true) : (finF (evalF tab ⟨callT tb22, L, Gl⟩ Try.f22 [edgesV n f, iV k] [])).sem = some ((.tup [(iV 0), (iV 40)]), []) := by
  exact sem_of_path (wc22l_p L n f k) (by simp only [h0, h1, h2, allN_true] <;> rfl)

theorem wc22g_p (L : Nat → (St → T (Ex × St)) → St → T (Ex × St)) (n : Nat) (f : Nat → E6) (k : Int) : (finF (evalF tab ⟨callT tb22, L, Gl⟩ Try.f22 [edgesV n f, iV k] [])).path [true, false, true, false, false, false, false, true] = some ([(allN n (fun _ => Bool.true)), (ilt 128 (Int.ofNat n)), (mayN n f), (bnot (ieq 0 0)), (ilt k 2), (ilt k 2), (ilt k 2), (ilt 16 k)], ((.tup [(iV 0), (iV 40)]), [])) := by kernel_rfl
theorem wc22g (L : Nat → (St → T (Ex × St)) → St → T (Ex × St)) (n : Nat) (f : Nat → E6) (k : Int) (h0 : ilt 128 (Int.ofNat n) = false) (h1 : mayN n f = true) (h2 : ilt k 2 = false) (h3 : ilt 16 k = true) : (finF (evalF tab ⟨callT tb22, L, Gl⟩ Try.f22 [edgesV n f, iV k] [])).sem = some ((.tup [(iV 0), (iV 40)]), []) := by
  exact sem_of_path (wc22g_p L n f k) (by simp only [h0, h1, h2, h3, allN_true] <;> rfl)

def lp22c (n : Nat) (f : Nat → E6) (k : Int) : Lp := ⟨[true, true, false, false, true, true, false, true, true, false, false, false, false, false, false, false, false, false, false, false, false, false, false, false, false, false, false, false, false, false, false, false, false, false, false, false, false, false, false, false, false, false, false, false, false, false, false, false], 0, [false, false, false, false, true, true, false, true, false, false, false, false, false, false, false, false, false, false, false, false, false, false, false, false, false, false, false, false, false, false, false, false, false, false, false, false, false, false, false, false, false, false, false, false, false, false, false, false], 0, toN k + 1⟩
def st22c (n : Nat) (f : Nat → E6) (k : Int) (s i g : Int) (j : Nat → V) : St := ⟨[.sl 6 n (fun i => (eV (f i))), iV k, j 2, j 3, iV 0, iV 0, j 6, iV s, iV i, j 9, j 10, j 11, j 12, j 13, j 14, j 15, j 16, j 17, j 18, j 19, j 20, j 21, j 22, j 23, j 24, j 25, j 26, j 27, j 28, j 29, j 30, j 31, j 32, j 33, j 34, j 35, j 36, j 37, j 38, j 39, j 40, j 41, j 42, j 43, j 44, j 45, j 46, j 47], []⟩
def en22ca (n : Nat) (f : Nat → E6) (k : Int) (s i g : Int) : Ex × St := (.ex 0, ⟨[.und, .und, .und, .und, iV 0, iV 0, .und, iV s, .und, .und, .und, .und, .und, .und, .und, .und, .und, .und, .und, .und, .und, .und, .und, .und, .und, .und, .und, .und, .und, .und, .und, .und, .und, .und, .und, .und, .und, .und, .und, .und, .und, .und, .und, .und, .und, .und, .und, .und], []⟩)
def en22cr (n : Nat) (f : Nat → E6) (k : Int) (s i g : Int) : Ex × St := (.rt, ⟨[.und, .und, .und, .und, iV 0, iV g, .und, iV s, .und, .und, .und, .und, .und, .und, .und, .und, .und, .und, .und, .und, .und, .und, .und, .und, .und, .und, .und, .und, .und, .und, .und, .und, .und, .und, .und, .und, .und, .und, .und, .und, .und, .und, .und, .und, .und, .und, .und, .und], []⟩)
noncomputable def body22c (L : Nat → (St → T (Ex × St)) → St → T (Ex × St)) : St → T (Ex × St) := fun st => evalC tab ⟨callT tb22, L, Gl⟩ (loopBody Try.f22 0) 0 st
theorem rc22a_p (L : Nat → (St → T (Ex × St)) → St → T (Ex × St)) (n : Nat) (f : Nat → E6) (k : Int) (s i g : Int)  (j : Nat → V) : ((body22c L (st22c n f k s i g j)).bind fun r => T.leaf (cutR (lp22c n f k) r)).path [false] = some ([(ile i k)], ((.ex 0), ⟨[.und, .und, .und, .und, (iV 0), (iV 0), .und, (iV s), .und, .und, .und, .und, .und, .und, .und, .und, .und, .und, .und, .und, .und, .und, .und, .und, .und, .und, .und, .und, .und, .und, .und, .und, .und, .und, .und, .und, .und, .und, .und, .und, .und, .und, .und, .und, .und, .und, .und, .und], []⟩)) := by kernel_rfl
theorem rc22a (L : Nat → (St → T (Ex × St)) → St → T (Ex × St)) (n : Nat) (f : Nat → E6) (k : Int) (s i g : Int)  (j : Nat → V) (h0 : ile i k = false) : ((body22c L (st22c n f k s i g j)).bind fun r => T.leaf (cutR (lp22c n f k) r)).sem = some ((.ex 0), ⟨[.und, .und, .und, .und, (iV 0), (iV 0), .und, (iV s), .und, .und, .und, .und, .und, .und, .und, .und, .und, .und, .und, .und, .und, .und, .und, .und, .und, .und, .und, .und, .und, .und, .und, .und, .und, .und, .und, .und, .und, .und, .und, .und, .und, .und, .und, .und, .und, .und, .und, .und], []⟩) := by
  exact sem_of_path (rc22a_p L n f k s i g j) (by simp only [h0] <;> rfl)
theorem rc22r_p (L : Nat → (St → T (Ex × St)) → St → T (Ex × St)) (n : Nat) (f : Nat → E6) (k : Int) (s i g : Int)  (j : Nat → V) : ((body22c L (st22c n f k s i g j)).bind fun r => T.leaf (cutR (lp22c n f k) r)).path [true, true, true] = some ([(ile i k), (allN n (fun _ => Bool.true)), (bnot (ieq (gate2 n f i (cls05 n f (toN i))) 0))], (.rt, ⟨[.und, .und, .und, .und, (iV 0), (iV (gate2 n f i (cls05 n f (toN i)))), .und, (iV s), .und, .und, .und, .und, .und, .und, .und, .und, .und, .und, .und, .und, .und, .und, .und, .und, .und, .und, .und, .und, .und, .und, .und, .und, .und, .und, .und, .und, .und, .und, .und, .und, .und, .und, .und, .und, .und, .und, .und, .und], []⟩)) := by kernel_rfl
theorem rc22r (L : Nat → (St → T (Ex × St)) → St → T (Ex × St)) (n : Nat) (f : Nat → E6) (k : Int) (s i g : Int)  (j : Nat → V) (h0 : ile i k = true) (h1 : ieq (gate2 n f i (cls05 n f (toN i))) 0 = false) : ((body22c L (st22c n f k s i g j)).bind fun r => T.leaf (cutR (lp22c n f k) r)).sem = some (.rt, ⟨[.und, .und, .und, .und, (iV 0), (iV (gate2 n f i (cls05 n f (toN i)))), .und, (iV s), .und, .und, .und, .und, .und, .und, .und, .und, .und, .und, .und, .und, .und, .und, .und, .und, .und, .und, .und, .und, .und, .und, .und, .und, .und, .und, .und, .und, .und, .und, .und, .und, .und, .und, .und, .und, .und, .und, .und, .und], []⟩) := by
  exact sem_of_path (rc22r_p L n f k s i g j) (by simp only [h0, h1, allN_true] <;> rfl)
theorem rc22m_p (L : Nat → (St → T (Ex × St)) → St → T (Ex × St)) (n : Nat) (f : Nat → E6) (k : Int) (s i g : Int)  (j : Nat → V) : ((body22c L (st22c n f k s i g j)).bind fun r => T.leaf (cutR (lp22c n f k) r)).path [true, true, false, true, true, true] = some ([(ile i k), (allN n (fun _ => Bool.true)), (bnot (ieq (gate2 n f i (cls05 n f (toN i))) 0)), (okG s), (okG (gate1 n f i (cls05 n f (toN i)))), (bnot (okT (iadd s (gate1 n f i (cls05 n f (toN i))))))], (.rt, ⟨[.und, .und, .und, .und, (iV 0), (iV 3), .und, (iV s), .und, .und, .und, .und, .und, .und, .und, .und, .und, .und, .und, .und, .und, .und, .und, .und, .und, .und, .und, .und, .und, .und, .und, .und, .und, .und, .und, .und, .und, .und, .und, .und, .und, .und, .und, .und, .und, .und, .und, .und], []⟩)) := by kernel_rfl
theorem rc22m (L : Nat → (St → T (Ex × St)) → St → T (Ex × St)) (n : Nat) (f : Nat → E6) (k : Int) (s i g : Int)  (j : Nat → V) (h0 : ile i k = true) (h1 : ieq (gate2 n f i (cls05 n f (toN i))) 0 = true) (h18 : okG s = true) (h19 : okG (gate1 n f i (cls05 n f (toN i))) = true) (h2 : okT (iadd s (gate1 n f i (cls05 n f (toN i)))) = false) : ((body22c L (st22c n f k s i g j)).bind fun r => T.leaf (cutR (lp22c n f k) r)).sem = some (.rt, ⟨[.und, .und, .und, .und, (iV 0), (iV 3), .und, (iV s), .und, .und, .und, .und, .und, .und, .und, .und, .und, .und, .und, .und, .und, .und, .und, .und, .und, .und, .und, .und, .und, .und, .und, .und, .und, .und, .und, .und, .und, .und, .und, .und, .und, .und, .und, .und, .und, .und, .und, .und], []⟩) := by
  exact sem_of_path (rc22m_p L n f k s i g j) (by simp only [h0, h1, h18, h19, h2, allN_true] <;> rfl)
theorem rc22n_p (L : Nat → (St → T (Ex × St)) → St → T (Ex × St)) (n : Nat) (f : Nat → E6) (k : Int) (s i g : Int)  (j : Nat → V) : ((body22c L (st22c n f k s i g j)).bind fun r => T.leaf (cutR (lp22c n f k) r)).path [true, true, false, true, true, false] = some ([(ile i k), (allN n (fun _ => Bool.true)), (bnot (ieq (gate2 n f i (cls05 n f (toN i))) 0)), (okG s), (okG (gate1 n f i (cls05 n f (toN i)))), (bnot (okT (iadd s (gate1 n f i (cls05 n f (toN i))))))], (.nm, ⟨[(.sl 6 n (fun i => (eV (f i)))), (iV k), .und, .und, (iV 0), (iV 0), .und, (iV (topI (iadd s (gate1 n f i (cls05 n f (toN i)))))), (iV (wr IntKind.i64 (iadd i 1))), .und, .und, .und, .und, .und, .und, .und, .und, .und, .und, .und, .und, .und, .und, .und, .und, .und, .und, .und, .und, .und, .und, .und, .und, .und, .und, .und, .und, .und, .und, .und, .und, .und, .und, .und, .und, .und, .und, .und], []⟩)) := by kernel_rfl
theorem rc22n (L : Nat → (St → T (Ex × St)) → St → T (Ex × St)) (n : Nat) (f : Nat → E6) (k : Int) (s i g : Int)  (j : Nat → V) (h0 : ile i k = true) (h1 : ieq (gate2 n f i (cls05 n f (toN i))) 0 = true) (h18 : okG s = true) (h19 : okG (gate1 n f i (cls05 n f (toN i))) = true) (h2 : okT (iadd s (gate1 n f i (cls05 n f (toN i)))) = true) : ((body22c L (st22c n f k s i g j)).bind fun r => T.leaf (cutR (lp22c n f k) r)).sem = some (.nm, ⟨[(.sl 6 n (fun i => (eV (f i)))), (iV k), .und, .und, (iV 0), (iV 0), .und, (iV (topI (iadd s (gate1 n f i (cls05 n f (toN i)))))), (iV (wr IntKind.i64 (iadd i 1))), .und, .und, .und, .und, .und, .und, .und, .und, .und, .und, .und, .und, .und, .und, .und, .und, .und, .und, .und, .und, .und, .und, .und, .und, .und, .und, .und, .und, .und, .und, .und, .und, .und, .und, .und, .und, .und, .und, .und], []⟩) := by
  exact sem_of_path (rc22n_p L n f k s i g j) (by simp only [h0, h1, h18, h19, h2, allN_true] <;> rfl)
def jk22c (n : Nat) (f : Nat → E6) (k : Int)  : Nat → V
  | 6 => (iV 0)
  | 13 => (.sl 6 n (fun i => (eV (f i))))
  | 14 => (iV 0)
  | 15 => (iV 0)
  | 16 => (bV (bnot (ieq 0 0)))
  | 18 => (iV k)
  | 19 => (bV (ilt k 2))
  | 20 => (bV (ilt k 2))
  | 21 => (iV k)
  | 22 => (bV (ilt 16 k))
  | 23 => (bV (ilt 16 k))
  | _ => undefV

theorem wc22r_p (L : Nat → (St → T (Ex × St)) → St → T (Ex × St)) (p0 : (St → T (Ex × St)) → St → Bool) (n : Nat) (f : Nat → E6) (k : Int) (s i g : Int) : (finF (evalF tab ⟨callT tb22, (onP 0 p0 (en22cr n f k s i g) L), Gl⟩ Try.f22 [edgesV n f, iV k] [])).path [true, false, true, false, false, false, false, false, true] = some ([(allN n (fun _ => Bool.true)), (ilt 128 (Int.ofNat n)), (mayN n f), (bnot (ieq 0 0)), (ilt k 2), (ilt k 2), (ilt k 2), (ilt 16 k), (p0 (body22c (onP 0 p0 (en22cr n f k s i g) L)) (st22c n f k 0 2 0 (jk22c n f k )))], ((.tup [(iV 0), (iV g)]), [])) := by kernel_rfl
theorem wc22r (L : Nat → (St → T (Ex × St)) → St → T (Ex × St)) (p0 : (St → T (Ex × St)) → St → Bool) (n : Nat) (f : Nat → E6) (k : Int) (s i g : Int) (h0 : ilt 128 (Int.ofNat n) = false) (h1 : mayN n f = true) (h2 : ilt k 2 = false) (h3 : ilt 16 k = false) (hp0 : p0 (body22c (onP 0 p0 (en22cr n f k s i g) L)) (st22c n f k 0 2 0 (jk22c n f k )) = true) : (finF (evalF tab ⟨callT tb22, (onP 0 p0 (en22cr n f k s i g) L), Gl⟩ Try.f22 [edgesV n f, iV k] [])).sem = some ((.tup [(iV 0), (iV g)]), []) := by
  exact sem_of_path (wc22r_p L p0 n f k s i g) (by simp only [h0, h1, h2, h3, hp0, allN_true] <;> rfl)

theorem wc22w_p (L : Nat → (St → T (Ex × St)) → St → T (Ex × St)) (p0 : (St → T (Ex × St)) → St → Bool) (n : Nat) (f : Nat → E6) (k : Int) (s i g : Int) : (finF (evalF tab ⟨callT tb22, (onP 0 p0 (en22ca n f k s i g) L), Gl⟩ Try.f22 [edgesV n f, iV k] [])).path [true, false, true, false, false, false, false, false, true] = some ([(allN n (fun _ => Bool.true)), (ilt 128 (Int.ofNat n)), (mayN n f), (bnot (ieq 0 0)), (ilt k 2), (ilt k 2), (ilt k 2), (ilt 16 k), (p0 (body22c (onP 0 p0 (en22ca n f k s i g) L)) (st22c n f k 0 2 0 (jk22c n f k )))], ((.tup [(iV s), (iV 0)]), [])) := by kernel_rfl
theorem wc22w (L : Nat → (St → T (Ex × St)) → St → T (Ex × St)) (p0 : (St → T (Ex × St)) → St → Bool) (n : Nat) (f : Nat → E6) (k : Int) (s i g : Int) (h0 : ilt 128 (Int.ofNat n) = false) (h1 : mayN n f = true) (h2 : ilt k 2 = false) (h3 : ilt 16 k = false) (hp0 : p0 (body22c (onP 0 p0 (en22ca n f k s i g) L)) (st22c n f k 0 2 0 (jk22c n f k )) = true) : (finF (evalF tab ⟨callT tb22, (onP 0 p0 (en22ca n f k s i g) L), Gl⟩ Try.f22 [edgesV n f, iV k] [])).sem = some ((.tup [(iV s), (iV 0)]), []) := by
  exact sem_of_path (wc22w_p L p0 n f k s i g) (by simp only [h0, h1, h2, h3, hp0, allN_true] <;> rfl)


theorem upS_step (n : Nat) (f : Nat → E6) (j : Nat) (h : j + 1 ≤ 16) : upS n f j ≤ upS n f (j + 1) := by
  cases j with
  | zero => exact Int.le_refl _
  | succ j =>
    have h2 : 0 ≤ cls05 n f (j + 2) := (cls_bound (natM n f) (j + 2) (by omega) h).1
    show upS n f (j + 1) ≤ upS n f (j + 1) + cls05 n f (j + 2)
    omega

theorem upS_mono (n : Nat) (f : Nat → E6) : ∀ t j, j + t ≤ 16 → upS n f j ≤ upS n f (j + t)
  | 0, _, _ => Int.le_refl _
  | t + 1, j, h => Int.le_trans (upS_mono n f t j (by omega)) (upS_step n f (j + t) h)

/-- Is all well up to j edges? -/
def upG (n : Nat) (f : Nat → E6) (j : Nat) : Bool := upOK n f j && decide (upS n f j < 9223372036854775808)

theorem upG_down (n : Nat) (f : Nat → E6) (t j : Nat) (hj : j + t ≤ 16) (h : upG n f (j + t) = true) : upG n f j = true := by
  unfold upG at h ⊢
  simp only [Bool.and_eq_true, decide_eq_true_eq] at h ⊢
  have := upS_mono n f t j hj
  exact ⟨upOK_down n f t j h.1, by omega⟩

/-- How far all is well. -/
def upH (n : Nat) (f : Nat → E6) : Nat → Nat
  | 0 => 0
  | j + 1 => if upG n f (j + 1) = true then j + 1 else upH n f j

theorem upH_at (n : Nat) (f : Nat → E6) (j : Nat) (h1 : upG n f j = true) (h2 : upG n f (j + 1) = false) : ∀ t, j + t ≤ 16 → upH n f (j + t) = j
  | 0, _ => by
    cases j with
    | zero => rfl
    | succ j => show upH n f (j + 1) = _; rw [upH, if_pos h1]
  | t + 1, h => by
    have : upG n f (j + t + 1) = false := by
      cases h3 : upG n f (j + t + 1) with
      | false => rfl
      | true =>
        have := upG_down n f t (j + 1) (by omega) (by rw [show j + 1 + t = j + t + 1 by omega]; exact h3)
        rw [this] at h2
        cases h2
    show upH n f (j + t + 1) = j
    rw [upH, if_neg (by rw [this]; simp), upH_at n f j h1 h2 t (by omega)]

def end22 (n : Nat) (f : Nat → E6) (k : Nat) : Ex × St := if upG n f k = true then en22ca n f (Int.ofNat k) (upS n f k) 0 0 else en22cr n f (Int.ofNat k) (upS n f (upH n f k)) 0 3

theorem gate_in (n : Nat) (f : Nat → E6) (h1 : ilt 128 (Int.ofNat n) = false) (hm : mayN n f = true) (i : Nat) (hi : 1 ≤ i) (hi2 : i ≤ 16) (x : Int) : gateR n f (Int.ofNat i) x = sel (ile 9223372036854775808 (cl05 n f i)) (0, 3) (x, 0) := by
  unfold gateR
  rw [h1, hm, lt_false (show (1 : Int) ≤ Int.ofNat i by simp; omega), lt_false (show Int.ofNat i ≤ 16 by simp; omega)]
  rfl

theorem run22 (L : Nat → (St → T (Ex × St)) → St → T (Ex × St)) (n : Nat) (f : Nat → E6) (hn1 : ilt 128 (Int.ofNat n) = false) (hm : mayN n f = true) (k : Nat) (hk : k ≤ 16) : ∀ (e j : Nat) (i : Nat → V) (q : Nat), k = (j + 1) + e → e < q → upG n f (j + 1) = true →
    (iterT (body22c L) (lp22c n f (Int.ofNat k)) q (st22c n f (Int.ofNat k) (upS n f (j + 1)) (Int.ofNat (j + 2)) 0 i)).sem = some (end22 n f k)
  | 0, j, i, q + 1, h1, _, hu => by
    have hd : k = j + 1 := by omega
    subst hd
    unfold end22
    rw [if_pos hu]
    exact iter_round (rc22a L n f _ _ _ 0 i (ofNat_gt (by omega)))
  | e + 1, j, i, q + 1, h1, h2, hu => by
    have f1 : ile (Int.ofNat (j + 2)) (Int.ofNat k) = true := ofNat_le (by omega)
    have ej : toN (Int.ofNat (j + 2)) = j + 2 := rfl
    have hu' := hu
    unfold upG at hu'
    simp only [Bool.and_eq_true, decide_eq_true_eq] at hu'
    have hS := upS_nonneg n f (j + 1) (by omega)
    have hbad : upG n f (j + 1 + 1) = false → end22 n f k = en22cr n f (Int.ofNat k) (upS n f (j + 1)) 0 3 := by
      intro hu2
      have hk2 : upG n f k = false := by
        cases h : upG n f k with
        | false => rfl
        | true =>
          have := upG_down n f e (j + 1 + 1) (by omega) (by rw [show j + 1 + 1 + e = k by omega]; exact h)
          rw [this] at hu2
          cases hu2
      have hl := upH_at n f (j + 1) hu hu2 (e + 1) (by omega)
      rw [show j + 1 + (e + 1) = k by omega] at hl
      unfold end22
      rw [if_neg (by rw [hk2]; simp), hl]
    have hg := fun x => gate_in n f hn1 hm (j + 2) (by omega) (by omega) x
    by_cases hs : cl05 n f (j + 2) < 9223372036854775808
    · rw [le_false hs] at hg
      have g2 : ieq (gate2 n f (Int.ofNat (j + 2)) (cls05 n f (toN (Int.ofNat (j + 2))))) 0 = true := by unfold gate2; rw [hg]; rfl
      have g1 : gate1 n f (Int.ofNat (j + 2)) (cls05 n f (toN (Int.ofNat (j + 2)))) = cls05 n f (j + 2) := by unfold gate1; rw [hg]; rfl
      have hb : 0 ≤ cls05 n f (j + 2) ∧ cls05 n f (j + 2) ≤ cl05 n f (j + 2) := cls_bound (natM n f) (j + 2) (by omega) (by omega)
      have k1 : okG (upS n f (j + 1)) = true := okG_iff.2 ⟨hS, by omega⟩
      have k2 : okG (gate1 n f (Int.ofNat (j + 2)) (cls05 n f (toN (Int.ofNat (j + 2))))) = true := by rw [g1]; exact okG_iff.2 ⟨hb.1, by omega⟩
      have es : iadd (upS n f (j + 1)) (gate1 n f (Int.ofNat (j + 2)) (cls05 n f (toN (Int.ofNat (j + 2))))) = upS n f (j + 2) := by rw [g1]; rfl
      have hO : upOK n f (j + 1 + 1) = true := by show upOK n f (j + 2) = true; rw [upOK, hu'.1]; simpa using hs
      by_cases ht : upS n f (j + 2) < 9223372036854775808
      · have hu2 : upG n f (j + 1 + 1) = true := by
          unfold upG
          rw [hO]
          exact decide_eq_true ht
        have kt : okT (iadd (upS n f (j + 1)) (gate1 n f (Int.ofNat (j + 2)) (cls05 n f (toN (Int.ofNat (j + 2)))))) = true := by rw [es]; exact decide_eq_true (by omega)
        rw [iter_round (rc22n L n f (Int.ofNat k) _ (Int.ofNat (j + 2)) 0 i f1 g2 k1 k2 kt), goOn_nm, succ_wr (show j + 2 < k + 1 by omega) (by omega), es,
          show topI (upS n f (j + 2)) = upS n f (j + 1 + 1) from if_pos (by show upS n f (j + 2) ≤ _; omega)]
        exact run22 L n f hn1 hm k hk e (j + 1) (fun _ => .und) q (by omega) (by omega) hu2
      · have hu2 : upG n f (j + 1 + 1) = false := by
          unfold upG
          rw [decide_eq_false (show ¬ upS n f (j + 1 + 1) < 9223372036854775808 from ht), Bool.and_false]
        have kt : okT (iadd (upS n f (j + 1)) (gate1 n f (Int.ofNat (j + 2)) (cls05 n f (toN (Int.ofNat (j + 2)))))) = false := by rw [es]; exact decide_eq_false (by omega)
        rw [hbad hu2]
        exact iter_round (rc22m L n f (Int.ofNat k) _ (Int.ofNat (j + 2)) 0 i f1 g2 k1 k2 kt)
    · rw [le_true (by omega)] at hg
      have g2 : gate2 n f (Int.ofNat (j + 2)) (cls05 n f (toN (Int.ofNat (j + 2)))) = 3 := by unfold gate2; rw [hg]; rfl
      have hu2 : upG n f (j + 1 + 1) = false := by
        unfold upG
        have : upOK n f (j + 1 + 1) = false := by show upOK n f (j + 2) = false; rw [upOK, hu'.1]; simpa using hs
        rw [this]
        rfl
      rw [hbad hu2]
      have h := rc22r L n f (Int.ofNat k) (upS n f (j + 1)) (Int.ofNat (j + 2)) 0 i f1 (by rw [g2]; rfl)
      rw [g2] at h
      exact iter_round h

theorem p22c : PureC Try.prog Gl 22 upT := by
  refine pureC_intro tabOK mixed Try.func22 (by kernel_rfl) (by kernel_rfl) fun vs v h' h => ?_
  obtain ⟨n, f, k, hA, hr⟩ := upT_some h
  simp only [Prod.mk.injEq] at hr
  obtain ⟨rfl, rfl⟩ := hr
  have hx := cx_ok tb22_ok [(0, lp22c n f k)]
  have hL := loopsBy_le [(0, lp22c n f k)]
  refine ⟨_, cxOf Gl tb22 [(0, lp22c n f k)], _, hA, rfl, hx.1, hx.2, ?_, RowsLE.refl _⟩
  unfold upR
  rcases many n with ⟨h1, _⟩ | ⟨h1, hn⟩
  · rw [h1]; exact wc22f _ n f k h1
  · rw [h1]
    cases hm : mayN n f with
    | false => exact wc22e _ n f k h1 hm
    | true =>
      cases h2 : ilt k 2 with
      | true => exact wc22l _ n f k h1 hm h2
      | false =>
        cases h3 : ilt 16 k with
        | true => exact wc22g _ n f k h1 hm h2 h3
        | false =>
          have h2' : 2 ≤ k := by simpa [ilt] using h2
          have h3' : k ≤ 16 := by simpa [ilt] using h3
          obtain ⟨j, rfl⟩ := Int.eq_ofNat_of_zero_le (show (0 : Int) ≤ k by omega)
          have hj1 : 2 ≤ j := by omega
          have hj2 : j ≤ 16 := by omega
          have hrun := fun L i => run22 L n f h1 hm j hj2 (j - 1) 0 i (j + 1) (by omega) (by omega) rfl
          unfold end22 at hrun
          show _ = some (V.tup [iV (sel (upOK n f j) (sel (ile 9223372036854775808 (upS n f j)) ((0 : Int), (3 : Int)) (upS n f j, 0)) (0, 3)).1, iV (sel (upOK n f j) (sel (ile 9223372036854775808 (upS n f j)) ((0 : Int), (3 : Int)) (upS n f j, 0)) (0, 3)).2], [])
          cases hu : upOK n f j with
          | true =>
            cases h8 : ile 9223372036854775808 (upS n f j) with
            | true =>
              have hG : upG n f j = false := by unfold upG; rw [decide_eq_false (by have := of_decide_eq_true h8; omega), Bool.and_false]
              rw [if_neg (by rw [hG]; simp)] at hrun
              exact told_le (onP_le hL hL) _ (wc22r _ _ n f _ _ 0 3 h1 hm h2 h3 (isP_true (hrun _ _)))
            | false =>
              have hG : upG n f j = true := by unfold upG; rw [hu, decide_eq_true (by have := of_decide_eq_false h8; omega)]; rfl
              rw [if_pos hG] at hrun
              exact told_le (onP_le hL hL) _ (wc22w _ _ n f _ _ 0 0 h1 hm h2 h3 (isP_true (hrun _ _)))
          | false =>
            have hG : upG n f j = false := by unfold upG; rw [hu]; rfl
            rw [if_neg (by rw [hG]; simp)] at hrun
            exact told_le (onP_le hL hL) _ (wc22r _ _ n f _ _ 0 3 h1 hm h2 h3 (isP_true (hrun _ _)))

end Go.Proofs.Ytdmjcpindopjdaa.Co
