/-
  Layer 5, the document's side: closed lists and words. No conditions.
-/
import Derived.Test.YtdmjcpindopjdaaCoVg
namespace Go.Proofs.Ytdmjcpindopjdaa.Co
open Go.Sy

def wkN (a b c d : Int) (n : Nat) : Int := (walkV a b c d n).1
def wkB (a b c d : Int) (n : Nat) : Bool := (walkV a b c d n).2
def okQ (a b c d : Int) : Bool := okM4 (a, b, c, d)
def nQ (a b c d : Int) : N4 := ⟨toN a, toN b, toN c, toN d⟩
def trQ (a b c d : Int) : Nat → Int := trI (nQ a b c d)
def wrR (a b c d : Int) (n : Nat) : Int := wrdN (trQ a b c d) n
def rOK (a b c d : Int) (n : Nat) : Bool := okT (trQ a b c d n)

theorem nQ_eq {a b c d : Int} (h : okQ a b c d = true) : ∃ m : N4, a = Int.ofNat m.a ∧ b = Int.ofNat m.b ∧ c = Int.ofNat m.c ∧ d = Int.ofNat m.d ∧ okM4 (mI m) = true ∧ nQ a b c d = m := by
  have h' := h
  simp only [okQ, okM4, Bool.and_eq_true] at h'
  obtain ⟨x, rfl⟩ := Int.eq_ofNat_of_zero_le (okG_iff.1 h'.1).1
  obtain ⟨y, rfl⟩ := Int.eq_ofNat_of_zero_le (okG_iff.1 h'.2.1).1
  obtain ⟨z, rfl⟩ := Int.eq_ofNat_of_zero_le (okG_iff.1 h'.2.2.1).1
  obtain ⟨u, rfl⟩ := Int.eq_ofNat_of_zero_le (okG_iff.1 h'.2.2.2).1
  exact ⟨⟨x, y, z, u⟩, rfl, rfl, rfl, rfl, h, rfl⟩

theorem wk_eq {a b c d : Int} (h : okQ a b c d = true) (n : Nat) : wkB a b c d n = rOK a b c d n ∧ (rOK a b c d n = true → wkN a b c d n = trQ a b c d n) := by
  obtain ⟨m, rfl, rfl, rfl, rfl, hm, he⟩ := nQ_eq h
  unfold wkB rOK wkN trQ
  rw [he]
  exact walkV_eq m hm n

theorem okQ_mat (n : Nat) (f : Nat → E6) (hn : n ≤ 128) : okQ (matN n f 0) (matN n f 1) (matN n f 2) (matN n f 3) = true := by
  have h : ∀ q, okG (matN n f q) = true := fun q => by
    have h1 := cntL_le (onceR f n) q
    have h2 := onceR_len f n
    rw [okG_iff]
    unfold matN
    simp
    omega
  unfold okQ okM4
  simp only [h]
  rfl

theorem trQ_mat (n : Nat) (f : Nat → E6) : trQ (matN n f 0) (matN n f 1) (matN n f 2) (matN n f 3) = cl05 n f := rfl

/-! ### Closed lists -/

noncomputable def tb18 : List (Nat × (List V → T (V × List Blk))) := [(13, matT), (37, walkT)]
theorem tb18_ok : AllPure Try.prog Gl tb18 := .cons p13 <| .cons p37c .nil

theorem wc18f_p (L : Nat → (St → T (Ex × St)) → St → T (Ex × St)) (n : Nat) (f : Nat → E6) (k : Int) : (finF (evalF tab ⟨callT tb18, L, Gl⟩ Try.f18 [edgesV n f, iV k] [])).path [true, true, true] = some ([(allN n (fun _ => Bool.true)), (ilt 128 (Int.ofNat n)), (bnot (ieq 2 0))], ((.tup [(iV 0), (iV 2)]), [])) := by kernel_rfl
theorem wc18f (L : Nat → (St → T (Ex × St)) → St → T (Ex × St)) (n : Nat) (f : Nat → E6) (k : Int) (h0 : ilt 128 (Int.ofNat n) = true) : (finF (evalF tab ⟨callT tb18, L, Gl⟩ Try.f18 [edgesV n f, iV k] [])).sem = some ((.tup [(iV 0), (iV 2)]), []) := by
  exact sem_of_path (wc18f_p L n f k) (by simp only [h0, allN_true] <;> rfl)

theorem wc18e_p (L : Nat → (St → T (Ex × St)) → St → T (Ex × St)) (n : Nat) (f : Nat → E6) (k : Int) : (finF (evalF tab ⟨callT tb18, L, Gl⟩ Try.f18 [edgesV n f, iV k] [])).path [true, false, false, true] = some ([(allN n (fun _ => Bool.true)), (ilt 128 (Int.ofNat n)), (mayN n f), (bnot (ieq 30 0))], ((.tup [(iV 0), (iV 30)]), [])) := by kernel_rfl
theorem wc18e (L : Nat → (St → T (Ex × St)) → St → T (Ex × St)) (n : Nat) (f : Nat → E6) (k : Int) (h0 : ilt 128 (Int.ofNat n) = false) (h1 : mayN n f = false) : (finF (evalF tab ⟨callT tb18, L, Gl⟩ Try.f18 [edgesV n f, iV k] [])).sem = some ((.tup [(iV 0), (iV 30)]), []) := by
  exact sem_of_path (wc18e_p L n f k) (by simp only [h0, h1, allN_true] <;> rfl)

theorem wc18l_p (L : Nat → (St → T (Ex × St)) → St → T (Ex × St)) (n : Nat) (f : Nat → E6) (k : Int) : (finF (evalF tab ⟨callT tb18, L, Gl⟩ Try.f18 [edgesV n f, iV k] [])).path [true, false, true, false, true, true, true, true] = some ([(allN n (fun _ => Bool.true)), (ilt 128 (Int.ofNat n)), (mayN n f), (bnot (ieq 0 0)), (ilt k 1), (ilt k 1), (ilt k 1), Bool.true], ((.tup [(iV 0), (iV 40)]), [])) := by kernel_rfl
theorem wc18l (L : Nat → (St → T (Ex × St)) → St → T (Ex × St)) (n : Nat) (f : Nat → E6) (k : Int) (h0 : ilt 128 (Int.ofNat n) = false) (h1 : mayN n f = true) (h2 : ilt k 1 = true) : (finF (evalF tab ⟨callT tb18, L, Gl⟩ Try.f18 [edgesV n f, iV k] [])).sem = some ((.tup [(iV 0), (iV 40)]), []) := by
  exact sem_of_path (wc18l_p L n f k) (by simp only [h0, h1, h2, allN_true] <;> rfl)

theorem wc18g_p (L : Nat → (St → T (Ex × St)) → St → T (Ex × St)) (n : Nat) (f : Nat → E6) (k : Int) : (finF (evalF tab ⟨callT tb18, L, Gl⟩ Try.f18 [edgesV n f, iV k] [])).path [true, false, true, false, false, false, false, true] = some ([(allN n (fun _ => Bool.true)), (ilt 128 (Int.ofNat n)), (mayN n f), (bnot (ieq 0 0)), (ilt k 1), (ilt k 1), (ilt k 1), (ilt 16 k)], ((.tup [(iV 0), (iV 40)]), [])) := by kernel_rfl
theorem wc18g (L : Nat → (St → T (Ex × St)) → St → T (Ex × St)) (n : Nat) (f : Nat → E6) (k : Int) (h0 : ilt 128 (Int.ofNat n) = false) (h1 : mayN n f = true) (h2 : ilt k 1 = false) (h3 : ilt 16 k = true) : (finF (evalF tab ⟨callT tb18, L, Gl⟩ Try.f18 [edgesV n f, iV k] [])).sem = some ((.tup [(iV 0), (iV 40)]), []) := by
  exact sem_of_path (wc18g_p L n f k) (by simp only [h0, h1, h2, h3, allN_true] <;> rfl)

theorem wc18m_p (L : Nat → (St → T (Ex × St)) → St → T (Ex × St)) (n : Nat) (f : Nat → E6) (k : Int) : (finF (evalF tab ⟨callT tb18, L, Gl⟩ Try.f18 [edgesV n f, iV k] [])).path [true, false, true, false, false, false, false, false, true, true, true, true] = some ([(allN n (fun _ => Bool.true)), (ilt 128 (Int.ofNat n)), (mayN n f), (bnot (ieq 0 0)), (ilt k 1), (ilt k 1), (ilt k 1), (ilt 16 k), (ile 1 k), (ile k 16), (okQ (matN n f 0) (matN n f 1) (matN n f 2) (matN n f 3)), (bnot (wkB (matN n f 0) (matN n f 1) (matN n f 2) (matN n f 3) (toN k)))], ((.tup [(iV 0), (iV 3)]), [])) := by kernel_rfl
theorem wc18m (L : Nat → (St → T (Ex × St)) → St → T (Ex × St)) (n : Nat) (f : Nat → E6) (k : Int) (h0 : ilt 128 (Int.ofNat n) = false) (h1 : mayN n f = true) (h2 : ilt k 1 = false) (h3 : ilt 16 k = false) (h4 : ile 1 k = true) (h5 : ile k 16 = true) (h19 : okQ (matN n f 0) (matN n f 1) (matN n f 2) (matN n f 3) = true) (h6 : wkB (matN n f 0) (matN n f 1) (matN n f 2) (matN n f 3) (toN k) = false) : (finF (evalF tab ⟨callT tb18, L, Gl⟩ Try.f18 [edgesV n f, iV k] [])).sem = some ((.tup [(iV 0), (iV 3)]), []) := by
  exact sem_of_path (wc18m_p L n f k) (by simp only [h0, h1, h2, h3, h4, h5, h19, h6, allN_true] <;> rfl)

theorem wc18w_p (L : Nat → (St → T (Ex × St)) → St → T (Ex × St)) (n : Nat) (f : Nat → E6) (k : Int) : (finF (evalF tab ⟨callT tb18, L, Gl⟩ Try.f18 [edgesV n f, iV k] [])).path [true, false, true, false, false, false, false, false, true, true, true, false] = some ([(allN n (fun _ => Bool.true)), (ilt 128 (Int.ofNat n)), (mayN n f), (bnot (ieq 0 0)), (ilt k 1), (ilt k 1), (ilt k 1), (ilt 16 k), (ile 1 k), (ile k 16), (okQ (matN n f 0) (matN n f 1) (matN n f 2) (matN n f 3)), (bnot (wkB (matN n f 0) (matN n f 1) (matN n f 2) (matN n f 3) (toN k)))], ((.tup [(iV (wkN (matN n f 0) (matN n f 1) (matN n f 2) (matN n f 3) (toN k))), (iV 0)]), [])) := by kernel_rfl
theorem wc18w (L : Nat → (St → T (Ex × St)) → St → T (Ex × St)) (n : Nat) (f : Nat → E6) (k : Int) (h0 : ilt 128 (Int.ofNat n) = false) (h1 : mayN n f = true) (h2 : ilt k 1 = false) (h3 : ilt 16 k = false) (h4 : ile 1 k = true) (h5 : ile k 16 = true) (h19 : okQ (matN n f 0) (matN n f 1) (matN n f 2) (matN n f 3) = true) (h6 : wkB (matN n f 0) (matN n f 1) (matN n f 2) (matN n f 3) (toN k) = true) : (finF (evalF tab ⟨callT tb18, L, Gl⟩ Try.f18 [edgesV n f, iV k] [])).sem = some ((.tup [(iV (wkN (matN n f 0) (matN n f 1) (matN n f 2) (matN n f 3) (toN k))), (iV 0)]), []) := by
  exact sem_of_path (wc18w_p L n f k) (by simp only [h0, h1, h2, h3, h4, h5, h19, h6, allN_true] <;> rfl)


theorem p18c : PureC Try.prog Gl 18 (gateT fun n f k => cl05 n f k) := by
  refine pureC_intro tabOK mixed Try.func18 (by kernel_rfl) (by kernel_rfl) fun vs v h' h => ?_
  obtain ⟨n, f, k, hA, hr⟩ := gateT_some h
  simp only [Prod.mk.injEq] at hr
  obtain ⟨rfl, rfl⟩ := hr
  have hx := cx_ok tb18_ok []
  refine ⟨_, cxOf Gl tb18 [], _, hA, rfl, hx.1, hx.2, ?_, RowsLE.refl _⟩
  unfold gateR
  rcases many n with ⟨h1, _⟩ | ⟨h1, hn⟩
  · rw [h1]; exact wc18f _ n f k h1
  · rw [h1]
    cases hm : mayN n f with
    | false => exact wc18e _ n f k h1 hm
    | true =>
      cases h2 : ilt k 1 with
      | true => exact wc18l _ n f k h1 hm h2
      | false =>
        cases h3 : ilt 16 k with
        | true => exact wc18g _ n f k h1 hm h2 h3
        | false =>
          have h2' : 1 ≤ k := by simpa [ilt] using h2
          have h3' : k ≤ 16 := by simpa [ilt] using h3
          have hq := okQ_mat n f hn
          obtain ⟨w1, w2⟩ := wk_eq hq (toN k)
          have e : rOK (matN n f 0) (matN n f 1) (matN n f 2) (matN n f 3) (toN k) = okT (cl05 n f (toN k)) := rfl
          cases h9 : ile 9223372036854775808 (cl05 n f (toN k)) with
          | true =>
            have : okT (cl05 n f (toN k)) = false := decide_eq_false (by have := of_decide_eq_true h9; omega)
            exact wc18m _ n f k h1 hm h2 h3 (le_true h2') (le_true h3') hq (by rw [w1, e, this])
          | false =>
            have ht : okT (cl05 n f (toN k)) = true := decide_eq_true (by have := of_decide_eq_false h9; omega)
            have hw := wc18w (loopsBy []) n f k h1 hm h2 h3 (le_true h2') (le_true h3') hq (by rw [w1, e, ht])
            rw [w2 (e.trans ht)] at hw
            exact hw

/-! ### Words -/

def wordT (B : Int) : List V → T (V × List Blk) := ap2 gA gI fun x n => .br (ile 1 n) (.br (ile n B) (.br (okQ x.1 x.2.1 x.2.2.1 x.2.2.2) (.br (rOK x.1 x.2.1 x.2.2.1 x.2.2.2 (toN n)) (out (iV (wrR x.1 x.2.1 x.2.2.1 x.2.2.2 (toN n)))) .fail) .fail) .fail) .fail

noncomputable def tb44 (B : Int) : List (Nat × (List V → T (V × List Blk))) := [(37, walkT), (44, wordT B)]

def lp44c (B : Int) (a b c d : Int) (n : Int) : Lp := ⟨[false, true, true, false, false, true, false, true, false, false, false, false, false, false, false, false, false, false, false, false, false, false, false, false, false, false, false, false, false, false, false, false, false], 1, [false, true, false, false, false, true, false, false, false, false, false, false, false, false, false, false, false, false, false, false, false, false, false, false, false, false, false, false, false, false, false, false, false], 0, toN n + 1⟩
def st44c (B : Int) (a b c d : Int) (n : Int) (s : Int) (i : Int) (j : Nat → V) : St := ⟨[j 0, iV n, .ptr 0 0, j 3, j 4, iV s, j 6, iV i, j 8, j 9, j 10, j 11, j 12, j 13, j 14, j 15, j 16, j 17, j 18, j 19, j 20, j 21, j 22, j 23, j 24, j 25, j 26, j 27, j 28, j 29, j 30, j 31, j 32], [.cells [iV a, iV b, iV c, iV d]]⟩
def en44ca (B : Int) (a b c d : Int) (n : Int) (s : Int) (i : Int) : Ex × St := (.ex 0, ⟨[.und, iV n, .und, .und, .und, iV s, .und, .und, .und, .und, .und, .und, .und, .und, .und, .und, .und, .und, .und, .und, .und, .und, .und, .und, .und, .und, .und, .und, .und, .und, .und, .und, .und], []⟩)
noncomputable def body44c (B : Int) (L : Nat → (St → T (Ex × St)) → St → T (Ex × St)) : St → T (Ex × St) := fun st => evalC tab ⟨callT (tb44 B), L, Gl⟩ (loopBody Try.f44 0) 0 st
theorem rc44a_p (L : Nat → (St → T (Ex × St)) → St → T (Ex × St)) (B : Int) (a b c d : Int) (n : Int) (s : Int) (i : Int)  (j : Nat → V) : ((body44c B L (st44c B a b c d n s i j)).bind fun r => T.leaf (cutR (lp44c B a b c d n) r)).path [false] = some ([(ilt i n)], ((.ex 0), ⟨[.und, (iV n), .und, .und, .und, (iV s), .und, .und, .und, .und, .und, .und, .und, .und, .und, .und, .und, .und, .und, .und, .und, .und, .und, .und, .und, .und, .und, .und, .und, .und, .und, .und, .und], []⟩)) := by kernel_rfl
theorem rc44a (L : Nat → (St → T (Ex × St)) → St → T (Ex × St)) (B : Int) (a b c d : Int) (n : Int) (s : Int) (i : Int)  (j : Nat → V) (h0 : ilt i n = false) : ((body44c B L (st44c B a b c d n s i j)).bind fun r => T.leaf (cutR (lp44c B a b c d n) r)).sem = some ((.ex 0), ⟨[.und, (iV n), .und, .und, .und, (iV s), .und, .und, .und, .und, .und, .und, .und, .und, .und, .und, .und, .und, .und, .und, .und, .und, .und, .und, .und, .und, .und, .und, .und, .und, .und, .und, .und], []⟩) := by
  exact sem_of_path (rc44a_p L B a b c d n s i j) (by simp only [h0] <;> rfl)
theorem rc44s_p (L : Nat → (St → T (Ex × St)) → St → T (Ex × St)) (B : Int) (a b c d : Int) (n : Int) (s : Int) (i : Int)  (j : Nat → V) : ((body44c B L (st44c B a b c d n s i j)).bind fun r => T.leaf (cutR (lp44c B a b c d n) r)).path [true, false, false] = some ([(ilt i n), (ieq i 0), (ieq (itmod n i) 0)], (.nm, ⟨[.und, (iV n), (.ptr 0 0), .und, .und, (iV s), .und, (iV (wr IntKind.i64 (iadd i 1))), .und, .und, .und, .und, .und, .und, .und, .und, .und, .und, .und, .und, .und, .und, .und, .und, .und, .und, .und, .und, .und, .und, .und, .und, .und], [(.cells [(iV a), (iV b), (iV c), (iV d)])]⟩)) := by kernel_rfl
theorem rc44s (L : Nat → (St → T (Ex × St)) → St → T (Ex × St)) (B : Int) (a b c d : Int) (n : Int) (s : Int) (i : Int)  (j : Nat → V) (h0 : ilt i n = true) (h1 : ieq i 0 = false) (h2 : ieq (itmod n i) 0 = false) : ((body44c B L (st44c B a b c d n s i j)).bind fun r => T.leaf (cutR (lp44c B a b c d n) r)).sem = some (.nm, ⟨[.und, (iV n), (.ptr 0 0), .und, .und, (iV s), .und, (iV (wr IntKind.i64 (iadd i 1))), .und, .und, .und, .und, .und, .und, .und, .und, .und, .und, .und, .und, .und, .und, .und, .und, .und, .und, .und, .und, .und, .und, .und, .und, .und], [(.cells [(iV a), (iV b), (iV c), (iV d)])]⟩) := by
  exact sem_of_path (rc44s_p L B a b c d n s i j) (by simp only [h0, h1, h2] <;> rfl)
theorem rc44t_p (L : Nat → (St → T (Ex × St)) → St → T (Ex × St)) (B : Int) (a b c d : Int) (n : Int) (s : Int) (i : Int)  (j : Nat → V) : ((body44c B L (st44c B a b c d n s i j)).bind fun r => T.leaf (cutR (lp44c B a b c d n) r)).path [true, false, true, true, true, true, true] = some ([(ilt i n), (ieq i 0), (ieq (itmod n i) 0), (ile 1 i), (ile i B), (okQ a b c d), (rOK a b c d (toN i))], (.nm, ⟨[.und, (iV n), (.ptr 0 0), .und, .und, (iV (wr IntKind.i64 (isub s (wr IntKind.i64 (imul i (wrR a b c d (toN i))))))), .und, (iV (wr IntKind.i64 (iadd i 1))), .und, .und, .und, .und, .und, .und, .und, .und, .und, .und, .und, .und, .und, .und, .und, .und, .und, .und, .und, .und, .und, .und, .und, .und, .und], [(.cells [(iV a), (iV b), (iV c), (iV d)])]⟩)) := by kernel_rfl
theorem rc44t (L : Nat → (St → T (Ex × St)) → St → T (Ex × St)) (B : Int) (a b c d : Int) (n : Int) (s : Int) (i : Int)  (j : Nat → V) (h0 : ilt i n = true) (h1 : ieq i 0 = false) (h2 : ieq (itmod n i) 0 = true) (h15 : ile 1 i = true) (h16 : ile i B = true) (h17 : okQ a b c d = true) (h18 : rOK a b c d (toN i) = true) : ((body44c B L (st44c B a b c d n s i j)).bind fun r => T.leaf (cutR (lp44c B a b c d n) r)).sem = some (.nm, ⟨[.und, (iV n), (.ptr 0 0), .und, .und, (iV (wr IntKind.i64 (isub s (wr IntKind.i64 (imul i (wrR a b c d (toN i))))))), .und, (iV (wr IntKind.i64 (iadd i 1))), .und, .und, .und, .und, .und, .und, .und, .und, .und, .und, .und, .und, .und, .und, .und, .und, .und, .und, .und, .und, .und, .und, .und, .und, .und], [(.cells [(iV a), (iV b), (iV c), (iV d)])]⟩) := by
  exact sem_of_path (rc44t_p L B a b c d n s i j) (by simp only [h0, h1, h2, h15, h16, h17, h18] <;> rfl)
def jk44c (B : Int) (a b c d : Int) (n : Int)  : Nat → V
  | 0 => (.agg [(iV a), (iV b), (iV c), (iV d)])
  | 4 => (iV 0)
  | 6 => (bV (wkB a b c d (toN n)))
  | 8 => (.tup [(iV (wkN a b c d (toN n))), (bV (wkB a b c d (toN n)))])
  | 9 => (.agg [(iV a), (iV b), (iV c), (iV d)])
  | 10 => (iV n)
  | 11 => (.tup [(iV (wkN a b c d (toN n))), (bV (wkB a b c d (toN n)))])
  | 12 => (iV (wkN a b c d (toN n)))
  | 13 => (bV (wkB a b c d (toN n)))
  | _ => undefV

theorem wc44_p (L : Nat → (St → T (Ex × St)) → St → T (Ex × St)) (p0 : (St → T (Ex × St)) → St → Bool) (B : Int) (a b c d : Int) (n : Int) (s i : Int) : (finF (evalF tab ⟨callT (tb44 B), (onP 0 p0 (en44ca B a b c d n s i) L), Gl⟩ Try.f44 [.agg [iV a, iV b, iV c, iV d], iV n] [])).path [true, true, true, true, false] = some ([(ile 1 n), (ile n 16), (okQ a b c d), (p0 (body44c B (onP 0 p0 (en44ca B a b c d n s i) L)) (st44c B a b c d n (wkN a b c d (toN n)) 1 (jk44c B a b c d n ))), (ieq n 0)], ((iV (wr IntKind.i64 (itdiv s n))), [])) := by kernel_rfl
theorem wc44 (L : Nat → (St → T (Ex × St)) → St → T (Ex × St)) (p0 : (St → T (Ex × St)) → St → Bool) (B : Int) (a b c d : Int) (n : Int) (s i : Int) (h13 : ile 1 n = true) (h14 : ile n 16 = true) (h15 : okQ a b c d = true) (h0 : ieq n 0 = false) (hp0 : p0 (body44c B (onP 0 p0 (en44ca B a b c d n s i) L)) (st44c B a b c d n (wkN a b c d (toN n)) 1 (jk44c B a b c d n )) = true) : (finF (evalF tab ⟨callT (tb44 B), (onP 0 p0 (en44ca B a b c d n s i) L), Gl⟩ Try.f44 [.agg [iV a, iV b, iV c, iV d], iV n] [])).sem = some ((iV (wr IntKind.i64 (itdiv s n))), []) := by
  exact sem_of_path (wc44_p L p0 B a b c d n s i) (by simp only [h13, h14, h15, h0, hp0] <;> rfl)


theorem run44 (B : Nat) (L : Nat → (St → T (Ex × St)) → St → T (Ex × St)) (a b c d : Int) (hq : okQ a b c d = true) (n : Nat) (h1 : 1 ≤ n) (hn : n ≤ 16) (hB : n ≤ B + 1) (ht : rOK a b c d n = true) : ∀ (e i : Nat) (j : Nat → V) (q : Nat), n = i + 1 + e → e < q →
    (iterT (body44c (Int.ofNat B) L) (lp44c (Int.ofNat B) a b c d (Int.ofNat n)) q (st44c (Int.ofNat B) a b c d (Int.ofNat n) (trQ a b c d n - sumW (wrdN (trQ a b c d)) n i) (Int.ofNat (i + 1)) j)).sem = some (en44ca (Int.ofNat B) a b c d (Int.ofNat n) (Int.ofNat n * wrR a b c d n) 0) := by
  have hO : ∀ e, 1 ≤ e → e ≤ n → n % e = 0 → Int.ofNat e * wrdN (trQ a b c d) e = mobN (trQ a b c d) e := fun e e1 e2 _ => wrd_mul _ e e1 (by omega)
  have hall := sumW_all (trQ a b c d) n h1 hn hO
  have hW : ∀ e, 1 ≤ e → e ≤ n → n % e = 0 → 0 ≤ wrdN (trQ a b c d) e := fun e e1 e2 _ => wrd_nonneg _ e e1 (by omega)
  have ht' : trQ a b c d n ≤ 9223372036854775807 := of_decide_eq_true ht
  intro e
  induction e with
  | zero =>
    intro i j q he hq'
    obtain ⟨q, rfl⟩ : ∃ k, q = k + 1 := ⟨q - 1, by omega⟩
    have hd : n = i + 1 := by omega
    subst hd
    have hs : sumW (wrdN (trQ a b c d)) (i + 1) (i + 1) = sumW (wrdN (trQ a b c d)) (i + 1) i + Int.ofNat (i + 1) * wrdN (trQ a b c d) (i + 1) := by rw [sumW, if_pos (Nat.mod_self _)]
    rw [show trQ a b c d (i + 1) - sumW (wrdN (trQ a b c d)) (i + 1) i = Int.ofNat (i + 1) * wrR a b c d (i + 1) by unfold wrR; omega]
    exact iter_round (rc44a L (Int.ofNat B) a b c d _ _ _ j (ofNat_ge (Nat.le_refl _)))
  | succ e ih =>
    intro i j q he hq'
    obtain ⟨q, rfl⟩ : ∃ k, q = k + 1 := ⟨q - 1, by omega⟩
    have hz : ieq (Int.ofNat (i + 1)) 0 = false := ieq_false (by simp; omega)
    by_cases hd : n % (i + 1) = 0
    · have hup := sumW_mono (wrdN (trQ a b c d)) n hW (n - (i + 1)) (i + 1) (by omega)
      have h0 := sumW_nonneg (wrdN (trQ a b c d)) n hW i (by omega)
      rw [show i + 1 + (n - (i + 1)) = n by omega, hall] at hup
      have hs : sumW (wrdN (trQ a b c d)) n (i + 1) = sumW (wrdN (trQ a b c d)) n i + Int.ofNat (i + 1) * wrdN (trQ a b c d) (i + 1) := by rw [sumW, if_pos hd]
      have hp := Int.mul_nonneg (show (0 : Int) ≤ Int.ofNat (i + 1) by simp; omega) (hW (i + 1) (by omega) (by omega) hd)
      have hcl : trQ a b c d (i + 1) ≤ trQ a b c d n := cl_dvd _ n (i + 1) h1 hn hd (by omega) (by omega)
      have hr : rOK a b c d (toN (Int.ofNat (i + 1))) = true := decide_eq_true (show trQ a b c d (i + 1) ≤ 9223372036854775807 by omega)
      rw [iter_round (rc44t L (Int.ofNat B) a b c d (Int.ofNat n) _ (Int.ofNat (i + 1)) j (ofNat_lt (by omega)) hz (by rw [ieq_mod]; exact decide_eq_true hd) (le_true (by simp; omega)) (ofNat_le (by omega)) hq hr), goOn_nm,
        show toN (Int.ofNat (i + 1)) = i + 1 from rfl, succ_wr (show i + 1 < n + 1 by omega) (by omega)]
      have es : wr IntKind.i64 (isub (trQ a b c d n - sumW (wrdN (trQ a b c d)) n i) (wr IntKind.i64 (imul (Int.ofNat (i + 1)) (wrR a b c d (i + 1))))) = trQ a b c d n - sumW (wrdN (trQ a b c d)) n (i + 1) := by
        unfold wrR
        rw [hs] at hup ⊢
        generalize hpp : Int.ofNat (i + 1) * wrdN (trQ a b c d) (i + 1) = p at *
        rw [show imul (Int.ofNat (i + 1)) (wrdN (trQ a b c d) (i + 1)) = p from hpp, wr_i p hp (by omega)]
        rw [wr_i _ (by unfold isub; omega) (by unfold isub; omega)]
        unfold isub
        omega
      rw [es]
      exact ih (i + 1) (fun _ => .und) q (by omega) (by omega)
    · rw [iter_round (rc44s L (Int.ofNat B) a b c d (Int.ofNat n) _ (Int.ofNat (i + 1)) j (ofNat_lt (by omega)) hz (by rw [ieq_mod]; exact decide_eq_false hd)), goOn_nm, succ_wr (show i + 1 < n + 1 by omega) (by omega),
        show sumW (wrdN (trQ a b c d)) n i = sumW (wrdN (trQ a b c d)) n (i + 1) by rw [sumW, if_neg hd]]
      exact ih (i + 1) (fun _ => .und) q (by omega) (by omega)

theorem wordT_some {B : Int} {vs : List V} {r : V × List Blk} (h : (wordT B vs).sem = some r) : ∃ a b c d n, vs = [.agg [iV a, iV b, iV c, iV d], iV (Int.ofNat n)] ∧ 1 ≤ n ∧ Int.ofNat n ≤ B ∧ okQ a b c d = true ∧ rOK a b c d n = true ∧ r = (iV (wrR a b c d n), []) := by
  obtain ⟨x, n, rfl, h⟩ := ap2_some gA_ok gI_ok h
  obtain ⟨h1, h⟩ := sem_br_fail h
  obtain ⟨h2, h⟩ := sem_br_fail h
  obtain ⟨h3, h⟩ := sem_br_fail h
  obtain ⟨h4, h⟩ := sem_br_fail h
  have h1 : (1 : Int) ≤ n := of_decide_eq_true h1
  have h2 : n ≤ B := of_decide_eq_true h2
  obtain ⟨k, rfl⟩ := Int.eq_ofNat_of_zero_le (show (0 : Int) ≤ n by omega)
  exact ⟨x.1, x.2.1, x.2.2.1, x.2.2.2, k, rfl, by omega, h2, h3, h4, sem_leaf h⟩

theorem p44B : ∀ B : Nat, B ≤ 16 → PureC Try.prog Gl 44 (wordT (Int.ofNat B))
  | 0, _ => by
    refine pureC_intro tabOK mixed Try.func44 (by kernel_rfl) (by kernel_rfl) fun vs v h' h => ?_
    obtain ⟨a, b, c, d, n, _, h1, h2, _⟩ := wordT_some h
    have : Int.ofNat n ≤ 0 := h2
    simp at this
    omega
  | B + 1, hB => by
    refine pureC_intro tabOK mixed Try.func44 (by kernel_rfl) (by kernel_rfl) fun vs v h' h => ?_
    obtain ⟨a, b, c, d, n, rfl, h1, h2, h3, h4, hr⟩ := wordT_some h
    simp only [Prod.mk.injEq] at hr
    obtain ⟨rfl, rfl⟩ := hr
    have h2 : n ≤ B + 1 := by
      have : Int.ofNat n ≤ Int.ofNat (B + 1) := h2
      simp at this
      omega
    have tbOK : AllPure Try.prog Gl (tb44 (Int.ofNat B)) := .cons p37c <| .cons (p44B B (by omega)) .nil
    have hx := cx_ok tbOK [(0, lp44c (Int.ofNat B) a b c d (Int.ofNat n))]
    have hL := loopsBy_le [(0, lp44c (Int.ofNat B) a b c d (Int.ofNat n))]
    have hn0 : (0 : Int) < Int.ofNat n := by simp; omega
    obtain ⟨w1, w2⟩ := wk_eq h3 n
    have hW : 0 ≤ wrR a b c d n := wrd_nonneg _ n h1 (by omega)
    have hb : wrR a b c d n ≤ 9223372036854775807 := by
      have hO : ∀ e, 1 ≤ e → e ≤ n → n % e = 0 → Int.ofNat e * wrdN (trQ a b c d) e = mobN (trQ a b c d) e := fun e e1 e2 _ => wrd_mul _ e e1 (by omega)
      have hall := sumW_all (trQ a b c d) n h1 (by omega) hO
      have ht' : trQ a b c d n ≤ 9223372036854775807 := of_decide_eq_true h4
      obtain ⟨k, rfl⟩ : ∃ k, n = k + 1 := ⟨n - 1, by omega⟩
      rw [sumW, if_pos (Nat.mod_self _)] at hall
      have := sumW_nonneg (wrdN (trQ a b c d)) (k + 1) (fun e e1 e2 _ => wrd_nonneg _ e e1 (by omega)) k (by omega)
      have hle := Int.mul_le_mul_of_nonneg_right (show (1 : Int) ≤ Int.ofNat (k + 1) by omega) hW
      unfold wrR at *
      omega
    have e : wr IntKind.i64 (itdiv (Int.ofNat n * wrR a b c d n) (Int.ofNat n)) = wrR a b c d n := by
      unfold itdiv
      rw [Int.mul_comm, Int.mul_tdiv_cancel _ (show Int.ofNat n ≠ 0 by omega)]
      exact wr_i _ hW hb
    refine ⟨_, cxOf Gl (tb44 (Int.ofNat B)) _, _, ArgLE.refl _, rfl, hx.1, hx.2, ?_, RowsLE.refl _⟩
    have hw := wc44 (loopsBy [(0, lp44c (Int.ofNat B) a b c d (Int.ofNat n))]) (isP (loopsBy [(0, lp44c (Int.ofNat B) a b c d (Int.ofNat n))]) 0 (en44ca (Int.ofNat B) a b c d (Int.ofNat n) (Int.ofNat n * wrR a b c d n) 0)) (Int.ofNat B) a b c d (Int.ofNat n) (Int.ofNat n * wrR a b c d n) 0
      (le_true (by omega)) (le_true (by simp; omega)) h3 (ieq_false (by omega)) (isP_true (by
        have := run44 B (onP 0 (isP (loopsBy [(0, lp44c (Int.ofNat B) a b c d (Int.ofNat n))]) 0 (en44ca (Int.ofNat B) a b c d (Int.ofNat n) (Int.ofNat n * wrR a b c d n) 0)) (en44ca (Int.ofNat B) a b c d (Int.ofNat n) (Int.ofNat n * wrR a b c d n) 0) (loopsBy [(0, lp44c (Int.ofNat B) a b c d (Int.ofNat n))])) a b c d h3 n h1 (by omega) h2 h4 (n - 1) 0 (jk44c (Int.ofNat B) a b c d (Int.ofNat n)) (n + 1) (by omega) (by omega)
        rw [show trQ a b c d n - sumW (wrdN (trQ a b c d)) n 0 = wkN a b c d n by rw [w2 h4]; unfold sumW; omega] at this
        exact this))
    rw [e] at hw
    exact told_le (onP_le hL hL) _ hw

theorem p44c : PureC Try.prog Gl 44 (wordT 16) := p44B 16 (Nat.le_refl _)

end Go.Proofs.Ytdmjcpindopjdaa.Co
