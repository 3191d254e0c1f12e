/-
  Layer 5, the document's side: closed lists, the function. No conditions.
-/
import Derived.Test.YtdmjcpindopjdaaCoVe
namespace Go.Proofs.Ytdmjcpindopjdaa.Co
open Go.Sy

theorem nxt_ok {u v x y : Int} (hu : okG u = true) (hv : okG v = true) (hx : okG x = true) (hy : okG y = true) : okG (nxt u v x y) = true :=
  okG_top (add_nn (top_nonneg (add_nn (Int.le_refl 0) (top_nonneg (mul_nn hx hu)))) (top_nonneg (mul_nn hy hv)))

/-- One edge more: the lists from s that end in each direction, and whether they are few enough. -/
def rowStep (a b c d : Int) (s n k : Nat) (p : Int × Int × Bool) : Int × Int × Bool :=
  (sel (comesB a b c d 0 s (n - k)) (nxt a c p.1 p.2.1) 0, sel (comesB a b c d 1 s (n - k)) (nxt b d p.1 p.2.1) 0, p.2.2 && tst (comesB a b c d 0 s (n - k)) (comesB a b c d 1 s (n - k)) a b c d p.1 p.2.1)

def rowRun (a b c d : Int) (s n : Nat) : Nat → Nat → Int × Int × Bool → Int × Int × Bool
  | 0, _, p => p
  | e + 1, k, p => rowRun a b c d s n e (k + 1) (rowStep a b c d s n k p)

theorem rowStep_ok {a b c d : Int} (ga : okG a = true) (gb : okG b = true) (gc : okG c = true) (gd : okG d = true) (s n k : Nat) (p : Int × Int × Bool) (hx : okG p.1 = true) (hy : okG p.2.1 = true) :
    okG (rowStep a b c d s n k p).1 = true ∧ okG (rowStep a b c d s n k p).2.1 = true := by
  unfold rowStep
  refine ⟨?_, ?_⟩
  · cases comesB a b c d 0 s (n - k) with
    | true => exact nxt_ok ga gc hx hy
    | false => rfl
  · cases comesB a b c d 1 s (n - k) with
    | true => exact nxt_ok gb gd hx hy
    | false => rfl

theorem rowRun_ok {a b c d : Int} (ga : okG a = true) (gb : okG b = true) (gc : okG c = true) (gd : okG d = true) (s n : Nat) : ∀ (e k : Nat) (p : Int × Int × Bool), okG p.1 = true → okG p.2.1 = true → okG (rowRun a b c d s n e k p).1 = true ∧ okG (rowRun a b c d s n e k p).2.1 = true
  | 0, _, p, hx, hy => ⟨hx, hy⟩
  | e + 1, k, p, hx, hy => by
    have h := rowStep_ok ga gb gc gd s n k p hx hy
    exact rowRun_ok ga gb gc gd s n e (k + 1) _ h.1 h.2

theorem sub_wr (n k : Nat) (h : k ≤ n) (hn : n ≤ 1000) : wr IntKind.i64 (isub (Int.ofNat n) (Int.ofNat k)) = Int.ofNat (n - k) := by
  unfold wr isub IntKind.wrap
  simp [IntKind.bits, IntKind.signed]
  omega

theorem run37_2 (p2 p0 : (St → T (Ex × St)) → St → Bool) (r2 r0 : Ex × St) {a b c d : Int} (ga : okG a = true) (gb : okG b = true) (gc : okG c = true) (gd : okG d = true) (n : Nat) (hn : n ≤ 16) (w : Int) (s : Nat) (hs : s ≤ 1) :
    ∀ (e k : Nat) (p : Int × Int × Bool) (j : Nat → V) (q : Nat), n + 1 = k + e → 1 ≤ k → e < q → okG p.1 = true → okG p.2.1 = true →
    (iterT (body37c_2 (onP 2 p2 r2 (onP 0 p0 r0 (loopsBy (ls37c a b c d (Int.ofNat n)))))) (lp37c_2 a b c d (Int.ofNat n)) q (st37c_2 a b c d (Int.ofNat n) w p.2.2 (Int.ofNat s) (Int.ofNat k) p.1 p.2.1 j)).sem =
    some (en37c_2a a b c d (Int.ofNat n) w (rowRun a b c d s n e k p).2.2 (Int.ofNat s) (rowRun a b c d s n e k p).1 (rowRun a b c d s n e k p).2.1)
  | 0, k, p, j, q + 1, h1, _, _, hx, hy => by
    have hk : k = n + 1 := by omega
    subst hk
    exact iter_round (rc37a p2 p0 r2 r0 a b c d _ w (Int.ofNat s) _ p.1 p.2.1 j p.2.2 (ofNat_gt (by omega)))
  | e + 1, k, p, j, q + 1, h1, hk1, h2, hx, hy => by
    have hw := sub_wr n k (by omega) (by omega)
    have h := rowStep_ok ga gb gc gd s n k p hx hy
    rw [iter_round (rc37n p2 p0 r2 r0 a b c d (Int.ofNat n) w (Int.ofNat s) (Int.ofNat k) p.1 p.2.1 j p.2.2 (ofNat_le (by omega)) (ofNat_0 _) (le_true (by simp; omega)) (by rw [hw]; exact ofNat_0 _) (by rw [hw]; exact le_true (by simp; omega)) ga gb gc gd hx hy
      (comesB a b c d 0 s (n - k)) (comesB a b c d 1 s (n - k)) (by rw [hw]; rfl) (by rw [hw]; rfl)), goOn_nm, succ_wr (show k < n + 1 by omega) (by omega)]
    exact run37_2 p2 p0 r2 r0 ga gb gc gd n hn w s hs e (k + 1) (rowStep a b c d s n k p) (fun _ => .und) q (by omega) (by omega) (by omega) h.1 h.2

/-- The closed lists of n edges, and whether they are few enough. -/
def walkA (a b c d : Int) (n : Nat) : Int × Bool :=
  (topI (iadd 0 (rowRun a b c d 0 n n 1 (1, 0, true)).1), (rowRun a b c d 0 n n 1 (1, 0, true)).2.2 && okT (iadd 0 (rowRun a b c d 0 n n 1 (1, 0, true)).1))
def walkB (a b c d : Int) (n : Nat) (p : Int × Bool) : Int × Bool :=
  (topI (iadd p.1 (rowRun a b c d 1 n n 1 (0, 1, p.2)).2.1), (rowRun a b c d 1 n n 1 (0, 1, p.2)).2.2 && okT (iadd p.1 (rowRun a b c d 1 n n 1 (0, 1, p.2)).2.1))
def walkV (a b c d : Int) (n : Nat) : Int × Bool := walkB a b c d n (walkA a b c d n)

theorem ent37_0 (a b c d n w : Int) (F : Bool) (j : Nat → V) : ent37_2_0 a b c d n w F j = st37c_2 a b c d n w F 0 1 1 0 fun i => nth (ent37_2_0 a b c d n w F j).t i := rfl
theorem ent37_1 (a b c d n w : Int) (F : Bool) (j : Nat → V) : ent37_2_1 a b c d n w F j = st37c_2 a b c d n w F 1 1 0 1 fun i => nth (ent37_2_1 a b c d n w F j).t i := rfl
theorem ent37_s (a b c d n : Int) : ent37 a b c d n = st37c a b c d n 0 true 0 fun i => nth (ent37 a b c d n).t i := rfl

theorem rs37_0 (L : Nat → (St → T (Ex × St)) → St → T (Ex × St)) (p2 : (St → T (Ex × St)) → St → Bool) (a b c d n w v x y : Int) (F E : Bool) (j : Nat → V) (h12 : okG v = true) (h13 : okG x = true) (hp2 : p2 (body37c_2 (onP 2 p2 (en37c_2a a b c d n v E 0 x y) L)) (ent37_2_0 a b c d n w F j) = true) :
    roundT (body37c (onP 2 p2 (en37c_2a a b c d n v E 0 x y) L)) (lp37c a b c d n) (st37c a b c d n w F 0 j) = some (.nm, st37c a b c d n (topI (iadd v x)) (E && okT (iadd v x)) 1 fun _ => .und) := by
  cases E with
  | true => exact rs37_0t L p2 a b c d n w v x y F j h12 h13 hp2
  | false => exact rs37_0f L p2 a b c d n w v x y F j h12 h13 hp2

theorem rs37_1 (L : Nat → (St → T (Ex × St)) → St → T (Ex × St)) (p2 : (St → T (Ex × St)) → St → Bool) (a b c d n w v x y : Int) (F E : Bool) (j : Nat → V) (h12 : okG v = true) (h13 : okG y = true) (hp2 : p2 (body37c_2 (onP 2 p2 (en37c_2a a b c d n v E 1 x y) L)) (ent37_2_1 a b c d n w F j) = true) :
    roundT (body37c (onP 2 p2 (en37c_2a a b c d n v E 1 x y) L)) (lp37c a b c d n) (st37c a b c d n w F 1 j) = some (.nm, st37c a b c d n (topI (iadd v y)) (E && okT (iadd v y)) 2 fun _ => .und) := by
  cases E with
  | true => exact rs37_1t L p2 a b c d n w v x y F j h12 h13 hp2
  | false => exact rs37_1f L p2 a b c d n w v x y F j h12 h13 hp2

theorem walks37 {a b c d : Int} (ga : okG a = true) (gb : okG b = true) (gc : okG c = true) (gd : okG d = true) (n : Nat) (h1 : 1 ≤ n) (hn : n ≤ 16) :
    (finF (evalF tab (cxOf Gl tb37 (ls37c a b c d (Int.ofNat n))) Try.f37 [.agg [iV a, iV b, iV c, iV d], iV (Int.ofNat n)] [])).sem = some (.tup [iV (walkV a b c d n).1, bV (walkV a b c d n).2], []) := by
  have hL := loopsBy_le (ls37c a b c d (Int.ofNat n))
  refine told_le (onP_le hL hL) _ (wc37 _ _ a b c d _ _ _ (isP_true ?_))
  generalize hp0 : isP (loopsBy (ls37c a b c d (Int.ofNat n))) 0 (en37ca a b c d (Int.ofNat n) (walkV a b c d n).1 (walkV a b c d n).2) = p0
  generalize hr0 : en37ca a b c d (Int.ofNat n) (walkV a b c d n).1 (walkV a b c d n).2 = r0
  have hMM : LLe (onP 0 p0 r0 (loopsBy (ls37c a b c d (Int.ofNat n)))) (onP 0 p0 r0 (loopsBy (ls37c a b c d (Int.ofNat n)))) := by rw [← hp0, ← hr0]; exact isP_le hL 0 _
  have m2 : ∀ f st, (onP 0 p0 r0 (loopsBy (ls37c a b c d (Int.ofNat n)))) 2 f st = iterT f (lp37c_2 a b c d (Int.ofNat n)) (n + 1) st := fun f st => rfl
  have g1 : okG 1 = true := rfl
  have g0 : okG 0 = true := rfl
  have k0 := rowRun_ok ga gb gc gd 0 n n 1 (1, 0, true) g1 g0
  have k1 := rowRun_ok ga gb gc gd 1 n n 1 (0, 1, (walkA a b c d n).2) g0 g1
  have v1 : okG (walkA a b c d n).1 = true := okG_top (add_nn (Int.le_refl 0) (okG_iff.1 k0.1).1)
  -- the rounds
  have r1 : ∀ j, roundT (body37c (onP 0 p0 r0 (loopsBy (ls37c a b c d (Int.ofNat n))))) (lp37c a b c d (Int.ofNat n)) (st37c a b c d (Int.ofNat n) 0 true 0 j) = some (.nm, st37c a b c d (Int.ofNat n) (walkA a b c d n).1 (walkA a b c d n).2 1 fun _ => .und) := by
    intro j
    refine roundT_le (evalC_le (Γ := ⟨callT tb37, (onP 0 p0 r0 (loopsBy (ls37c a b c d (Int.ofNat n)))), Gl⟩) (onP_le (k := 2) (r := en37c_2a a b c d (Int.ofNat n) 0 (rowRun a b c d 0 n n 1 (1, 0, true)).2.2 0 (rowRun a b c d 0 n n 1 (1, 0, true)).1 (rowRun a b c d 0 n n 1 (1, 0, true)).2.1) hMM hMM) (loopBody Try.f37 0) 0 _) ?_
    refine rs37_0 _ _ a b c d _ 0 0 _ _ true _ j g0 k0.1 (isP_true ?_)
    rw [m2, ent37_0]
    exact run37_2 _ p0 _ r0 ga gb gc gd n hn 0 0 (by omega) n 1 (1, 0, true) _ (n + 1) (by omega) (by omega) (by omega) g1 g0
  have r2 : ∀ j, roundT (body37c (onP 0 p0 r0 (loopsBy (ls37c a b c d (Int.ofNat n))))) (lp37c a b c d (Int.ofNat n)) (st37c a b c d (Int.ofNat n) (walkA a b c d n).1 (walkA a b c d n).2 1 j) = some (.nm, st37c a b c d (Int.ofNat n) (walkV a b c d n).1 (walkV a b c d n).2 2 fun _ => .und) := by
    intro j
    refine roundT_le (evalC_le (Γ := ⟨callT tb37, (onP 0 p0 r0 (loopsBy (ls37c a b c d (Int.ofNat n)))), Gl⟩) (onP_le (k := 2) (r := en37c_2a a b c d (Int.ofNat n) (walkA a b c d n).1 (rowRun a b c d 1 n n 1 (0, 1, (walkA a b c d n).2)).2.2 1 (rowRun a b c d 1 n n 1 (0, 1, (walkA a b c d n).2)).1 (rowRun a b c d 1 n n 1 (0, 1, (walkA a b c d n).2)).2.1) hMM hMM) (loopBody Try.f37 0) 0 _) ?_
    refine rs37_1 _ _ a b c d _ (walkA a b c d n).1 (walkA a b c d n).1 _ _ (walkA a b c d n).2 _ j v1 k1.2 (isP_true ?_)
    rw [m2, ent37_1]
    exact run37_2 _ p0 _ r0 ga gb gc gd n hn _ 1 (by omega) n 1 (0, 1, (walkA a b c d n).2) _ (n + 1) (by omega) (by omega) (by omega) g0 g1
  show (iterT (body37c (onP 0 p0 r0 (loopsBy (ls37c a b c d (Int.ofNat n))))) (lp37c a b c d (Int.ofNat n)) 3 (ent37 a b c d (Int.ofNat n))).sem = _
  rw [ent37_s, iter_round (r1 _), goOn_nm, iter_round (r2 _), goOn_nm, iter_round (rs37x _ a b c d _ _ 0 0 0 true _ _), ← hr0]
  rfl

def okM4 (x : Int × Int × Int × Int) : Bool := okG x.1 && (okG x.2.1 && (okG x.2.2.1 && okG x.2.2.2))

def walkT : List V → T (V × List Blk) := ap2 gA gI fun x n => .br (ile 1 n) (.br (ile n 16) (.br (okM4 x) (out (.tup [iV (walkV x.1 x.2.1 x.2.2.1 x.2.2.2 (toN n)).1, bV (walkV x.1 x.2.1 x.2.2.1 x.2.2.2 (toN n)).2])) .fail) .fail) .fail

theorem p37c : PureC Try.prog Gl 37 walkT := by
  refine pureC_intro tabOK mixed Try.func37 (by kernel_rfl) (by kernel_rfl) fun vs v h' h => ?_
  obtain ⟨x, n, rfl, h⟩ := ap2_some gA_ok gI_ok h
  obtain ⟨h1, h⟩ := sem_br_fail h
  obtain ⟨h2, h⟩ := sem_br_fail h
  obtain ⟨h3, h⟩ := sem_br_fail h
  have h1 : (1 : Int) ≤ n := of_decide_eq_true h1
  have h2 : n ≤ 16 := of_decide_eq_true h2
  obtain ⟨k, rfl⟩ := Int.eq_ofNat_of_zero_le (show (0 : Int) ≤ n by omega)
  have := sem_leaf h
  simp only [Prod.mk.injEq] at this
  obtain ⟨rfl, rfl⟩ := this
  simp only [okM4, Bool.and_eq_true] at h3
  have hx := cx_ok tb37_ok (ls37c x.1 x.2.1 x.2.2.1 x.2.2.2 (Int.ofNat k))
  exact ⟨_, cxOf Gl tb37 _, _, ArgLE.refl _, rfl, hx.1, hx.2, walks37 h3.1 h3.2.1 h3.2.2.1 h3.2.2.2 k (by omega) (by omega), RowsLE.refl _⟩

end Go.Proofs.Ytdmjcpindopjdaa.Co
