/-
  Layer 5: greatest common divisors, totients, divisors, lists held against one another; the law CountNumbers as a function. No conditions.
-/
import Derived.Test.YtdmjcpindopjdaaCoA
namespace Go.Proofs.Ytdmjcpindopjdaa.Co
open Go.Sy

/-! ### Small laws -/

def out (v : V) : T (V × List Blk) := .leaf (v, [])

def ap1 {α : Type} (d : V → Option α) (F : α → T (V × List Blk)) : List V → T (V × List Blk)
  | [v] => match d v with
    | some a => F a
    | none => .fail
  | _ => .fail

def ap2 {α β : Type} (d : V → Option α) (e : V → Option β) (F : α → β → T (V × List Blk)) : List V → T (V × List Blk)
  | [v, u] => match d v, e u with
    | some a, some b => F a b
    | _, _ => .fail
  | _ => .fail

theorem ap1_some {α : Type} {d : V → Option α} {c : α → V} (hd : ∀ v a, d v = some a → v = c a) {F : α → T (V × List Blk)} {vs : List V} {r : V × List Blk} (h : (ap1 d F vs).sem = some r) :
    ∃ a, vs = [c a] ∧ (F a).sem = some r := by
  unfold ap1 at h
  split at h
  · split at h
    · rename_i v _ a ha
      exact ⟨a, by rw [hd v a ha], h⟩
    · cases h
  · cases h

theorem ap2_some {α β : Type} {d : V → Option α} {e : V → Option β} {c : α → V} {c' : β → V} (hd : ∀ v a, d v = some a → v = c a) (he : ∀ v b, e v = some b → v = c' b) {F : α → β → T (V × List Blk)}
    {vs : List V} {r : V × List Blk} (h : (ap2 d e F vs).sem = some r) : ∃ a b, vs = [c a, c' b] ∧ (F a b).sem = some r := by
  unfold ap2 at h
  split at h
  · split at h
    · rename_i v u _ _ a b ha hb
      exact ⟨a, b, by rw [hd v a ha, he u b hb], h⟩
    · cases h
  · cases h

theorem gI_ok : ∀ v a, gI v = some a → v = iV a := fun _ _ h => gI_some h

theorem lt_true {a b : Int} (h : a < b) : ilt a b = true := by simpa [ilt] using h
theorem lt_false {a b : Int} (h : b ≤ a) : ilt a b = false := by simp [ilt]; omega
theorem le_true {a b : Int} (h : a ≤ b) : ile a b = true := by simpa [ile] using h
theorem le_false {a b : Int} (h : b < a) : ile a b = false := by simp [ile]; omega
theorem ieq_self (a : Int) : ieq a a = true := by simp [ieq]
theorem ieq_true {a b : Int} (h : a = b) : ieq a b = true := by subst h; exact ieq_self a
theorem ieq_false {a b : Int} (h : a ≠ b) : ieq a b = false := by simpa [ieq] using h

def allN (n : Nat) (p : Nat → Bool) : Bool := (List.range n).all p
theorem allN_iff {n : Nat} {p : Nat → Bool} : allN n p = true ↔ ∀ i, i < n → p i = true := by simp [allN]
theorem allN_true {n : Nat} : allN n (fun _ => Bool.true) = true := allN_iff.2 fun _ _ => rfl

theorem succ_wr {i n : Nat} (h : i < n) (hn : n ≤ 4611686018427387904) : wr .i64 (iadd (Int.ofNat i) 1) = Int.ofNat (i + 1) := by
  unfold wr iadd IntKind.wrap
  simp [IntKind.bits, IntKind.signed]
  omega
theorem ofNat_lt {i n : Nat} (h : i < n) : ilt (Int.ofNat i) (Int.ofNat n) = true := by simp [ilt]; omega
theorem ofNat_ge {i n : Nat} (h : n ≤ i) : ilt (Int.ofNat i) (Int.ofNat n) = false := by simp [ilt]; omega
theorem ofNat_in {i n : Nat} (h : i < n) : band (ile 0 (Int.ofNat i)) (ilt (Int.ofNat i) (Int.ofNat n)) = true := by rw [ofNat_lt h]; simp [band, ile]
theorem ofNat_le {i n : Nat} (h : i ≤ n) : ile (Int.ofNat i) (Int.ofNat n) = true := le_true (by simp; omega)
theorem ofNat_gt {i n : Nat} (h : n < i) : ile (Int.ofNat i) (Int.ofNat n) = false := le_false (by simp; omega)
theorem ofNat_0 (i : Nat) : ile 0 (Int.ofNat i) = true := le_true (by simp)

/-- A function of nothing. -/
def unitT (f : V) : List V → T (V × List Blk)
  | [] => .leaf (f, [])
  | _ => .fail

theorem p15 : PureC Try.prog Gl 15 (unitT (bV true)) := by
  refine PureC.congr (pureC_body tabOK mixed Try.func15 (by kernel_rfl) (by kernel_rfl) (Γ := cxOf Gl t17 (loops 130)) (cx_ok t17_ok _)) fun vs r h => ?_
  unfold unitT at h
  split at h
  · rw [sem_leaf h]; exact awake15
  · cases h

/-! ### The greatest common divisor -/

def gcdI (a b : Int) : Int := Int.ofNat (Nat.gcd (toN a) (toN b))
def gcdT : List V → T (V × List Blk) := ap2 gI gI fun a b => .br (ile 0 a) (.br (ile 0 b) (out (iV (gcdI a b))) .fail) .fail

theorem tmod_nat (x y : Nat) : itmod (Int.ofNat x) (Int.ofNat y) = Int.ofNat (x % y) := rfl

theorem gcd_step {x y : Nat} (h : 0 < y) : Nat.gcd y (x % y) = Nat.gcd x y := by
  rw [Nat.gcd_comm x y, Nat.gcd_rec y x, Nat.gcd_comm]

def lp56 (a b : Int) : Lp := ⟨[true, true, false, false, false, false, false, false, false, false, false, false], 0, [true, true, false, false, false, false, false, false, false, false, false, false], 0, toN b + 1⟩
def st56 (a b : Int) (x y : Int) (j : Nat → V) : St := ⟨[iV x, iV y, j 2, j 3, j 4, j 5, j 6, j 7, j 8, j 9, j 10, j 11], []⟩
def en56a (a b : Int) (x y : Int) : Ex × St := (.ex 0, ⟨[iV x, iV y, .und, .und, .und, .und, .und, .und, .und, .und, .und, .und], []⟩)
noncomputable def body56 (L : Nat → (St → T (Ex × St)) → St → T (Ex × St)) : St → T (Ex × St) := fun st => evalC tab ⟨callT t0, L, Gl⟩ (loopBody Try.f56 0) 0 st
theorem round56a_p (L : Nat → (St → T (Ex × St)) → St → T (Ex × St)) (a b : Int) (x y : Int)  (j : Nat → V) : ((body56 L (st56 a b x y j)).bind fun r => T.leaf (cutR (lp56 a b) r)).path [false] = some ([(bnot (ieq y 0))], ((.ex 0), ⟨[(iV x), (iV y), .und, .und, .und, .und, .und, .und, .und, .und, .und, .und], []⟩)) := by kernel_rfl
theorem round56a (L : Nat → (St → T (Ex × St)) → St → T (Ex × St)) (a b : Int) (x y : Int)  (j : Nat → V) (h0 : ieq y 0 = true) : ((body56 L (st56 a b x y j)).bind fun r => T.leaf (cutR (lp56 a b) r)).sem = some ((.ex 0), ⟨[(iV x), (iV y), .und, .und, .und, .und, .und, .und, .und, .und, .und, .und], []⟩) := by
  exact sem_of_path (round56a_p L a b x y j) (by simp only [h0] <;> rfl)
theorem round56n_p (L : Nat → (St → T (Ex × St)) → St → T (Ex × St)) (a b : Int) (x y : Int)  (j : Nat → V) : ((body56 L (st56 a b x y j)).bind fun r => T.leaf (cutR (lp56 a b) r)).path [true, false] = some ([(bnot (ieq y 0)), (ieq y 0)], (.nm, ⟨[(iV y), (iV (itmod x y)), .und, .und, .und, .und, .und, .und, .und, .und, .und, .und], []⟩)) := by kernel_rfl
theorem round56n (L : Nat → (St → T (Ex × St)) → St → T (Ex × St)) (a b : Int) (x y : Int)  (j : Nat → V) (h0 : ieq y 0 = false) : ((body56 L (st56 a b x y j)).bind fun r => T.leaf (cutR (lp56 a b) r)).sem = some (.nm, ⟨[(iV y), (iV (itmod x y)), .und, .und, .und, .und, .und, .und, .und, .und, .und, .und], []⟩) := by
  exact sem_of_path (round56n_p L a b x y j) (by simp only [h0] <;> rfl)
def jk56 (a b : Int)  : Nat → V
  | 4 => (iV 0)
  | _ => undefV

theorem way56_p (L : Nat → (St → T (Ex × St)) → St → T (Ex × St)) (p0 : (St → T (Ex × St)) → St → Bool) (a b : Int) (x y : Int) : (finF (evalF tab ⟨callT t0, (onP 0 p0 (en56a a b x y) L), Gl⟩ Try.f56 [iV a, iV b] [])).path [true] = some ([(p0 (body56 (onP 0 p0 (en56a a b x y) L)) (st56 a b a b (jk56 a b )))], ((iV x), [])) := by kernel_rfl
theorem way56 (L : Nat → (St → T (Ex × St)) → St → T (Ex × St)) (p0 : (St → T (Ex × St)) → St → Bool) (a b : Int) (x y : Int)  (hp0 : p0 (body56 (onP 0 p0 (en56a a b x y) L)) (st56 a b a b (jk56 a b )) = true) : (finF (evalF tab ⟨callT t0, (onP 0 p0 (en56a a b x y) L), Gl⟩ Try.f56 [iV a, iV b] [])).sem = some ((iV x), []) := by
  exact sem_of_path (way56_p L p0 a b x y) (by simp only [hp0] <;> rfl)


theorem run56 (L : Nat → (St → T (Ex × St)) → St → T (Ex × St)) (a b : Int) : ∀ (q x y : Nat) (j : Nat → V), y < q → (iterT (body56 L) (lp56 a b) q (st56 a b (Int.ofNat x) (Int.ofNat y) j)).sem = some (en56a a b (Int.ofNat (Nat.gcd x y)) 0)
  | q + 1, x, y, j, h => by
    by_cases hy : y = 0
    · subst hy
      rw [iter_round (round56a L a b (Int.ofNat x) (Int.ofNat 0) j rfl), Nat.gcd_zero_right]
      rfl
    · have hm : x % y < y := Nat.mod_lt _ (by omega)
      rw [iter_round (round56n L a b (Int.ofNat x) (Int.ofNat y) j (ieq_false (by simp; omega))), tmod_nat, ← gcd_step (x := x) (y := y) (by omega)]
      exact run56 L a b q y (x % y) (fun _ => .und) (by omega)

def lp42 (a b : Int) : Lp := ⟨[true, true, false, false, false, false, false, false, false, false, false, false], 0, [true, true, false, false, false, false, false, false, false, false, false, false], 0, toN b + 1⟩
def st42 (a b : Int) (x y : Int) (j : Nat → V) : St := ⟨[iV x, iV y, j 2, j 3, j 4, j 5, j 6, j 7, j 8, j 9, j 10, j 11], []⟩
def en42a (a b : Int) (x y : Int) : Ex × St := (.ex 0, ⟨[iV x, iV y, .und, .und, .und, .und, .und, .und, .und, .und, .und, .und], []⟩)
noncomputable def body42 (L : Nat → (St → T (Ex × St)) → St → T (Ex × St)) : St → T (Ex × St) := fun st => evalC tab ⟨callT t0, L, Gl⟩ (loopBody Try.f42 0) 0 st
theorem round42a_p (L : Nat → (St → T (Ex × St)) → St → T (Ex × St)) (a b : Int) (x y : Int)  (j : Nat → V) : ((body42 L (st42 a b x y j)).bind fun r => T.leaf (cutR (lp42 a b) r)).path [false] = some ([(ilt 0 y)], ((.ex 0), ⟨[(iV x), (iV y), .und, .und, .und, .und, .und, .und, .und, .und, .und, .und], []⟩)) := by kernel_rfl
theorem round42a (L : Nat → (St → T (Ex × St)) → St → T (Ex × St)) (a b : Int) (x y : Int)  (j : Nat → V) (h0 : ilt 0 y = false) : ((body42 L (st42 a b x y j)).bind fun r => T.leaf (cutR (lp42 a b) r)).sem = some ((.ex 0), ⟨[(iV x), (iV y), .und, .und, .und, .und, .und, .und, .und, .und, .und, .und], []⟩) := by
  exact sem_of_path (round42a_p L a b x y j) (by simp only [h0] <;> rfl)
theorem round42n_p (L : Nat → (St → T (Ex × St)) → St → T (Ex × St)) (a b : Int) (x y : Int)  (j : Nat → V) : ((body42 L (st42 a b x y j)).bind fun r => T.leaf (cutR (lp42 a b) r)).path [true, false] = some ([(ilt 0 y), (ieq y 0)], (.nm, ⟨[(iV y), (iV (itmod x y)), .und, .und, .und, .und, .und, .und, .und, .und, .und, .und], []⟩)) := by kernel_rfl
theorem round42n (L : Nat → (St → T (Ex × St)) → St → T (Ex × St)) (a b : Int) (x y : Int)  (j : Nat → V) (h0 : ilt 0 y = true) (h1 : ieq y 0 = false) : ((body42 L (st42 a b x y j)).bind fun r => T.leaf (cutR (lp42 a b) r)).sem = some (.nm, ⟨[(iV y), (iV (itmod x y)), .und, .und, .und, .und, .und, .und, .und, .und, .und, .und], []⟩) := by
  exact sem_of_path (round42n_p L a b x y j) (by simp only [h0, h1] <;> rfl)
def jk42 (a b : Int)  : Nat → V
  | 4 => (iV 0)
  | _ => undefV

theorem way42_p (L : Nat → (St → T (Ex × St)) → St → T (Ex × St)) (p0 : (St → T (Ex × St)) → St → Bool) (a b : Int) (x y : Int) : (finF (evalF tab ⟨callT t0, (onP 0 p0 (en42a a b x y) L), Gl⟩ Try.f42 [iV a, iV b] [])).path [true] = some ([(p0 (body42 (onP 0 p0 (en42a a b x y) L)) (st42 a b a b (jk42 a b )))], ((iV x), [])) := by kernel_rfl
theorem way42 (L : Nat → (St → T (Ex × St)) → St → T (Ex × St)) (p0 : (St → T (Ex × St)) → St → Bool) (a b : Int) (x y : Int)  (hp0 : p0 (body42 (onP 0 p0 (en42a a b x y) L)) (st42 a b a b (jk42 a b )) = true) : (finF (evalF tab ⟨callT t0, (onP 0 p0 (en42a a b x y) L), Gl⟩ Try.f42 [iV a, iV b] [])).sem = some ((iV x), []) := by
  exact sem_of_path (way42_p L p0 a b x y) (by simp only [hp0] <;> rfl)


theorem run42 (L : Nat → (St → T (Ex × St)) → St → T (Ex × St)) (a b : Int) : ∀ (q x y : Nat) (j : Nat → V), y < q → (iterT (body42 L) (lp42 a b) q (st42 a b (Int.ofNat x) (Int.ofNat y) j)).sem = some (en42a a b (Int.ofNat (Nat.gcd x y)) 0)
  | q + 1, x, y, j, h => by
    by_cases hy : y = 0
    · subst hy
      rw [iter_round (round42a L a b (Int.ofNat x) (Int.ofNat 0) j rfl), Nat.gcd_zero_right]
      rfl
    · have hm : x % y < y := Nat.mod_lt _ (by omega)
      rw [iter_round (round42n L a b (Int.ofNat x) (Int.ofNat y) j (lt_true (by simp; omega)) (ieq_false (by simp; omega))), tmod_nat, ← gcd_step (x := x) (y := y) (by omega)]
      exact run42 L a b q y (x % y) (fun _ => .und) (by omega)

theorem gcdT_some {vs : List V} {r : V × List Blk} (h : (gcdT vs).sem = some r) : ∃ x y : Nat, vs = [iV (Int.ofNat x), iV (Int.ofNat y)] ∧ r = (iV (Int.ofNat (Nat.gcd x y)), []) := by
  obtain ⟨a, b, rfl, h⟩ := ap2_some gI_ok gI_ok h
  obtain ⟨h1, h⟩ := sem_br_fail h
  obtain ⟨h2, h⟩ := sem_br_fail h
  obtain ⟨x, rfl⟩ := Int.eq_ofNat_of_zero_le (of_decide_eq_true h1)
  obtain ⟨y, rfl⟩ := Int.eq_ofNat_of_zero_le (of_decide_eq_true h2)
  exact ⟨x, y, rfl, sem_leaf h⟩

theorem p56 : PureC Try.prog Gl 56 gcdT := by
  refine pureC_intro tabOK mixed Try.func56 (by kernel_rfl) (by kernel_rfl) fun vs v h' h => ?_
  obtain ⟨x, y, rfl, hr⟩ := gcdT_some h
  simp only [Prod.mk.injEq] at hr
  obtain ⟨rfl, rfl⟩ := hr
  have hx := cx_ok t0_ok [(0, lp56 (Int.ofNat x) (Int.ofNat y))]
  have hL := loopsBy_le [(0, lp56 (Int.ofNat x) (Int.ofNat y))]
  exact ⟨_, cxOf Gl t0 _, _, ArgLE.refl _, rfl, hx.1, hx.2, told_le (onP_le hL hL) _ (way56 _ _ _ _ _ _ (isP_true (run56 _ _ _ (y + 1) x y _ (by omega)))), RowsLE.refl _⟩

theorem p42 : PureC Try.prog Gl 42 gcdT := by
  refine pureC_intro tabOK mixed Try.func42 (by kernel_rfl) (by kernel_rfl) fun vs v h' h => ?_
  obtain ⟨x, y, rfl, hr⟩ := gcdT_some h
  simp only [Prod.mk.injEq] at hr
  obtain ⟨rfl, rfl⟩ := hr
  have hx := cx_ok t0_ok [(0, lp42 (Int.ofNat x) (Int.ofNat y))]
  have hL := loopsBy_le [(0, lp42 (Int.ofNat x) (Int.ofNat y))]
  exact ⟨_, cxOf Gl t0 _, _, ArgLE.refl _, rfl, hx.1, hx.2, told_le (onP_le hL hL) _ (way42 _ _ _ _ _ _ (isP_true (run42 _ _ _ (y + 1) x y _ (by omega)))), RowsLE.refl _⟩

noncomputable def tbB1 : List (Nat × (List V → T (V × List Blk))) := [(56, gcdT), (42, gcdT)]
theorem tbB1_ok : AllPure Try.prog Gl tbB1 := .cons p56 <| .cons p42 .nil

/-! ### Totients -/

/-- How many of the first i numbers have no divisor above 1 with n. -/
def totC (n : Nat) : Nat → Nat
  | 0 => 0
  | i + 1 => if Nat.gcd (i + 1) n = 1 then totC n i + 1 else totC n i

theorem totC_le (n : Nat) : ∀ i, totC n i ≤ i
  | 0 => Nat.le_refl _
  | i + 1 => by
    have := totC_le n i
    unfold totC
    split <;> omega

def totI (n : Int) : Int := Int.ofNat (totC (toN n) (toN n))
def totT : List V → T (V × List Blk) := ap1 gI fun n => .br (ile 1 n) (.br (ile n 1048576) (out (iV (totI n))) .fail) .fail

theorem gcdI_nat (x y : Nat) : gcdI (Int.ofNat x) (Int.ofNat y) = Int.ofNat (Nat.gcd x y) := rfl

def lp41 (n : Int) : Lp := ⟨[true, false, false, true, true, false, false, false, false, false, false, false, false, false, false, false, false], 0, [false, false, false, true, false, false, false, false, false, false, false, false, false, false, false, false, false], 0, toN n + 1⟩
def st41 (n : Int) (k i : Int) (j : Nat → V) : St := ⟨[iV n, j 1, j 2, iV k, iV i, j 5, j 6, j 7, j 8, j 9, j 10, j 11, j 12, j 13, j 14, j 15, j 16], []⟩
def en41a (n : Int) (k i : Int) : Ex × St := (.ex 0, ⟨[.und, .und, .und, iV k, .und, .und, .und, .und, .und, .und, .und, .und, .und, .und, .und, .und, .und], []⟩)
noncomputable def body41 (L : Nat → (St → T (Ex × St)) → St → T (Ex × St)) : St → T (Ex × St) := fun st => evalC tab ⟨callT tbB1, L, Gl⟩ (loopBody Try.f41 0) 0 st
theorem round41a_p (L : Nat → (St → T (Ex × St)) → St → T (Ex × St)) (n : Int) (k i : Int)  (j : Nat → V) : ((body41 L (st41 n k i j)).bind fun r => T.leaf (cutR (lp41 n) r)).path [false] = some ([(ile i n)], ((.ex 0), ⟨[.und, .und, .und, (iV k), .und, .und, .und, .und, .und, .und, .und, .und, .und, .und, .und, .und, .und], []⟩)) := by kernel_rfl
theorem round41a (L : Nat → (St → T (Ex × St)) → St → T (Ex × St)) (n : Int) (k i : Int)  (j : Nat → V) (h0 : ile i n = false) : ((body41 L (st41 n k i j)).bind fun r => T.leaf (cutR (lp41 n) r)).sem = some ((.ex 0), ⟨[.und, .und, .und, (iV k), .und, .und, .und, .und, .und, .und, .und, .und, .und, .und, .und, .und, .und], []⟩) := by
  exact sem_of_path (round41a_p L n k i j) (by simp only [h0] <;> rfl)
theorem round41t_p (L : Nat → (St → T (Ex × St)) → St → T (Ex × St)) (n : Int) (k i : Int)  (j : Nat → V) : ((body41 L (st41 n k i j)).bind fun r => T.leaf (cutR (lp41 n) r)).path [true, true, true, true] = some ([(ile i n), (ile 0 i), (ile 0 n), (ieq (gcdI i n) 1)], (.nm, ⟨[(iV n), .und, .und, (iV (wr IntKind.i64 (iadd k 1))), (iV (wr IntKind.i64 (iadd i 1))), .und, .und, .und, .und, .und, .und, .und, .und, .und, .und, .und, .und], []⟩)) := by kernel_rfl
theorem round41t (L : Nat → (St → T (Ex × St)) → St → T (Ex × St)) (n : Int) (k i : Int)  (j : Nat → V) (h0 : ile i n = true) (h1 : ile 0 i = true) (h2 : ile 0 n = true) (h3 : ieq (gcdI i n) 1 = true) : ((body41 L (st41 n k i j)).bind fun r => T.leaf (cutR (lp41 n) r)).sem = some (.nm, ⟨[(iV n), .und, .und, (iV (wr IntKind.i64 (iadd k 1))), (iV (wr IntKind.i64 (iadd i 1))), .und, .und, .und, .und, .und, .und, .und, .und, .und, .und, .und, .und], []⟩) := by
  exact sem_of_path (round41t_p L n k i j) (by simp only [h0, h1, h2, h3] <;> rfl)
theorem round41f_p (L : Nat → (St → T (Ex × St)) → St → T (Ex × St)) (n : Int) (k i : Int)  (j : Nat → V) : ((body41 L (st41 n k i j)).bind fun r => T.leaf (cutR (lp41 n) r)).path [true, true, true, false] = some ([(ile i n), (ile 0 i), (ile 0 n), (ieq (gcdI i n) 1)], (.nm, ⟨[(iV n), .und, .und, (iV k), (iV (wr IntKind.i64 (iadd i 1))), .und, .und, .und, .und, .und, .und, .und, .und, .und, .und, .und, .und], []⟩)) := by kernel_rfl
theorem round41f (L : Nat → (St → T (Ex × St)) → St → T (Ex × St)) (n : Int) (k i : Int)  (j : Nat → V) (h0 : ile i n = true) (h1 : ile 0 i = true) (h2 : ile 0 n = true) (h3 : ieq (gcdI i n) 1 = false) : ((body41 L (st41 n k i j)).bind fun r => T.leaf (cutR (lp41 n) r)).sem = some (.nm, ⟨[(iV n), .und, .und, (iV k), (iV (wr IntKind.i64 (iadd i 1))), .und, .und, .und, .und, .und, .und, .und, .und, .und, .und, .und, .und], []⟩) := by
  exact sem_of_path (round41f_p L n k i j) (by simp only [h0, h1, h2, h3] <;> rfl)
def jk41 (n : Int)  : Nat → V
  | 2 => (iV 0)
  | _ => undefV

theorem way41_p (L : Nat → (St → T (Ex × St)) → St → T (Ex × St)) (p0 : (St → T (Ex × St)) → St → Bool) (n : Int) (k i : Int) : (finF (evalF tab ⟨callT tbB1, (onP 0 p0 (en41a n k i) L), Gl⟩ Try.f41 [iV n] [])).path [true] = some ([(p0 (body41 (onP 0 p0 (en41a n k i) L)) (st41 n 0 1 (jk41 n )))], ((iV k), [])) := by kernel_rfl
theorem way41 (L : Nat → (St → T (Ex × St)) → St → T (Ex × St)) (p0 : (St → T (Ex × St)) → St → Bool) (n : Int) (k i : Int)  (hp0 : p0 (body41 (onP 0 p0 (en41a n k i) L)) (st41 n 0 1 (jk41 n )) = true) : (finF (evalF tab ⟨callT tbB1, (onP 0 p0 (en41a n k i) L), Gl⟩ Try.f41 [iV n] [])).sem = some ((iV k), []) := by
  exact sem_of_path (way41_p L p0 n k i) (by simp only [hp0] <;> rfl)


theorem run41 (L : Nat → (St → T (Ex × St)) → St → T (Ex × St)) (n : Nat) (hn : n ≤ 1048576) : ∀ (d i : Nat) (j : Nat → V) (q : Nat), n = i + d → d < q →
    (iterT (body41 L) (lp41 (Int.ofNat n)) q (st41 (Int.ofNat n) (Int.ofNat (totC n i)) (Int.ofNat (i + 1)) j)).sem = some (en41a (Int.ofNat n) (Int.ofNat (totC n n)) 0)
  | 0, i, j, q + 1, h1, _ => by
    have hi : i = n := by omega
    subst hi
    exact iter_round (round41a L (Int.ofNat i) _ (Int.ofNat (i + 1)) j (ofNat_gt (by omega)))
  | d + 1, i, j, q + 1, h1, h2 => by
    have hle := totC_le n i
    by_cases hg : Nat.gcd (i + 1) n = 1
    · rw [iter_round (round41t L (Int.ofNat n) _ (Int.ofNat (i + 1)) j (ofNat_le (by omega)) (ofNat_0 _) (ofNat_0 _) (ieq_true (by rw [gcdI_nat, hg]; rfl))),
        succ_wr (show totC n i < n by omega) (by omega), succ_wr (show i + 1 < n + 1 by omega) (by omega), show totC n i + 1 = totC n (i + 1) by rw [totC, if_pos hg]]
      exact run41 L n hn d (i + 1) (fun _ => .und) q (by omega) (by omega)
    · rw [iter_round (round41f L (Int.ofNat n) _ (Int.ofNat (i + 1)) j (ofNat_le (by omega)) (ofNat_0 _) (ofNat_0 _) (ieq_false (by rw [gcdI_nat]; intro h; exact hg (Int.ofNat.inj h)))),
        succ_wr (show i + 1 < n + 1 by omega) (by omega), show totC n i = totC n (i + 1) by rw [totC, if_neg hg]]
      exact run41 L n hn d (i + 1) (fun _ => .und) q (by omega) (by omega)

theorem p41 : PureC Try.prog Gl 41 totT := by
  refine pureC_intro tabOK mixed Try.func41 (by kernel_rfl) (by kernel_rfl) fun vs v h' h => ?_
  obtain ⟨a, rfl, h⟩ := ap1_some gI_ok h
  obtain ⟨h1, h⟩ := sem_br_fail h
  obtain ⟨h2, h⟩ := sem_br_fail h
  have h1 : (1 : Int) ≤ a := of_decide_eq_true h1
  have h2 : a ≤ 1048576 := of_decide_eq_true h2
  obtain ⟨n, rfl⟩ := Int.eq_ofNat_of_zero_le (show (0 : Int) ≤ a by omega)
  have := sem_leaf h
  simp only [Prod.mk.injEq] at this
  obtain ⟨rfl, rfl⟩ := this
  have hx := cx_ok tbB1_ok [(0, lp41 (Int.ofNat n))]
  have hL := loopsBy_le [(0, lp41 (Int.ofNat n))]
  exact ⟨_, cxOf Gl tbB1 _, _, ArgLE.refl _, rfl, hx.1, hx.2, told_le (onP_le hL hL) _ (way41 _ _ _ _ _ (isP_true (run41 _ n (by omega) n 0 _ (n + 1) (by omega) (by omega)))), RowsLE.refl _⟩

noncomputable def tbB2 : List (Nat × (List V → T (V × List Blk))) := (41, totT) :: tbB1
theorem tbB2_ok : AllPure Try.prog Gl tbB2 := .cons p41 tbB1_ok

def badN (n : Int) : Bool := bor (ilt n 1) (ilt 1048576 n)
def totientT : List V → T (V × List Blk) := ap1 gI fun n => .br (badN n) (out (.tup [iV 0, iV 40])) (out (.tup [iV (totI n), iV 0]))

/-- Too small, too great, or neither. -/
theorem badN_cases (n : Int) : (ilt n 1 = true ∧ ilt 1048576 n = false ∧ badN n = true) ∨ (ilt n 1 = false ∧ ilt 1048576 n = true ∧ badN n = true) ∨ (ilt n 1 = false ∧ ilt 1048576 n = false ∧ badN n = false ∧ ∃ k : Nat, n = Int.ofNat k ∧ 1 ≤ k ∧ k ≤ 1048576) := by
  unfold badN
  by_cases h : n < 1
  · rw [lt_true h, lt_false (show n ≤ 1048576 by omega)]
    exact .inl ⟨rfl, rfl, rfl⟩
  · have h : 1 ≤ n := by omega
    by_cases h2 : 1048576 < n
    · rw [lt_false h, lt_true h2]
      exact .inr (.inl ⟨rfl, rfl, rfl⟩)
    · rw [lt_false h, lt_false (show n ≤ 1048576 by omega)]
      obtain ⟨k, rfl⟩ := Int.eq_ofNat_of_zero_le (show (0 : Int) ≤ n by omega)
      exact .inr (.inr ⟨rfl, rfl, rfl, k, rfl, by omega, by omega⟩)

theorem way23a_p (L : Nat → (St → T (Ex × St)) → St → T (Ex × St)) (n : Int) : (finF (evalF tab ⟨callT tbB2, L, Gl⟩ Try.f23 [iV n] [])).path [true, true, true, true] = some ([(ilt n 1), (ilt n 1), (ilt n 1), Bool.true], ((.tup [(iV 0), (iV 40)]), [])) := by kernel_rfl
theorem way23a (L : Nat → (St → T (Ex × St)) → St → T (Ex × St)) (n : Int) (h0 : ilt n 1 = true) : (finF (evalF tab ⟨callT tbB2, L, Gl⟩ Try.f23 [iV n] [])).sem = some ((.tup [(iV 0), (iV 40)]), []) := by
  exact sem_of_path (way23a_p L n) (by simp only [h0] <;> rfl)

theorem way23b_p (L : Nat → (St → T (Ex × St)) → St → T (Ex × St)) (n : Int) : (finF (evalF tab ⟨callT tbB2, L, Gl⟩ Try.f23 [iV n] [])).path [false, false, false, true] = some ([(ilt n 1), (ilt n 1), (ilt n 1), (ilt 1048576 n)], ((.tup [(iV 0), (iV 40)]), [])) := by kernel_rfl
theorem way23b (L : Nat → (St → T (Ex × St)) → St → T (Ex × St)) (n : Int) (h0 : ilt n 1 = false) (h1 : ilt 1048576 n = true) : (finF (evalF tab ⟨callT tbB2, L, Gl⟩ Try.f23 [iV n] [])).sem = some ((.tup [(iV 0), (iV 40)]), []) := by
  exact sem_of_path (way23b_p L n) (by simp only [h0, h1] <;> rfl)

theorem way23c_p (L : Nat → (St → T (Ex × St)) → St → T (Ex × St)) (n : Int) : (finF (evalF tab ⟨callT tbB2, L, Gl⟩ Try.f23 [iV n] [])).path [false, false, false, false, true, true] = some ([(ilt n 1), (ilt n 1), (ilt n 1), (ilt 1048576 n), (ile 1 n), (ile n 1048576)], ((.tup [(iV (totI n)), (iV 0)]), [])) := by kernel_rfl
theorem way23c (L : Nat → (St → T (Ex × St)) → St → T (Ex × St)) (n : Int) (h0 : ilt n 1 = false) (h1 : ilt 1048576 n = false) (h2 : ile 1 n = true) (h3 : ile n 1048576 = true) : (finF (evalF tab ⟨callT tbB2, L, Gl⟩ Try.f23 [iV n] [])).sem = some ((.tup [(iV (totI n)), (iV 0)]), []) := by
  exact sem_of_path (way23c_p L n) (by simp only [h0, h1, h2, h3] <;> rfl)


theorem p23 : PureC Try.prog Gl 23 totientT := by
  refine PureC.congr (pureC_body tabOK mixed Try.func23 (by kernel_rfl) (by kernel_rfl) (Γ := cxOf Gl tbB2 []) (cx_ok tbB2_ok _)) fun vs r h => ?_
  obtain ⟨n, rfl, hq⟩ := ap1_some gI_ok h
  clear h
  rcases badN_cases n with ⟨h1, _, h3⟩ | ⟨h1, h2, h3⟩ | ⟨h1, h2, h3, k, rfl, h4, h5⟩
  · rw [h3] at hq
    rw [sem_leaf hq]
    exact way23a _ n h1
  · rw [h3] at hq
    rw [sem_leaf hq]
    exact way23b _ n h1 h2
  · rw [h3] at hq
    rw [sem_leaf hq]
    exact way23c _ _ h1 h2 (le_true (by simp; omega)) (le_true (by simp; omega))

def lp24 (n : Int) : Lp := ⟨[true, false, true, true, true, true, false, false, false, false, false, false, false, false, false, false, false, false, false, false, false, false, false, false], 0, [false, false, true, true, true, false, false, false, false, false, false, false, false, false, false, false, false, false, false, false, false, false, false, false], 0, toN n + 1⟩
def st24 (n : Int) (k i : Int) (j : Nat → V) : St := ⟨[iV n, j 1, iV 0, iV 0, iV k, iV i, j 6, j 7, j 8, j 9, j 10, j 11, j 12, j 13, j 14, j 15, j 16, j 17, j 18, j 19, j 20, j 21, j 22, j 23], []⟩
def en24a (n : Int) (k i : Int) : Ex × St := (.ex 0, ⟨[.und, .und, iV 0, iV 0, iV k, .und, .und, .und, .und, .und, .und, .und, .und, .und, .und, .und, .und, .und, .und, .und, .und, .und, .und, .und], []⟩)
noncomputable def body24 (L : Nat → (St → T (Ex × St)) → St → T (Ex × St)) : St → T (Ex × St) := fun st => evalC tab ⟨callT tbB1, L, Gl⟩ (loopBody Try.f24 0) 0 st
theorem round24a_p (L : Nat → (St → T (Ex × St)) → St → T (Ex × St)) (n : Int) (k i : Int)  (j : Nat → V) : ((body24 L (st24 n k i j)).bind fun r => T.leaf (cutR (lp24 n) r)).path [false] = some ([(ile i n)], ((.ex 0), ⟨[.und, .und, (iV 0), (iV 0), (iV k), .und, .und, .und, .und, .und, .und, .und, .und, .und, .und, .und, .und, .und, .und, .und, .und, .und, .und, .und], []⟩)) := by kernel_rfl
theorem round24a (L : Nat → (St → T (Ex × St)) → St → T (Ex × St)) (n : Int) (k i : Int)  (j : Nat → V) (h0 : ile i n = false) : ((body24 L (st24 n k i j)).bind fun r => T.leaf (cutR (lp24 n) r)).sem = some ((.ex 0), ⟨[.und, .und, (iV 0), (iV 0), (iV k), .und, .und, .und, .und, .und, .und, .und, .und, .und, .und, .und, .und, .und, .und, .und, .und, .und, .und, .und], []⟩) := by
  exact sem_of_path (round24a_p L n k i j) (by simp only [h0] <;> rfl)
theorem round24t_p (L : Nat → (St → T (Ex × St)) → St → T (Ex × St)) (n : Int) (k i : Int)  (j : Nat → V) : ((body24 L (st24 n k i j)).bind fun r => T.leaf (cutR (lp24 n) r)).path [true, true, true, true] = some ([(ile i n), (ile 0 i), (ile 0 n), (ieq (gcdI i n) 1)], (.nm, ⟨[(iV n), .und, (iV 0), (iV 0), (iV (wr IntKind.i64 (iadd k 1))), (iV (wr IntKind.i64 (iadd i 1))), .und, .und, .und, .und, .und, .und, .und, .und, .und, .und, .und, .und, .und, .und, .und, .und, .und, .und], []⟩)) := by kernel_rfl
theorem round24t (L : Nat → (St → T (Ex × St)) → St → T (Ex × St)) (n : Int) (k i : Int)  (j : Nat → V) (h0 : ile i n = true) (h1 : ile 0 i = true) (h2 : ile 0 n = true) (h3 : ieq (gcdI i n) 1 = true) : ((body24 L (st24 n k i j)).bind fun r => T.leaf (cutR (lp24 n) r)).sem = some (.nm, ⟨[(iV n), .und, (iV 0), (iV 0), (iV (wr IntKind.i64 (iadd k 1))), (iV (wr IntKind.i64 (iadd i 1))), .und, .und, .und, .und, .und, .und, .und, .und, .und, .und, .und, .und, .und, .und, .und, .und, .und, .und], []⟩) := by
  exact sem_of_path (round24t_p L n k i j) (by simp only [h0, h1, h2, h3] <;> rfl)
theorem round24f_p (L : Nat → (St → T (Ex × St)) → St → T (Ex × St)) (n : Int) (k i : Int)  (j : Nat → V) : ((body24 L (st24 n k i j)).bind fun r => T.leaf (cutR (lp24 n) r)).path [true, true, true, false] = some ([(ile i n), (ile 0 i), (ile 0 n), (ieq (gcdI i n) 1)], (.nm, ⟨[(iV n), .und, (iV 0), (iV 0), (iV k), (iV (wr IntKind.i64 (iadd i 1))), .und, .und, .und, .und, .und, .und, .und, .und, .und, .und, .und, .und, .und, .und, .und, .und, .und, .und], []⟩)) := by kernel_rfl
theorem round24f (L : Nat → (St → T (Ex × St)) → St → T (Ex × St)) (n : Int) (k i : Int)  (j : Nat → V) (h0 : ile i n = true) (h1 : ile 0 i = true) (h2 : ile 0 n = true) (h3 : ieq (gcdI i n) 1 = false) : ((body24 L (st24 n k i j)).bind fun r => T.leaf (cutR (lp24 n) r)).sem = some (.nm, ⟨[(iV n), .und, (iV 0), (iV 0), (iV k), (iV (wr IntKind.i64 (iadd i 1))), .und, .und, .und, .und, .und, .und, .und, .und, .und, .und, .und, .und, .und, .und, .und, .und, .und, .und], []⟩) := by
  exact sem_of_path (round24f_p L n k i j) (by simp only [h0, h1, h2, h3] <;> rfl)
def jk24 (n : Int)  : Nat → V
  | 6 => (iV n)
  | 7 => (bV (ilt n 1))
  | 8 => (bV (ilt n 1))
  | 9 => (iV n)
  | 10 => (bV (ilt 1048576 n))
  | 11 => (bV (ilt 1048576 n))
  | _ => undefV

theorem way24a_p (L : Nat → (St → T (Ex × St)) → St → T (Ex × St)) (n : Int) : (finF (evalF tab ⟨callT tbB1, L, Gl⟩ Try.f24 [iV n] [])).path [true, true, true, true] = some ([(ilt n 1), (ilt n 1), (ilt n 1), Bool.true], ((.tup [(iV 0), (iV 40)]), [])) := by kernel_rfl
theorem way24a (L : Nat → (St → T (Ex × St)) → St → T (Ex × St)) (n : Int) (h0 : ilt n 1 = true) : (finF (evalF tab ⟨callT tbB1, L, Gl⟩ Try.f24 [iV n] [])).sem = some ((.tup [(iV 0), (iV 40)]), []) := by
  exact sem_of_path (way24a_p L n) (by simp only [h0] <;> rfl)

theorem way24b_p (L : Nat → (St → T (Ex × St)) → St → T (Ex × St)) (n : Int) : (finF (evalF tab ⟨callT tbB1, L, Gl⟩ Try.f24 [iV n] [])).path [false, false, false, true] = some ([(ilt n 1), (ilt n 1), (ilt n 1), (ilt 1048576 n)], ((.tup [(iV 0), (iV 40)]), [])) := by kernel_rfl
theorem way24b (L : Nat → (St → T (Ex × St)) → St → T (Ex × St)) (n : Int) (h0 : ilt n 1 = false) (h1 : ilt 1048576 n = true) : (finF (evalF tab ⟨callT tbB1, L, Gl⟩ Try.f24 [iV n] [])).sem = some ((.tup [(iV 0), (iV 40)]), []) := by
  exact sem_of_path (way24b_p L n) (by simp only [h0, h1] <;> rfl)

theorem way24c_p (L : Nat → (St → T (Ex × St)) → St → T (Ex × St)) (p0 : (St → T (Ex × St)) → St → Bool) (n : Int) (k i : Int) : (finF (evalF tab ⟨callT tbB1, (onP 0 p0 (en24a n k i) L), Gl⟩ Try.f24 [iV n] [])).path [false, false, false, false, true] = some ([(ilt n 1), (ilt n 1), (ilt n 1), (ilt 1048576 n), (p0 (body24 (onP 0 p0 (en24a n k i) L)) (st24 n 0 1 (jk24 n )))], ((.tup [(iV k), (iV 0)]), [])) := by kernel_rfl
theorem way24c (L : Nat → (St → T (Ex × St)) → St → T (Ex × St)) (p0 : (St → T (Ex × St)) → St → Bool) (n : Int) (k i : Int) (h0 : ilt n 1 = false) (h1 : ilt 1048576 n = false) (hp0 : p0 (body24 (onP 0 p0 (en24a n k i) L)) (st24 n 0 1 (jk24 n )) = true) : (finF (evalF tab ⟨callT tbB1, (onP 0 p0 (en24a n k i) L), Gl⟩ Try.f24 [iV n] [])).sem = some ((.tup [(iV k), (iV 0)]), []) := by
  exact sem_of_path (way24c_p L p0 n k i) (by simp only [h0, h1, hp0] <;> rfl)

theorem run24 (L : Nat → (St → T (Ex × St)) → St → T (Ex × St)) (n : Nat) (hn : n ≤ 1048576) : ∀ (d i : Nat) (j : Nat → V) (q : Nat), n = i + d → d < q →
    (iterT (body24 L) (lp24 (Int.ofNat n)) q (st24 (Int.ofNat n) (Int.ofNat (totC n i)) (Int.ofNat (i + 1)) j)).sem = some (en24a (Int.ofNat n) (Int.ofNat (totC n n)) 0)
  | 0, i, j, q + 1, h1, _ => by
    have hi : i = n := by omega
    subst hi
    exact iter_round (round24a L (Int.ofNat i) _ (Int.ofNat (i + 1)) j (ofNat_gt (by omega)))
  | d + 1, i, j, q + 1, h1, h2 => by
    have hle := totC_le n i
    by_cases hg : Nat.gcd (i + 1) n = 1
    · rw [iter_round (round24t L (Int.ofNat n) _ (Int.ofNat (i + 1)) j (ofNat_le (by omega)) (ofNat_0 _) (ofNat_0 _) (ieq_true (by rw [gcdI_nat, hg]; rfl))),
        succ_wr (show totC n i < n by omega) (by omega), succ_wr (show i + 1 < n + 1 by omega) (by omega), show totC n i + 1 = totC n (i + 1) by rw [totC, if_pos hg]]
      exact run24 L n hn d (i + 1) (fun _ => .und) q (by omega) (by omega)
    · rw [iter_round (round24f L (Int.ofNat n) _ (Int.ofNat (i + 1)) j (ofNat_le (by omega)) (ofNat_0 _) (ofNat_0 _) (ieq_false (by rw [gcdI_nat]; intro h; exact hg (Int.ofNat.inj h)))),
        succ_wr (show i + 1 < n + 1 by omega) (by omega), show totC n i = totC n (i + 1) by rw [totC, if_neg hg]]
      exact run24 L n hn d (i + 1) (fun _ => .und) q (by omega) (by omega)

theorem p24 : PureC Try.prog Gl 24 totientT := by
  refine pureC_intro tabOK mixed Try.func24 (by kernel_rfl) (by kernel_rfl) fun vs v h' h => ?_
  obtain ⟨n, rfl, hq⟩ := ap1_some gI_ok h
  clear h
  rcases badN_cases n with ⟨h1, _, h3⟩ | ⟨h1, h2, h3⟩ | ⟨h1, h2, h3, k, rfl, h4, h5⟩
  · rw [h3] at hq
    have := sem_leaf hq
    simp only [Prod.mk.injEq] at this
    obtain ⟨rfl, rfl⟩ := this
    have hx := cx_ok tbB1_ok []
    exact ⟨_, cxOf Gl tbB1 _, _, ArgLE.refl _, rfl, hx.1, hx.2, way24a _ n h1, RowsLE.refl _⟩
  · rw [h3] at hq
    have := sem_leaf hq
    simp only [Prod.mk.injEq] at this
    obtain ⟨rfl, rfl⟩ := this
    have hx := cx_ok tbB1_ok []
    exact ⟨_, cxOf Gl tbB1 _, _, ArgLE.refl _, rfl, hx.1, hx.2, way24b _ n h1 h2, RowsLE.refl _⟩
  · rw [h3] at hq
    have := sem_leaf hq
    simp only [Prod.mk.injEq] at this
    obtain ⟨rfl, rfl⟩ := this
    have hx := cx_ok tbB1_ok [(0, lp24 (Int.ofNat k))]
    have hL := loopsBy_le [(0, lp24 (Int.ofNat k))]
    exact ⟨_, cxOf Gl tbB1 _, _, ArgLE.refl _, rfl, hx.1, hx.2, told_le (onP_le hL hL) _ (way24c _ _ _ _ _ h1 h2 (isP_true (run24 _ k (by omega) k 0 _ (k + 1) (by omega) (by omega)))), RowsLE.refl _⟩

/-! ### Divisors -/

/-- The divisors among the first i numbers, the last one ahead. -/
def dvs (n : Nat) : Nat → List Nat
  | 0 => []
  | i + 1 => if n % (i + 1) = 0 then (i + 1) :: dvs n i else dvs n i

theorem dvs_len (n : Nat) : ∀ i, (dvs n i).length ≤ i
  | 0 => Nat.le_refl _
  | i + 1 => by
    have := dvs_len n i
    unfold dvs
    split
    · simp; omega
    · omega

/-- A row that grew by them. -/
def rowL : List Nat → Nat → V
  | [] => fun _ => .und
  | d :: l => pushGet l.length (rowL l) (iV (Int.ofNat d))
def getL : List Nat → Nat → Int
  | [] => fun _ => 0
  | d :: l => fun i => bif Nat.beq i l.length then Int.ofNat d else getL l i

theorem rowL_get : ∀ (l : List Nat) (i : Nat), i < l.length → rowL l i = iV (getL l i)
  | [], i, h => by simp at h
  | d :: l, i, h => by
    simp at h
    show (bif Nat.beq i l.length then iV (Int.ofNat d) else rowL l i) = iV (bif Nat.beq i l.length then Int.ofNat d else getL l i)
    cases hb : Nat.beq i l.length with
    | true => rfl
    | false =>
      have := Nat.ne_of_beq_eq_false hb
      exact rowL_get l i (by omega)

def dvN (n : Int) : Nat := (dvs (toN n) (toN n)).length
def dvI (n : Int) : Nat → Int := getL (dvs (toN n) (toN n))
def divsT : List V → T (V × List Blk) := ap1 gI fun n => .br (badN n) (.leaf (.tup [.ref 0, iV 40], [.row 3 1 0 fun _ => .und])) (.leaf (.tup [.ref 0, iV 0], [.row 3 1 (dvN n) fun i => iV (dvI n i)]))

def lp25 (n : Int) : Lp := ⟨[true, false, true, true, true, true, false, false, false, false, false, false, false, false, false, false, false, false, false, false, false, false, false, false, false, false], 2, [false, false, true, true, true, false, false, false, false, false, false, false, false, false, false, false, false, false, false, false, false, false, false, false, false, false], 2, toN n + 1⟩
def st25 (n : Int) (k : Nat) (x : Nat → V) (i : Int) (j : Nat → V) : St := ⟨[iV n, j 1, .ref 0, iV 0, .ref 1, iV i, j 6, j 7, j 8, j 9, j 10, j 11, j 12, j 13, j 14, j 15, j 16, j 17, j 18, j 19, j 20, j 21, j 22, j 23, j 24, j 25], [.row 3 1 0 fun _ => .und, .row 3 1 k x]⟩
def en25a (n : Int) (k : Nat) (x : Nat → V) (i : Int) : Ex × St := (.ex 0, ⟨[.und, .und, .ref 0, iV 0, .ref 1, .und, .und, .und, .und, .und, .und, .und, .und, .und, .und, .und, .und, .und, .und, .und, .und, .und, .und, .und, .und, .und], [.row 3 1 0 fun _ => .und, .row 3 1 k x]⟩)
noncomputable def body25 (L : Nat → (St → T (Ex × St)) → St → T (Ex × St)) : St → T (Ex × St) := fun st => evalC tab ⟨callT tbB1, L, Gl⟩ (loopBody Try.f25 0) 0 st
theorem round25a_p (L : Nat → (St → T (Ex × St)) → St → T (Ex × St)) (n : Int) (k : Nat) (x : Nat → V) (i : Int)  (j : Nat → V) : ((body25 L (st25 n k x i j)).bind fun r => T.leaf (cutR (lp25 n) r)).path [false] = some ([(ile i n)], ((.ex 0), ⟨[.und, .und, (.ref 0), (iV 0), (.ref 1), .und, .und, .und, .und, .und, .und, .und, .und, .und, .und, .und, .und, .und, .und, .und, .und, .und, .und, .und, .und, .und], [(.row 3 1 0 (fun _ => .und)), (.row 3 1 k x)]⟩)) := by kernel_rfl
theorem round25a (L : Nat → (St → T (Ex × St)) → St → T (Ex × St)) (n : Int) (k : Nat) (x : Nat → V) (i : Int)  (j : Nat → V) (h0 : ile i n = false) : ((body25 L (st25 n k x i j)).bind fun r => T.leaf (cutR (lp25 n) r)).sem = some ((.ex 0), ⟨[.und, .und, (.ref 0), (iV 0), (.ref 1), .und, .und, .und, .und, .und, .und, .und, .und, .und, .und, .und, .und, .und, .und, .und, .und, .und, .und, .und, .und, .und], [(.row 3 1 0 (fun _ => .und)), (.row 3 1 k x)]⟩) := by
  exact sem_of_path (round25a_p L n k x i j) (by simp only [h0] <;> rfl)
theorem round25t_p (L : Nat → (St → T (Ex × St)) → St → T (Ex × St)) (n : Int) (k : Nat) (x : Nat → V) (i : Int)  (j : Nat → V) : ((body25 L (st25 n k x i j)).bind fun r => T.leaf (cutR (lp25 n) r)).path [true, false, true, true] = some ([(ile i n), (ieq i 0), (ieq (itmod n i) 0), (apOK k 1 8)], (.nm, ⟨[(iV n), .und, (.ref 0), (iV 0), (.ref 1), (iV (wr IntKind.i64 (iadd i 1))), .und, .und, .und, .und, .und, .und, .und, .und, .und, .und, .und, .und, .und, .und, .und, .und, .und, .und, .und, .und], [(.row 3 1 0 (fun _ => .und)), (.row 3 1 (nadd k 1) (pushGet k x (iV i)))]⟩)) := by kernel_rfl
theorem round25t (L : Nat → (St → T (Ex × St)) → St → T (Ex × St)) (n : Int) (k : Nat) (x : Nat → V) (i : Int)  (j : Nat → V) (h0 : ile i n = true) (h1 : ieq i 0 = false) (h2 : ieq (itmod n i) 0 = true) (h3 : apOK k 1 8 = true) : ((body25 L (st25 n k x i j)).bind fun r => T.leaf (cutR (lp25 n) r)).sem = some (.nm, ⟨[(iV n), .und, (.ref 0), (iV 0), (.ref 1), (iV (wr IntKind.i64 (iadd i 1))), .und, .und, .und, .und, .und, .und, .und, .und, .und, .und, .und, .und, .und, .und, .und, .und, .und, .und, .und, .und], [(.row 3 1 0 (fun _ => .und)), (.row 3 1 (nadd k 1) (pushGet k x (iV i)))]⟩) := by
  exact sem_of_path (round25t_p L n k x i j) (by simp only [h0, h1, h2, h3] <;> rfl)
theorem round25f_p (L : Nat → (St → T (Ex × St)) → St → T (Ex × St)) (n : Int) (k : Nat) (x : Nat → V) (i : Int)  (j : Nat → V) : ((body25 L (st25 n k x i j)).bind fun r => T.leaf (cutR (lp25 n) r)).path [true, false, false] = some ([(ile i n), (ieq i 0), (ieq (itmod n i) 0)], (.nm, ⟨[(iV n), .und, (.ref 0), (iV 0), (.ref 1), (iV (wr IntKind.i64 (iadd i 1))), .und, .und, .und, .und, .und, .und, .und, .und, .und, .und, .und, .und, .und, .und, .und, .und, .und, .und, .und, .und], [(.row 3 1 0 (fun _ => .und)), (.row 3 1 k x)]⟩)) := by kernel_rfl
theorem round25f (L : Nat → (St → T (Ex × St)) → St → T (Ex × St)) (n : Int) (k : Nat) (x : Nat → V) (i : Int)  (j : Nat → V) (h0 : ile i n = true) (h1 : ieq i 0 = false) (h2 : ieq (itmod n i) 0 = false) : ((body25 L (st25 n k x i j)).bind fun r => T.leaf (cutR (lp25 n) r)).sem = some (.nm, ⟨[(iV n), .und, (.ref 0), (iV 0), (.ref 1), (iV (wr IntKind.i64 (iadd i 1))), .und, .und, .und, .und, .und, .und, .und, .und, .und, .und, .und, .und, .und, .und, .und, .und, .und, .und, .und, .und], [(.row 3 1 0 (fun _ => .und)), (.row 3 1 k x)]⟩) := by
  exact sem_of_path (round25f_p L n k x i j) (by simp only [h0, h1, h2] <;> rfl)
def jk25 (n : Int)  : Nat → V
  | 6 => (iV n)
  | 7 => (bV (ilt n 1))
  | 8 => (bV (ilt n 1))
  | 9 => (iV n)
  | 10 => (bV (ilt 1048576 n))
  | 11 => (bV (ilt 1048576 n))
  | _ => undefV

theorem way25a_p (L : Nat → (St → T (Ex × St)) → St → T (Ex × St)) (n : Int) : (finF (evalF tab ⟨callT tbB1, L, Gl⟩ Try.f25 [iV n] [])).path [true, true, true, true] = some ([(ilt n 1), (ilt n 1), (ilt n 1), Bool.true], ((.tup [(.ref 0), (iV 40)]), [(.row 3 1 0 (fun _ => .und))])) := by kernel_rfl
theorem way25a (L : Nat → (St → T (Ex × St)) → St → T (Ex × St)) (n : Int) (h0 : ilt n 1 = true) : (finF (evalF tab ⟨callT tbB1, L, Gl⟩ Try.f25 [iV n] [])).sem = some ((.tup [(.ref 0), (iV 40)]), [(.row 3 1 0 (fun _ => .und))]) := by
  exact sem_of_path (way25a_p L n) (by simp only [h0] <;> rfl)

theorem way25b_p (L : Nat → (St → T (Ex × St)) → St → T (Ex × St)) (n : Int) : (finF (evalF tab ⟨callT tbB1, L, Gl⟩ Try.f25 [iV n] [])).path [false, false, false, true] = some ([(ilt n 1), (ilt n 1), (ilt n 1), (ilt 1048576 n)], ((.tup [(.ref 0), (iV 40)]), [(.row 3 1 0 (fun _ => .und))])) := by kernel_rfl
theorem way25b (L : Nat → (St → T (Ex × St)) → St → T (Ex × St)) (n : Int) (h0 : ilt n 1 = false) (h1 : ilt 1048576 n = true) : (finF (evalF tab ⟨callT tbB1, L, Gl⟩ Try.f25 [iV n] [])).sem = some ((.tup [(.ref 0), (iV 40)]), [(.row 3 1 0 (fun _ => .und))]) := by
  exact sem_of_path (way25b_p L n) (by simp only [h0, h1] <;> rfl)

theorem way25c_p (L : Nat → (St → T (Ex × St)) → St → T (Ex × St)) (p0 : (St → T (Ex × St)) → St → Bool) (n : Int) (k : Nat) (x : Nat → V) (i : Int) : (finF (evalF tab ⟨callT tbB1, (onP 0 p0 (en25a n k x i) L), Gl⟩ Try.f25 [iV n] [])).path [false, false, false, false, true] = some ([(ilt n 1), (ilt n 1), (ilt n 1), (ilt 1048576 n), (p0 (body25 (onP 0 p0 (en25a n k x i) L)) (st25 n 0 (fun _ => .und) 1 (jk25 n )))], ((.tup [(.ref 0), (iV 0)]), [(.row 3 1 k x)])) := by kernel_rfl
theorem way25c (L : Nat → (St → T (Ex × St)) → St → T (Ex × St)) (p0 : (St → T (Ex × St)) → St → Bool) (n : Int) (k : Nat) (x : Nat → V) (i : Int) (h0 : ilt n 1 = false) (h1 : ilt 1048576 n = false) (hp0 : p0 (body25 (onP 0 p0 (en25a n k x i) L)) (st25 n 0 (fun _ => .und) 1 (jk25 n )) = true) : (finF (evalF tab ⟨callT tbB1, (onP 0 p0 (en25a n k x i) L), Gl⟩ Try.f25 [iV n] [])).sem = some ((.tup [(.ref 0), (iV 0)]), [(.row 3 1 k x)]) := by
  exact sem_of_path (way25c_p L p0 n k x i) (by simp only [h0, h1, hp0] <;> rfl)

def lp26 (n : Int) : Lp := ⟨[true, false, true, true, true, true, false, false, false, false, false, false, false, false, false, false, false, false, false, false, false, false, false, false, false, false], 2, [false, false, true, true, true, false, false, false, false, false, false, false, false, false, false, false, false, false, false, false, false, false, false, false, false, false], 2, toN n + 1⟩
def st26 (n : Int) (k : Nat) (x : Nat → V) (i : Int) (j : Nat → V) : St := ⟨[iV n, j 1, .ref 0, iV 0, .ref 1, iV i, j 6, j 7, j 8, j 9, j 10, j 11, j 12, j 13, j 14, j 15, j 16, j 17, j 18, j 19, j 20, j 21, j 22, j 23, j 24, j 25], [.row 3 1 0 fun _ => .und, .row 3 1 k x]⟩
def en26a (n : Int) (k : Nat) (x : Nat → V) (i : Int) : Ex × St := (.ex 0, ⟨[.und, .und, .ref 0, iV 0, .ref 1, .und, .und, .und, .und, .und, .und, .und, .und, .und, .und, .und, .und, .und, .und, .und, .und, .und, .und, .und, .und, .und], [.row 3 1 0 fun _ => .und, .row 3 1 k x]⟩)
noncomputable def body26 (L : Nat → (St → T (Ex × St)) → St → T (Ex × St)) : St → T (Ex × St) := fun st => evalC tab ⟨callT tbB1, L, Gl⟩ (loopBody Try.f26 0) 0 st
theorem round26a_p (L : Nat → (St → T (Ex × St)) → St → T (Ex × St)) (n : Int) (k : Nat) (x : Nat → V) (i : Int)  (j : Nat → V) : ((body26 L (st26 n k x i j)).bind fun r => T.leaf (cutR (lp26 n) r)).path [false] = some ([(ile i n)], ((.ex 0), ⟨[.und, .und, (.ref 0), (iV 0), (.ref 1), .und, .und, .und, .und, .und, .und, .und, .und, .und, .und, .und, .und, .und, .und, .und, .und, .und, .und, .und, .und, .und], [(.row 3 1 0 (fun _ => .und)), (.row 3 1 k x)]⟩)) := by kernel_rfl
theorem round26a (L : Nat → (St → T (Ex × St)) → St → T (Ex × St)) (n : Int) (k : Nat) (x : Nat → V) (i : Int)  (j : Nat → V) (h0 : ile i n = false) : ((body26 L (st26 n k x i j)).bind fun r => T.leaf (cutR (lp26 n) r)).sem = some ((.ex 0), ⟨[.und, .und, (.ref 0), (iV 0), (.ref 1), .und, .und, .und, .und, .und, .und, .und, .und, .und, .und, .und, .und, .und, .und, .und, .und, .und, .und, .und, .und, .und], [(.row 3 1 0 (fun _ => .und)), (.row 3 1 k x)]⟩) := by
  exact sem_of_path (round26a_p L n k x i j) (by simp only [h0] <;> rfl)
theorem round26t_p (L : Nat → (St → T (Ex × St)) → St → T (Ex × St)) (n : Int) (k : Nat) (x : Nat → V) (i : Int)  (j : Nat → V) : ((body26 L (st26 n k x i j)).bind fun r => T.leaf (cutR (lp26 n) r)).path [true, false, true, true] = some ([(ile i n), (ieq i 0), (ieq (itmod n i) 0), (apOK k 1 8)], (.nm, ⟨[(iV n), .und, (.ref 0), (iV 0), (.ref 1), (iV (wr IntKind.i64 (iadd i 1))), .und, .und, .und, .und, .und, .und, .und, .und, .und, .und, .und, .und, .und, .und, .und, .und, .und, .und, .und, .und], [(.row 3 1 0 (fun _ => .und)), (.row 3 1 (nadd k 1) (pushGet k x (iV i)))]⟩)) := by kernel_rfl
theorem round26t (L : Nat → (St → T (Ex × St)) → St → T (Ex × St)) (n : Int) (k : Nat) (x : Nat → V) (i : Int)  (j : Nat → V) (h0 : ile i n = true) (h1 : ieq i 0 = false) (h2 : ieq (itmod n i) 0 = true) (h3 : apOK k 1 8 = true) : ((body26 L (st26 n k x i j)).bind fun r => T.leaf (cutR (lp26 n) r)).sem = some (.nm, ⟨[(iV n), .und, (.ref 0), (iV 0), (.ref 1), (iV (wr IntKind.i64 (iadd i 1))), .und, .und, .und, .und, .und, .und, .und, .und, .und, .und, .und, .und, .und, .und, .und, .und, .und, .und, .und, .und], [(.row 3 1 0 (fun _ => .und)), (.row 3 1 (nadd k 1) (pushGet k x (iV i)))]⟩) := by
  exact sem_of_path (round26t_p L n k x i j) (by simp only [h0, h1, h2, h3] <;> rfl)
theorem round26f_p (L : Nat → (St → T (Ex × St)) → St → T (Ex × St)) (n : Int) (k : Nat) (x : Nat → V) (i : Int)  (j : Nat → V) : ((body26 L (st26 n k x i j)).bind fun r => T.leaf (cutR (lp26 n) r)).path [true, false, false] = some ([(ile i n), (ieq i 0), (ieq (itmod n i) 0)], (.nm, ⟨[(iV n), .und, (.ref 0), (iV 0), (.ref 1), (iV (wr IntKind.i64 (iadd i 1))), .und, .und, .und, .und, .und, .und, .und, .und, .und, .und, .und, .und, .und, .und, .und, .und, .und, .und, .und, .und], [(.row 3 1 0 (fun _ => .und)), (.row 3 1 k x)]⟩)) := by kernel_rfl
theorem round26f (L : Nat → (St → T (Ex × St)) → St → T (Ex × St)) (n : Int) (k : Nat) (x : Nat → V) (i : Int)  (j : Nat → V) (h0 : ile i n = true) (h1 : ieq i 0 = false) (h2 : ieq (itmod n i) 0 = false) : ((body26 L (st26 n k x i j)).bind fun r => T.leaf (cutR (lp26 n) r)).sem = some (.nm, ⟨[(iV n), .und, (.ref 0), (iV 0), (.ref 1), (iV (wr IntKind.i64 (iadd i 1))), .und, .und, .und, .und, .und, .und, .und, .und, .und, .und, .und, .und, .und, .und, .und, .und, .und, .und, .und, .und], [(.row 3 1 0 (fun _ => .und)), (.row 3 1 k x)]⟩) := by
  exact sem_of_path (round26f_p L n k x i j) (by simp only [h0, h1, h2] <;> rfl)
def jk26 (n : Int)  : Nat → V
  | 6 => (iV n)
  | 7 => (bV (ilt n 1))
  | 8 => (bV (ilt n 1))
  | 9 => (iV n)
  | 10 => (bV (ilt 1048576 n))
  | 11 => (bV (ilt 1048576 n))
  | _ => undefV

theorem way26a_p (L : Nat → (St → T (Ex × St)) → St → T (Ex × St)) (n : Int) : (finF (evalF tab ⟨callT tbB1, L, Gl⟩ Try.f26 [iV n] [])).path [true, true, true, true] = some ([(ilt n 1), (ilt n 1), (ilt n 1), Bool.true], ((.tup [(.ref 0), (iV 40)]), [(.row 3 1 0 (fun _ => .und))])) := by kernel_rfl
theorem way26a (L : Nat → (St → T (Ex × St)) → St → T (Ex × St)) (n : Int) (h0 : ilt n 1 = true) : (finF (evalF tab ⟨callT tbB1, L, Gl⟩ Try.f26 [iV n] [])).sem = some ((.tup [(.ref 0), (iV 40)]), [(.row 3 1 0 (fun _ => .und))]) := by
  exact sem_of_path (way26a_p L n) (by simp only [h0] <;> rfl)

theorem way26b_p (L : Nat → (St → T (Ex × St)) → St → T (Ex × St)) (n : Int) : (finF (evalF tab ⟨callT tbB1, L, Gl⟩ Try.f26 [iV n] [])).path [false, false, false, true] = some ([(ilt n 1), (ilt n 1), (ilt n 1), (ilt 1048576 n)], ((.tup [(.ref 0), (iV 40)]), [(.row 3 1 0 (fun _ => .und))])) := by kernel_rfl
theorem way26b (L : Nat → (St → T (Ex × St)) → St → T (Ex × St)) (n : Int) (h0 : ilt n 1 = false) (h1 : ilt 1048576 n = true) : (finF (evalF tab ⟨callT tbB1, L, Gl⟩ Try.f26 [iV n] [])).sem = some ((.tup [(.ref 0), (iV 40)]), [(.row 3 1 0 (fun _ => .und))]) := by
  exact sem_of_path (way26b_p L n) (by simp only [h0, h1] <;> rfl)

theorem way26c_p (L : Nat → (St → T (Ex × St)) → St → T (Ex × St)) (p0 : (St → T (Ex × St)) → St → Bool) (n : Int) (k : Nat) (x : Nat → V) (i : Int) : (finF (evalF tab ⟨callT tbB1, (onP 0 p0 (en26a n k x i) L), Gl⟩ Try.f26 [iV n] [])).path [false, false, false, false, true] = some ([(ilt n 1), (ilt n 1), (ilt n 1), (ilt 1048576 n), (p0 (body26 (onP 0 p0 (en26a n k x i) L)) (st26 n 0 (fun _ => .und) 1 (jk26 n )))], ((.tup [(.ref 0), (iV 0)]), [(.row 3 1 k x)])) := by kernel_rfl
theorem way26c (L : Nat → (St → T (Ex × St)) → St → T (Ex × St)) (p0 : (St → T (Ex × St)) → St → Bool) (n : Int) (k : Nat) (x : Nat → V) (i : Int) (h0 : ilt n 1 = false) (h1 : ilt 1048576 n = false) (hp0 : p0 (body26 (onP 0 p0 (en26a n k x i) L)) (st26 n 0 (fun _ => .und) 1 (jk26 n )) = true) : (finF (evalF tab ⟨callT tbB1, (onP 0 p0 (en26a n k x i) L), Gl⟩ Try.f26 [iV n] [])).sem = some ((.tup [(.ref 0), (iV 0)]), [(.row 3 1 k x)]) := by
  exact sem_of_path (way26c_p L p0 n k x i) (by simp only [h0, h1, hp0] <;> rfl)


theorem run25 (L : Nat → (St → T (Ex × St)) → St → T (Ex × St)) (n : Nat) (hn : n ≤ 1048576) : ∀ (d i : Nat) (j : Nat → V) (q : Nat), n = i + d → d < q →
    (iterT (body25 L) (lp25 (Int.ofNat n)) q (st25 (Int.ofNat n) (dvs n i).length (rowL (dvs n i)) (Int.ofNat (i + 1)) j)).sem = some (en25a (Int.ofNat n) (dvs n n).length (rowL (dvs n n)) 0)
  | 0, i, j, q + 1, h1, _ => by
    have hi : i = n := by omega
    subst hi
    exact iter_round (round25a L (Int.ofNat i) _ _ (Int.ofNat (i + 1)) j (ofNat_gt (by omega)))
  | d + 1, i, j, q + 1, h1, h2 => by
    have hle := dvs_len n i
    have h0 : ieq (Int.ofNat (i + 1)) 0 = false := ieq_false (by simp; omega)
    by_cases hg : n % (i + 1) = 0
    · rw [iter_round (round25t L (Int.ofNat n) _ _ (Int.ofNat (i + 1)) j (ofNat_le (by omega)) h0 (ieq_true (by rw [tmod_nat, hg]; rfl)) (decide_eq_true (by omega))), succ_wr (show i + 1 < n + 1 by omega) (by omega)]
      have hd : dvs n (i + 1) = (i + 1) :: dvs n i := by rw [dvs, if_pos hg]
      have ih := run25 L n hn d (i + 1) (fun _ => .und) q (by omega) (by omega)
      rw [hd] at ih
      exact ih
    · rw [iter_round (round25f L (Int.ofNat n) _ _ (Int.ofNat (i + 1)) j (ofNat_le (by omega)) h0 (ieq_false (by rw [tmod_nat]; intro h; exact hg (Int.ofNat.inj h)))), succ_wr (show i + 1 < n + 1 by omega) (by omega)]
      have hd : dvs n (i + 1) = dvs n i := by rw [dvs, if_neg hg]
      have ih := run25 L n hn d (i + 1) (fun _ => .und) q (by omega) (by omega)
      rw [hd] at ih
      exact ih

theorem p25 : PureC Try.prog Gl 25 divsT := by
  refine pureC_intro tabOK mixed Try.func25 (by kernel_rfl) (by kernel_rfl) fun vs v h' h => ?_
  obtain ⟨n, rfl, hq⟩ := ap1_some gI_ok h
  clear h
  rcases badN_cases n with ⟨h1, _, h3⟩ | ⟨h1, h2, h3⟩ | ⟨h1, h2, h3, k, rfl, h4, h5⟩
  · rw [h3] at hq
    have := sem_leaf hq
    simp only [Prod.mk.injEq] at this
    obtain ⟨rfl, rfl⟩ := this
    have hx := cx_ok tbB1_ok []
    exact ⟨_, cxOf Gl tbB1 _, _, ArgLE.refl _, rfl, hx.1, hx.2, way25a _ n h1, RowsLE.refl _⟩
  · rw [h3] at hq
    have := sem_leaf hq
    simp only [Prod.mk.injEq] at this
    obtain ⟨rfl, rfl⟩ := this
    have hx := cx_ok tbB1_ok []
    exact ⟨_, cxOf Gl tbB1 _, _, ArgLE.refl _, rfl, hx.1, hx.2, way25b _ n h1 h2, RowsLE.refl _⟩
  · rw [h3] at hq
    have := sem_leaf hq
    simp only [Prod.mk.injEq] at this
    obtain ⟨rfl, rfl⟩ := this
    have hx := cx_ok tbB1_ok [(0, lp25 (Int.ofNat k))]
    have hL := loopsBy_le [(0, lp25 (Int.ofNat k))]
    exact ⟨_, cxOf Gl tbB1 _, _, ArgLE.refl _, rfl, hx.1, hx.2, told_le (onP_le hL hL) _ (way25c _ _ _ _ _ _ h1 h2 (isP_true (run25 _ k (by omega) k 0 _ (k + 1) (by omega) (by omega)))), RowsLE.one fun i hi => (rowL_get _ i hi).symm⟩

theorem run26 (L : Nat → (St → T (Ex × St)) → St → T (Ex × St)) (n : Nat) (hn : n ≤ 1048576) : ∀ (d i : Nat) (j : Nat → V) (q : Nat), n = i + d → d < q →
    (iterT (body26 L) (lp26 (Int.ofNat n)) q (st26 (Int.ofNat n) (dvs n i).length (rowL (dvs n i)) (Int.ofNat (i + 1)) j)).sem = some (en26a (Int.ofNat n) (dvs n n).length (rowL (dvs n n)) 0)
  | 0, i, j, q + 1, h1, _ => by
    have hi : i = n := by omega
    subst hi
    exact iter_round (round26a L (Int.ofNat i) _ _ (Int.ofNat (i + 1)) j (ofNat_gt (by omega)))
  | d + 1, i, j, q + 1, h1, h2 => by
    have hle := dvs_len n i
    have h0 : ieq (Int.ofNat (i + 1)) 0 = false := ieq_false (by simp; omega)
    by_cases hg : n % (i + 1) = 0
    · rw [iter_round (round26t L (Int.ofNat n) _ _ (Int.ofNat (i + 1)) j (ofNat_le (by omega)) h0 (ieq_true (by rw [tmod_nat, hg]; rfl)) (decide_eq_true (by omega))), succ_wr (show i + 1 < n + 1 by omega) (by omega)]
      have hd : dvs n (i + 1) = (i + 1) :: dvs n i := by rw [dvs, if_pos hg]
      have ih := run26 L n hn d (i + 1) (fun _ => .und) q (by omega) (by omega)
      rw [hd] at ih
      exact ih
    · rw [iter_round (round26f L (Int.ofNat n) _ _ (Int.ofNat (i + 1)) j (ofNat_le (by omega)) h0 (ieq_false (by rw [tmod_nat]; intro h; exact hg (Int.ofNat.inj h)))), succ_wr (show i + 1 < n + 1 by omega) (by omega)]
      have hd : dvs n (i + 1) = dvs n i := by rw [dvs, if_neg hg]
      have ih := run26 L n hn d (i + 1) (fun _ => .und) q (by omega) (by omega)
      rw [hd] at ih
      exact ih

theorem p26 : PureC Try.prog Gl 26 divsT := by
  refine pureC_intro tabOK mixed Try.func26 (by kernel_rfl) (by kernel_rfl) fun vs v h' h => ?_
  obtain ⟨n, rfl, hq⟩ := ap1_some gI_ok h
  clear h
  rcases badN_cases n with ⟨h1, _, h3⟩ | ⟨h1, h2, h3⟩ | ⟨h1, h2, h3, k, rfl, h4, h5⟩
  · rw [h3] at hq
    have := sem_leaf hq
    simp only [Prod.mk.injEq] at this
    obtain ⟨rfl, rfl⟩ := this
    have hx := cx_ok tbB1_ok []
    exact ⟨_, cxOf Gl tbB1 _, _, ArgLE.refl _, rfl, hx.1, hx.2, way26a _ n h1, RowsLE.refl _⟩
  · rw [h3] at hq
    have := sem_leaf hq
    simp only [Prod.mk.injEq] at this
    obtain ⟨rfl, rfl⟩ := this
    have hx := cx_ok tbB1_ok []
    exact ⟨_, cxOf Gl tbB1 _, _, ArgLE.refl _, rfl, hx.1, hx.2, way26b _ n h1 h2, RowsLE.refl _⟩
  · rw [h3] at hq
    have := sem_leaf hq
    simp only [Prod.mk.injEq] at this
    obtain ⟨rfl, rfl⟩ := this
    have hx := cx_ok tbB1_ok [(0, lp26 (Int.ofNat k))]
    have hL := loopsBy_le [(0, lp26 (Int.ofNat k))]
    exact ⟨_, cxOf Gl tbB1 _, _, ArgLE.refl _, rfl, hx.1, hx.2, told_le (onP_le hL hL) _ (way26c _ _ _ _ _ _ h1 h2 (isP_true (run26 _ k (by omega) k 0 _ (k + 1) (by omega) (by omega)))), RowsLE.one fun i hi => (rowL_get _ i hi).symm⟩

/-! ### Lists of numbers held against one another -/

def okI (v : V) : Bool := match gI v with
  | some _ => true
  | none => false
def edI (v : V) : Int := match gI v with
  | some e => e
  | none => 0

theorem okI_spec {v : V} (h : okI v = true) : v = iV (edI v) := by
  unfold okI at h
  unfold edI
  split at h
  · rename_i e he
    exact gI_some he
  · cases h

def intsV (n : Nat) (f : Nat → Int) : V := .sl 1 n fun i => iV (f i)

def gSlI : V → Option (Nat × (Nat → V))
  | .sl s n g => match Nat.beq s 1 with
    | true => some (n, g)
    | false => none
  | _ => none

def apI {α : Type} (v : V) (F : Nat → (Nat → Int) → T α) : T α :=
  match gSlI v with
  | some (n, g) => .br (allN n fun i => okI (g i)) (F n fun i => edI (g i)) .fail
  | none => .fail

theorem apI_some {α : Type} {v : V} {F : Nat → (Nat → Int) → T α} {r : α} (h : (apI v F).sem = some r) :
    ∃ n f, (∀ (S : Nat → Prop) (w : World) (c : Value), VR S w v noK c → VR S w (intsV n f) noK c) ∧ (F n f).sem = some r := by
  unfold apI at h
  split at h
  · rename_i n g hg
    obtain ⟨h1, h2⟩ := sem_br_fail h
    have h1 := allN_iff.1 h1
    refine ⟨n, _, fun S w c hv => ?_, h2⟩
    unfold gSlI at hg
    split at hg
    · rename_i s n' g'
      split at hg
      · rename_i hs
        simp only [Option.some.injEq, Prod.mk.injEq] at hg
        obtain ⟨rfl, rfl⟩ := hg
        have hs : s = 1 := Nat.eq_of_beq_eq_true hs
        subst hs
        obtain ⟨a, cap, e, hc, hb⟩ := hv
        refine ⟨a, cap, e, hc, hb.imp id ?_⟩
        rintro ⟨b, o, ea, hel⟩
        refine ⟨b, o, ea, fun i hi => ?_⟩
        have := hel i hi
        rw [okI_spec (h1 i hi)] at this
        exact this
      · cases hg
    · cases hg
  · cases h

def apI2 (F : Nat → (Nat → Int) → Nat → (Nat → Int) → T (V × List Blk)) : List V → T (V × List Blk)
  | [v, u] => apI v fun n f => apI u fun m g => F n f m g
  | _ => .fail

theorem apI2_some {F : Nat → (Nat → Int) → Nat → (Nat → Int) → T (V × List Blk)} {vs : List V} {r : V × List Blk} (h : (apI2 F vs).sem = some r) :
    ∃ n f m g, ArgLE vs [intsV n f, intsV m g] ∧ (F n f m g).sem = some r := by
  unfold apI2 at h
  split at h
  · obtain ⟨n, f, h1, h2⟩ := apI_some h
    obtain ⟨m, g, h3, h4⟩ := apI_some h2
    refine ⟨n, f, m, g, fun S w cs hv => ?_, h4⟩
    obtain ⟨c, l, rfl, q1, c', l', rfl, q2, q3⟩ := hv
    exact ⟨c, _, rfl, h1 S w c q1, c', l', rfl, h3 S w c' q2, q3⟩
  · cases h

def smallN (n : Nat) : Bool := decide (n ≤ 4611686018427387904)
def sameI (n : Nat) (f : Nat → Int) (m : Nat) (g : Nat → Int) : Bool := decide (n = m) && allN n fun i => ieq (f i) (g i)

theorem sameI_self (n : Nat) (f : Nat → Int) : sameI n f n f = true := by
  simp [sameI, allN_iff, ieq]

def lp43 (n : Nat) (f : Nat → Int) (m : Nat) (g : Nat → Int) : Lp := ⟨[true, true, false, false, true, true, false, false, false, false, false, false, false, false, false, false, false, false, false, false, false, false, false, false, false, false, false, false, false, false, false, false, false, false, false, false, false, false, false, false, false, false, false, false, false, false], 0, [true, true, false, false, true, false, false, false, false, false, false, false, false, false, false, false, false, false, false, false, false, false, false, false, false, false, false, false, false, false, false, false, false, false, false, false, false, false, false, false, false, false, false, false, false, false], 0, n + 1⟩
def st43 (n : Nat) (f : Nat → Int) (m : Nat) (g : Nat → Int) (i : Nat) (j : Nat → V) : St := ⟨[.sl 1 n fun i => iV (f i), .sl 1 m fun i => iV (g i), j 2, j 3, iV 0, iV (Int.ofNat i), j 6, j 7, j 8, j 9, j 10, j 11, j 12, j 13, j 14, j 15, j 16, j 17, j 18, j 19, j 20, j 21, j 22, j 23, j 24, j 25, j 26, j 27, j 28, j 29, j 30, j 31, j 32, j 33, j 34, j 35, j 36, j 37, j 38, j 39, j 40, j 41, j 42, j 43, j 44, j 45], []⟩
def en43a (n : Nat) (f : Nat → Int) (m : Nat) (g : Nat → Int) (i : Nat) : Ex × St := (.ex 0, ⟨[.sl 1 n fun i => iV (f i), .sl 1 m fun i => iV (g i), .und, .und, iV 0, .und, .und, .und, .und, .und, .und, .und, .und, .und, .und, .und, .und, .und, .und, .und, .und, .und, .und, .und, .und, .und, .und, .und, .und, .und, .und, .und, .und, .und, .und, .und, .und, .und, .und, .und, .und, .und, .und, .und, .und, .und], []⟩)
noncomputable def body43 (L : Nat → (St → T (Ex × St)) → St → T (Ex × St)) : St → T (Ex × St) := fun st => evalC tab ⟨callT t0, L, Gl⟩ (loopBody Try.f43 0) 0 st
theorem round43a_p (L : Nat → (St → T (Ex × St)) → St → T (Ex × St)) (n : Nat) (f : Nat → Int) (m : Nat) (g : Nat → Int) (i : Nat)  (j : Nat → V) : ((body43 L (st43 n f m g i j)).bind fun r => T.leaf (cutR (lp43 n f m g) r)).path [false, false, false, false, false, false] = some ([(ilt (Int.ofNat i) (Int.ofNat n)), (ilt (Int.ofNat i) (Int.ofNat n)), (ilt (Int.ofNat i) (Int.ofNat n)), (ilt (Int.ofNat i) (Int.ofNat n)), (ilt (Int.ofNat i) (Int.ofNat n)), Bool.false], ((.ex 0), ⟨[(.sl 1 n (fun i => (iV (f i)))), (.sl 1 m (fun i => (iV (g i)))), .und, .und, (iV 0), .und, .und, .und, .und, .und, .und, .und, .und, .und, .und, .und, .und, .und, .und, .und, .und, .und, .und, .und, .und, .und, .und, .und, .und, .und, .und, .und, .und, .und, .und, .und, .und, .und, .und, .und, .und, .und, .und, .und, .und, .und], []⟩)) := by kernel_rfl
theorem round43a (L : Nat → (St → T (Ex × St)) → St → T (Ex × St)) (n : Nat) (f : Nat → Int) (m : Nat) (g : Nat → Int) (i : Nat)  (j : Nat → V) (h0 : ilt (Int.ofNat i) (Int.ofNat n) = false) : ((body43 L (st43 n f m g i j)).bind fun r => T.leaf (cutR (lp43 n f m g) r)).sem = some ((.ex 0), ⟨[(.sl 1 n (fun i => (iV (f i)))), (.sl 1 m (fun i => (iV (g i)))), .und, .und, (iV 0), .und, .und, .und, .und, .und, .und, .und, .und, .und, .und, .und, .und, .und, .und, .und, .und, .und, .und, .und, .und, .und, .und, .und, .und, .und, .und, .und, .und, .und, .und, .und, .und, .und, .und, .und, .und, .und, .und, .und, .und, .und], []⟩) := by
  exact sem_of_path (round43a_p L n f m g i j) (by simp only [h0] <;> rfl)
theorem round43n_p (L : Nat → (St → T (Ex × St)) → St → T (Ex × St)) (n : Nat) (f : Nat → Int) (m : Nat) (g : Nat → Int) (i : Nat)  (j : Nat → V) : ((body43 L (st43 n f m g i j)).bind fun r => T.leaf (cutR (lp43 n f m g) r)).path [true, true, true, true, true, true, true, true, false, true, true, false] = some ([(ilt (Int.ofNat i) (Int.ofNat n)), (ilt (Int.ofNat i) (Int.ofNat n)), (ilt (Int.ofNat i) (Int.ofNat n)), (ilt (Int.ofNat i) (Int.ofNat n)), (ilt (Int.ofNat i) (Int.ofNat n)), (ilt (Int.ofNat i) (Int.ofNat m)), (band (ile 0 (Int.ofNat i)) (ilt (Int.ofNat i) (Int.ofNat n))), (band (ile 0 (Int.ofNat i)) (ilt (Int.ofNat i) (Int.ofNat m))), (ilt (f i) (g i)), (band (ile 0 (Int.ofNat i)) (ilt (Int.ofNat i) (Int.ofNat n))), (band (ile 0 (Int.ofNat i)) (ilt (Int.ofNat i) (Int.ofNat m))), (ilt (g i) (f i))], (.nm, ⟨[(.sl 1 n (fun i => (iV (f i)))), (.sl 1 m (fun i => (iV (g i)))), .und, .und, (iV 0), (iV (wr IntKind.i64 (iadd (Int.ofNat i) 1))), .und, .und, .und, .und, .und, .und, .und, .und, .und, .und, .und, .und, .und, .und, .und, .und, .und, .und, .und, .und, .und, .und, .und, .und, .und, .und, .und, .und, .und, .und, .und, .und, .und, .und, .und, .und, .und, .und, .und, .und], []⟩)) := by kernel_rfl
theorem round43n (L : Nat → (St → T (Ex × St)) → St → T (Ex × St)) (n : Nat) (f : Nat → Int) (m : Nat) (g : Nat → Int) (i : Nat)  (j : Nat → V) (h2 : ilt (Int.ofNat i) (Int.ofNat n) = true) (h3 : ilt (Int.ofNat i) (Int.ofNat m) = true) (h0 : band (ile 0 (Int.ofNat i)) (ilt (Int.ofNat i) (Int.ofNat n)) = true) (h1 : band (ile 0 (Int.ofNat i)) (ilt (Int.ofNat i) (Int.ofNat m)) = true) (h4 : ilt (f i) (g i) = false) (h5 : ilt (g i) (f i) = false) : ((body43 L (st43 n f m g i j)).bind fun r => T.leaf (cutR (lp43 n f m g) r)).sem = some (.nm, ⟨[(.sl 1 n (fun i => (iV (f i)))), (.sl 1 m (fun i => (iV (g i)))), .und, .und, (iV 0), (iV (wr IntKind.i64 (iadd (Int.ofNat i) 1))), .und, .und, .und, .und, .und, .und, .und, .und, .und, .und, .und, .und, .und, .und, .und, .und, .und, .und, .und, .und, .und, .und, .und, .und, .und, .und, .und, .und, .und, .und, .und, .und, .und, .und, .und, .und, .und, .und, .und, .und], []⟩) := by
  exact sem_of_path (round43n_p L n f m g i j) (by simp only [h2, h3, h0, h1, h4, h5] <;> rfl)
def jk43 (n : Nat) (f : Nat → Int) (m : Nat) (g : Nat → Int)  : Nat → V
  | _ => undefV

theorem way43_p (L : Nat → (St → T (Ex × St)) → St → T (Ex × St)) (p0 : (St → T (Ex × St)) → St → Bool) (n : Nat) (f : Nat → Int) (m : Nat) (g : Nat → Int) (i : Nat) : (finF (evalF tab ⟨callT t0, (onP 0 p0 (en43a n f m g i) L), Gl⟩ Try.f43 [intsV n f, intsV m g] [])).path [true, false, false] = some ([(p0 (body43 (onP 0 p0 (en43a n f m g i) L)) (st43 n f m g 0 (jk43 n f m g ))), (ilt (Int.ofNat n) (Int.ofNat m)), (ilt (Int.ofNat m) (Int.ofNat n))], ((iV 0), [])) := by kernel_rfl
theorem way43 (L : Nat → (St → T (Ex × St)) → St → T (Ex × St)) (p0 : (St → T (Ex × St)) → St → Bool) (n : Nat) (f : Nat → Int) (m : Nat) (g : Nat → Int) (i : Nat) (h0 : ilt (Int.ofNat n) (Int.ofNat m) = false) (h1 : ilt (Int.ofNat m) (Int.ofNat n) = false) (hp0 : p0 (body43 (onP 0 p0 (en43a n f m g i) L)) (st43 n f m g 0 (jk43 n f m g )) = true) : (finF (evalF tab ⟨callT t0, (onP 0 p0 (en43a n f m g i) L), Gl⟩ Try.f43 [intsV n f, intsV m g] [])).sem = some ((iV 0), []) := by
  exact sem_of_path (way43_p L p0 n f m g i) (by simp only [h0, h1, hp0] <;> rfl)


theorem run43 (L : Nat → (St → T (Ex × St)) → St → T (Ex × St)) (n : Nat) (f g : Nat → Int) (hn : n ≤ 4611686018427387904) (h : ∀ i, i < n → f i = g i) : ∀ (d i : Nat) (j : Nat → V) (q : Nat), n = i + d → d < q →
    (iterT (body43 L) (lp43 n f n g) q (st43 n f n g i j)).sem = some (en43a n f n g 0)
  | 0, i, j, q + 1, h1, _ => iter_round (round43a L n f n g i j (ofNat_ge (by omega)))
  | d + 1, i, j, q + 1, h1, h2 => by
    have hi : i < n := by omega
    have he := h i hi
    rw [iter_round (round43n L n f n g i j (ofNat_lt hi) (ofNat_lt hi) (ofNat_in hi) (ofNat_in hi) (lt_false (by omega)) (lt_false (by omega))), succ_wr hi hn]
    exact run43 L n f g hn h d (i + 1) (fun _ => .und) q (by omega) (by omega)

theorem p43 : PureC Try.prog Gl 43 (apI2 fun n f m g => .br (smallN n) (.br (sameI n f m g) (out (iV 0)) .fail) .fail) := by
  refine pureC_intro tabOK mixed Try.func43 (by kernel_rfl) (by kernel_rfl) fun vs v h' h => ?_
  obtain ⟨n, f, m, g, ha, h⟩ := apI2_some h
  obtain ⟨h1, h⟩ := sem_br_fail h
  obtain ⟨h2, h⟩ := sem_br_fail h
  have := sem_leaf h
  simp only [Prod.mk.injEq] at this
  obtain ⟨rfl, rfl⟩ := this
  simp only [sameI, Bool.and_eq_true, decide_eq_true_eq, allN_iff] at h2
  obtain ⟨rfl, h2⟩ := h2
  have h2 : ∀ i, i < n → f i = g i := fun i hi => by simpa [ieq] using h2 i hi
  have hx := cx_ok t0_ok [(0, lp43 n f n g)]
  have hL := loopsBy_le [(0, lp43 n f n g)]
  exact ⟨_, cxOf Gl t0 _, _, ha, rfl, hx.1, hx.2, told_le (onP_le hL hL) _ (way43 _ _ n f n g 0 (ofNat_ge (Nat.le_refl n)) (ofNat_ge (Nat.le_refl n)) (isP_true (run43 _ n f g (of_decide_eq_true h1) h2 n 0 _ (n + 1) (by omega) (by omega)))), RowsLE.refl _⟩

noncomputable def tbB4 : List (Nat × (List V → T (V × List Blk))) := [(43, apI2 fun n f m g => .br (smallN n) (.br (sameI n f m g) (out (iV 0)) .fail) .fail)]
theorem tbB4_ok : AllPure Try.prog Gl tbB4 := .cons p43 .nil

theorem way27_p (L : Nat → (St → T (Ex × St)) → St → T (Ex × St)) (n : Nat) (f : Nat → Int) (m : Nat) (g : Nat → Int) : (finF (evalF tab ⟨callT tbB4, L, Gl⟩ Try.f27 [intsV n f, intsV m g] [])).path [true, true, true, true] = some ([(allN n (fun _ => Bool.true)), (allN m (fun _ => Bool.true)), (smallN n), (sameI n f m g)], ((bV (ieq 0 0)), [])) := by kernel_rfl
theorem way27 (L : Nat → (St → T (Ex × St)) → St → T (Ex × St)) (n : Nat) (f : Nat → Int) (m : Nat) (g : Nat → Int) (h0 : smallN n = true) (h1 : sameI n f m g = true) : (finF (evalF tab ⟨callT tbB4, L, Gl⟩ Try.f27 [intsV n f, intsV m g] [])).sem = some ((bV (ieq 0 0)), []) := by
  exact sem_of_path (way27_p L n f m g) (by simp only [h0, h1, allN_true] <;> rfl)


theorem p27 : PureC Try.prog Gl 27 (apI2 fun n f m g => .br (smallN n) (.br (sameI n f m g) (out (bV true)) .fail) .fail) := by
  refine pureC_intro tabOK mixed Try.func27 (by kernel_rfl) (by kernel_rfl) fun vs v h' h => ?_
  obtain ⟨n, f, m, g, ha, h⟩ := apI2_some h
  obtain ⟨h1, h⟩ := sem_br_fail h
  obtain ⟨h2, h⟩ := sem_br_fail h
  have := sem_leaf h
  simp only [Prod.mk.injEq] at this
  obtain ⟨rfl, rfl⟩ := this
  have hx := cx_ok tbB4_ok []
  exact ⟨_, cxOf Gl tbB4 _, _, ha, rfl, hx.1, hx.2, way27 _ n f m g h1 h2, RowsLE.refl _⟩

/-! ### The law CountNumbers -/

noncomputable def tbB5 : List (Nat × (List V → T (V × List Blk))) := [(23, totientT), (24, totientT), (25, divsT), (26, divsT), (27, apI2 fun n f m g => .br (smallN n) (.br (sameI n f m g) (out (bV true)) .fail) .fail), (15, unitT (bV true))]
theorem tbB5_ok : AllPure Try.prog Gl tbB5 := .cons p23 <| .cons p24 <| .cons p25 <| .cons p26 <| .cons p27 <| .cons p15 .nil

theorem way7a_p (L : Nat → (St → T (Ex × St)) → St → T (Ex × St)) (n : Int) : (finF (evalF tab ⟨callT tbB5, L, Gl⟩ Try.f7 [iV n] [])).path [true, true, true, true, true, true, true, true, true, true, true, true, true, true, true, true, true, true, true, true, true, true] = some ([(bor (ilt n 1) (ilt 1048576 n)), (bor (ilt n 1) (ilt 1048576 n)), (bor (ilt n 1) (ilt 1048576 n)), (bor (ilt n 1) (ilt 1048576 n)), (ieq 0 0), (ieq 0 0), (ieq 0 0), (ieq 0 0), (ieq 40 40), (ieq 40 40), (ieq 40 40), (allN 0 (fun _ => Bool.false)), (allN 0 (fun _ => Bool.false)), (smallN 0), (sameI 0 (fun _ => 0) 0 (fun _ => 0)), (ieq 40 40), Bool.true, Bool.true, Bool.true, Bool.true, (ieq 40 40), (ieq 40 40)], ((bV Bool.true), [])) := by kernel_rfl
theorem way7a (L : Nat → (St → T (Ex × St)) → St → T (Ex × St)) (n : Int) (h0 : ilt n 1 = true) (h1 : ilt 1048576 n = false) (h3 : allN 0 (fun _ => Bool.false) = true) (h2 : smallN 0 = true) (h4 : sameI 0 (fun _ => 0) 0 (fun _ => 0) = true) : (finF (evalF tab ⟨callT tbB5, L, Gl⟩ Try.f7 [iV n] [])).sem = some ((bV Bool.true), []) := by
  exact sem_of_path (way7a_p L n) (by simp only [h0, h1, h3, h2, h4, allN_true] <;> rfl)

theorem way7b_p (L : Nat → (St → T (Ex × St)) → St → T (Ex × St)) (n : Int) : (finF (evalF tab ⟨callT tbB5, L, Gl⟩ Try.f7 [iV n] [])).path [true, true, true, true, true, true, true, true, true, true, true, true, true, true, true, true, true, true, true, true, true, true] = some ([(bor (ilt n 1) (ilt 1048576 n)), (bor (ilt n 1) (ilt 1048576 n)), (bor (ilt n 1) (ilt 1048576 n)), (bor (ilt n 1) (ilt 1048576 n)), (ieq 0 0), (ieq 0 0), (ieq 0 0), (ieq 0 0), (ieq 40 40), (ieq 40 40), (ieq 40 40), (allN 0 (fun _ => Bool.false)), (allN 0 (fun _ => Bool.false)), (smallN 0), (sameI 0 (fun _ => 0) 0 (fun _ => 0)), (ieq 40 40), Bool.true, Bool.true, Bool.true, Bool.true, (ieq 40 40), (ieq 40 40)], ((bV Bool.true), [])) := by kernel_rfl
theorem way7b (L : Nat → (St → T (Ex × St)) → St → T (Ex × St)) (n : Int) (h0 : ilt n 1 = false) (h1 : ilt 1048576 n = true) (h3 : allN 0 (fun _ => Bool.false) = true) (h2 : smallN 0 = true) (h4 : sameI 0 (fun _ => 0) 0 (fun _ => 0) = true) : (finF (evalF tab ⟨callT tbB5, L, Gl⟩ Try.f7 [iV n] [])).sem = some ((bV Bool.true), []) := by
  exact sem_of_path (way7b_p L n) (by simp only [h0, h1, h3, h2, h4, allN_true] <;> rfl)

theorem way7c_p (L : Nat → (St → T (Ex × St)) → St → T (Ex × St)) (n : Int) : (finF (evalF tab ⟨callT tbB5, L, Gl⟩ Try.f7 [iV n] [])).path [false, false, false, false, true, true, true, true, true, true, true, true, true, true, true, true, true, true, true, true, true, true] = some ([(bor (ilt n 1) (ilt 1048576 n)), (bor (ilt n 1) (ilt 1048576 n)), (bor (ilt n 1) (ilt 1048576 n)), (bor (ilt n 1) (ilt 1048576 n)), (ieq (totI n) (totI n)), (ieq (totI n) (totI n)), (ieq (totI n) (totI n)), (ieq (totI n) (totI n)), (ieq 0 0), (ieq 0 0), (ieq 0 0), (allN (dvN n) (fun _ => Bool.true)), (allN (dvN n) (fun _ => Bool.true)), (smallN (dvN n)), (sameI (dvN n) (dvI n) (dvN n) (dvI n)), (ieq 0 0), Bool.true, Bool.true, Bool.true, Bool.true, (ieq 0 0), (ieq 0 0)], ((bV Bool.true), [])) := by kernel_rfl
theorem way7c (L : Nat → (St → T (Ex × St)) → St → T (Ex × St)) (n : Int) (h0 : ilt n 1 = false) (h1 : ilt 1048576 n = false) (h2 : ieq (totI n) (totI n) = true) (h3 : smallN (dvN n) = true) (h4 : sameI (dvN n) (dvI n) (dvN n) (dvI n) = true) : (finF (evalF tab ⟨callT tbB5, L, Gl⟩ Try.f7 [iV n] [])).sem = some ((bV Bool.true), []) := by
  exact sem_of_path (way7c_p L n) (by simp only [h0, h1, h2, h3, h4, allN_true] <;> rfl)

theorem p7 : PureC Try.prog Gl 7 (ap1 gI fun _ => out (bV true)) := by
  refine PureC.congr (pureC_body tabOK mixed Try.func7 (by kernel_rfl) (by kernel_rfl) (Γ := cxOf Gl tbB5 []) (cx_ok tbB5_ok _)) fun vs r h => ?_
  obtain ⟨n, rfl, h⟩ := ap1_some gI_ok h
  rw [sem_leaf h]
  rcases badN_cases n with ⟨h1, h2, _⟩ | ⟨h1, h2, _⟩ | ⟨h1, h2, _, k, rfl, h4, h5⟩
  · exact way7a _ n h1 h2 rfl rfl rfl
  · exact way7b _ n h1 h2 rfl rfl rfl
  · refine way7c _ _ h1 h2 (ieq_self _) (decide_eq_true ?_) (sameI_self _ _)
    have := dvs_len k k
    show (dvs k k).length ≤ _
    omega

end Go.Proofs.Ytdmjcpindopjdaa.Co
