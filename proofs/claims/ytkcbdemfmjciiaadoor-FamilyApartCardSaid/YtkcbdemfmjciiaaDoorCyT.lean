/-
  Lent, Kept. No conditions.
-/
import Derived.Test.YtkcbdemfmjciiaaDoorCyO
namespace Go.Proofs.YtkcbdemfmjciiaaDoor.Ed
open Go.Sy


theorem PureC.val {P : Program} {G : Nat → V} {f : FuncId} {F F' : List V → T (V × List Blk)} (h : PureC P G f F)
    (hF : ∀ vs r, (F' vs).sem = some r → ∃ v0, (F vs).sem = some (v0, r.2) ∧ ∀ S w κ c, VR S w v0 κ c → VR S w r.1 κ c) : PureC P G f F' := by
  refine ⟨h.1, fun vs cs S w v h' hS hE hv he => ?_⟩
  obtain ⟨v0, h1, h2⟩ := hF vs (v, h') he
  obtain ⟨h3, h4⟩ := h.2 vs cs S w v0 h' hS hE hv h1
  refine ⟨h3, h4.mono ?_⟩
  rintro e w' ⟨c, κ', S', q1, q2, q3, q4⟩
  exact ⟨c, κ', S', q1, q2, h2 _ _ _ _ q3, q4⟩

def markI (k : Int) : E6 := ⟨-77, true, ieq (itmod k 2) 0, wr .i64 (iadd 1000 k), -5, 99⟩
def markT : List V → T (V × List Blk)
  | [.val (.int .i64 k)] => out (eV (markI k))
  | _ => .fail

theorem wc85 (L : Nat → (St → T (Ex × St)) → St → T (Ex × St)) (k : Int)  : (finF (evalF tab ⟨callT tb0, L, Gl⟩ Tryd.f29 [iV k] [])).sem = some ((.agg [(iV (-77)), (bV Bool.true), (bV (ieq (itmod k 2) 0)), (iV (wr IntKind.i64 (iadd 1000 k))), (iV (-5)), (iV 99)]), []) := by
  exact sem_of_path (ds := []) (cs := []) (by kernel_rfl) (by rfl)

theorem p85 : PureC Tryd.prog Gl 29 markT := by
  refine pureC_intro tabOK mixed Tryd.func29 (by kernel_rfl) (by kernel_rfl) fun vs v h' h => ?_
  unfold markT at h
  split at h
  · rename_i k
    have := sem_leaf h
    simp only [Prod.mk.injEq] at this
    obtain ⟨rfl, rfl⟩ := this
    have hx := cx_ok tb0_ok []
    exact ⟨_, cxOf Gl tb0 [], _, ArgLE.refl _, rfl, hx.1, hx.2, wc85 _ k, RowsLE.refl _⟩
  · cases h

noncomputable def tb47 : List (Nat × (List V → T (V × List Blk))) := [(29, markT)]
theorem tb47_ok : AllPure Tryd.prog Gl tb47 := .cons p85 .nil

/-! ### A copy of edges that is lent, with marks in the room behind it -/

/-- What lies in the copy and behind it. -/
def lentE (n : Nat) (f : Nat → E6) (i : Nat) : E6 := bif decide (i < n) then f i else markI (Int.ofNat (i - n))
def lentX (n : Nat) (f : Nat → E6) : Nat → Nat → V
  | 0 => growGet 0 n (fun _ => eV zeroE) (fun i => eV (f i))
  | i + 1 => pushGet (n + i) (lentX n f i) (eV (markI (Int.ofNat i)))

theorem lentX_succ (n : Nat) (f : Nat → E6) (i : Nat) : lentX n f (i + 1) = pushGet (n + i) (lentX n f i) (eV (markI (Int.ofNat i))) := rfl

theorem lentX_eq (n : Nat) (f : Nat → E6) : ∀ i j, j < n + i → lentX n f i j = eV (lentE n f j)
  | 0, j, h => by
    rw [lentX, growGet_eq 0 n _ _ j (by omega)]
    show eV (f (j - 0)) = _
    rw [lentE, decide_eq_true (show j < n by omega)]
    rfl
  | i + 1, j, h => by
    rw [lentX_succ, pushGet_eq]
    by_cases hj : j = n + i
    · subst hj
      rw [Nat.beq_refl, lentE, decide_eq_false (show ¬ n + i < n by omega), show n + i - n = i by omega]
      rfl
    · rw [show Nat.beq j (n + i) = false by
        cases hb : Nat.beq j (n + i)
        · rfl
        · exact absurd (Nat.eq_of_beq_eq_true hb) hj]
      exact lentX_eq n f i j (by omega)

def lp47 (n : Nat) (f : Nat → E6) : Lp := ⟨[true, false, true, true, true, false, false, false, false, false, false, false, false, false, false, false, false, false, false, false, false, false, false, false, false], 2, [true, false, true, true, false, false, false, false, false, false, false, false, false, false, false, false, false, false, false, false, false, false, false, false, false], 2, 41⟩
def st47 (n : Nat) (f : Nat → E6) (i k : Nat) (x : Nat → V) (j : Nat → V) : St := ⟨[.sl 6 n (fun i => (eV (f i))), j 1, .ref 0, .ref 1, iV (Int.ofNat i), j 5, j 6, j 7, j 8, j 9, j 10, j 11, j 12, j 13, j 14, j 15, j 16, j 17, j 18, j 19, j 20, j 21, j 22, j 23, j 24], [.row 43 6 0 (fun _ => .und), .row 43 6 k x]⟩
def en47e (n : Nat) (f : Nat → E6) (i k : Nat) (x : Nat → V) : Ex × St := (.ex 0, ⟨[.sl 6 n (fun i => (eV (f i))), .und, .ref 0, .ref 1, .und, .und, .und, .und, .und, .und, .und, .und, .und, .und, .und, .und, .und, .und, .und, .und, .und, .und, .und, .und, .und], [.row 43 6 0 (fun _ => .und), .row 43 6 k x]⟩)
noncomputable def body47 (L : Nat → (St → T (Ex × St)) → St → T (Ex × St)) : St → T (Ex × St) := fun st => evalC tab ⟨callT tb47, L, Gl⟩ (loopBody Tryd.f8 0) 0 st
theorem rc47e (L : Nat → (St → T (Ex × St)) → St → T (Ex × St)) (n : Nat) (f : Nat → E6) (i k : Nat) (x : Nat → V)  (j : Nat → V) (h0 : ilt (Int.ofNat i) 40 = false) : ((body47 L (st47 n f i k x j)).bind fun r => T.leaf (cutR (lp47 n f) r)).sem = some ((.ex 0), ⟨[(.sl 6 n (fun i => (eV (f i)))), .und, (.ref 0), (.ref 1), .und, .und, .und, .und, .und, .und, .und, .und, .und, .und, .und, .und, .und, .und, .und, .und, .und, .und, .und, .und, .und], [(.row 43 6 0 (fun _ => .und)), (.row 43 6 k x)]⟩) := by
  exact sem_of_path (ds := [false]) (cs := [(ilt (Int.ofNat i) 40)]) (by kernel_rfl) (by simp only [h0] <;> rfl)
theorem rc47n (L : Nat → (St → T (Ex × St)) → St → T (Ex × St)) (n : Nat) (f : Nat → E6) (i k : Nat) (x : Nat → V)  (j : Nat → V) (h0 : ilt (Int.ofNat i) 40 = true) (h1 : apOK k 1 40 = true) : ((body47 L (st47 n f i k x j)).bind fun r => T.leaf (cutR (lp47 n f) r)).sem = some (.nm, ⟨[(.sl 6 n (fun i => (eV (f i)))), .und, (.ref 0), (.ref 1), (iV (wr IntKind.i64 (iadd (Int.ofNat i) 1))), .und, .und, .und, .und, .und, .und, .und, .und, .und, .und, .und, .und, .und, .und, .und, .und, .und, .und, .und, .und], [(.row 43 6 0 (fun _ => .und)), (.row 43 6 (nadd k 1) (pushGet k x (eV (markI (Int.ofNat i)))))]⟩) := by
  exact sem_of_path (ds := [true, true]) (cs := [(ilt (Int.ofNat i) 40), (apOK k 1 40)]) (by kernel_rfl) (by simp only [h0, h1] <;> rfl)

def ent47 (n : Nat) (f : Nat → E6)  : St := ⟨[(.sl 6 n (fun i => (eV (f i)))), undefV, (.ref 0), (.ref 1), (iV 0), (.sl 6 n (fun i => (eV (f i)))), (iV (Int.ofNat n)), (iV (wr IntKind.i64 (iadd (Int.ofNat n) 40))), .und, .und, (.sl 6 n (fun i => (eV (f i)))), (.ref 1), undefV, undefV, undefV, undefV, undefV, undefV, undefV, undefV, undefV, undefV, undefV, undefV, undefV], [(.row 43 6 0 (fun _ => .und)), (.row 43 6 (nadd 0 n) (growGet 0 n (fun _ => eV zeroE) (fun i => eV (f i))))]⟩

theorem wc47 (L : Nat → (St → T (Ex × St)) → St → T (Ex × St)) (p0 : (St → T (Ex × St)) → St → Bool) (n : Nat) (f : Nat → E6) (i k : Nat) (x : Nat → V) (h0 : mkOK 40 0 (wr IntKind.i64 (iadd (Int.ofNat n) 40)) = true) (h1 : apOK 0 n 40 = true) (h2 : band (ile 0 (Int.ofNat n)) (ile (Int.ofNat n) (Int.ofNat k)) = true) (hp0 : p0 (body47 (onP 0 p0 (en47e n f i k x) L)) (ent47 n f) = true) : (finF (evalF tab ⟨callT tb47, (onP 0 p0 (en47e n f i k x) L), Gl⟩ Tryd.f8 [edgesV n f] [])).sem = some ((.slr 6 n k x), []) := by
  exact sem_of_path (ds := [true, true, true, true]) (cs := [(mkOK 40 0 (wr IntKind.i64 (iadd (Int.ofNat n) 40))), (apOK 0 n 40), (p0 (body47 (onP 0 p0 (en47e n f i k x) L)) (ent47 n f)), (band (ile 0 (Int.ofNat n)) (ile (Int.ofNat n) (Int.ofNat k)))]) (by kernel_rfl) (by simp only [hp0] <;> simp only [h2] <;> simp only [h0, h1] <;> rfl)

theorem run47 (L : Nat → (St → T (Ex × St)) → St → T (Ex × St)) (n : Nat) (f : Nat → E6) (h8 : (n + 60) * 40 ≤ 140737488355328) (X : Nat → Nat → V) (hX : ∀ i, pushGet (n + i) (X i) (eV (markI (Int.ofNat i))) = X (i + 1)) (c : Nat) (hc : c = 40) : ∀ (d i : Nat) (j : Nat → V) (q : Nat), c = i + d → d < q →
    (iterT (body47 L) (lp47 n f) q (st47 n f i (n + i) (X i) j)).sem = some (en47e n f c (n + c) (X c))
  | 0, i, j, q + 1, h, _ => by
    have : c = i := by omega
    subst this
    have hl : ilt (Int.ofNat c) 40 = false := by rw [show (40 : Int) = Int.ofNat 40 from rfl, ilt_nat, decide_eq_false (by omega)]
    exact iter_round (rc47e L n f c (n + c) (X c) j hl)
  | d + 1, i, j, q + 1, h, h2 => by
    have hl : ilt (Int.ofNat i) 40 = true := by rw [show (40 : Int) = Int.ofNat 40 from rfl, ilt_nat, decide_eq_true (by omega)]
    have hi : i < 40 := by omega
    have h9 : (n + i + 1) * 40 ≤ 140737488355328 := Nat.le_trans (Nat.mul_le_mul_right 40 (show n + i + 1 ≤ n + 60 by omega)) h8
    have ha : apOK (n + i) 1 40 = true := decide_eq_true h9
    rw [iter_round (rc47n L n f i (n + i) (X i) j hl ha), goOn_nm, succ_wr (show i < 40 by omega) (by decide), hX]
    exact run47 L n f h8 X hX c hc d (i + 1) (fun _ => .und) q (by omega) (by omega)

def lent0 : List V → T (V × List Blk) := apL1 fun n f => .br (fitN (nadd n 60)) (out (.slr 6 n (n + 40) (lentX n f 40))) .fail
def lentT : List V → T (V × List Blk) := apL1 fun n f => .br (fitN (nadd n 60)) (out (.slr 6 n (nadd n 40) (fun i => eV (lentE n f i)))) .fail

theorem ent47_eq (n : Nat) (f : Nat → E6) : ent47 n f = st47 n f 0 (nadd 0 n) (lentX n f 0) (fun i => nth (ent47 n f).t i) := by kernel_rfl

theorem p47a : PureC Tryd.prog Gl 8 lent0 := by
  refine pureC_intro tabOK mixed Tryd.func8 (by kernel_rfl) (by kernel_rfl) fun vs v h' h => ?_
  obtain ⟨n, f, ha, h1⟩ := apL1_some h
  obtain ⟨hn, hq⟩ := sem_br_fail h1
  have := sem_leaf hq
  simp only [Prod.mk.injEq] at this
  obtain ⟨rfl, rfl⟩ := this
  have h8 : (n + 60) * 40 ≤ 140737488355328 := of_decide_eq_true hn
  have hx := cx_ok tb47_ok [(0, lp47 n f)]
  have hL := loopsBy_le [(0, lp47 n f)]
  have h0 : ∀ L, (loopsBy [(0, lp47 n f)] 0 (body47 L) (ent47 n f)).sem = some (en47e n f 40 (n + 40) (lentX n f 40)) := fun L => by
    show (iterT (body47 L) (lp47 n f) 41 (ent47 n f)).sem = _
    rw [ent47_eq, show nadd 0 n = n + 0 by simp [nadd]]
    exact run47 L n f h8 (lentX n f) (fun i => (lentX_succ n f i).symm) 40 rfl 40 0 _ 41 rfl (by omega)
  have e1 : wr IntKind.i64 (iadd (Int.ofNat n) 40) = Int.ofNat (n + 40) := wr_add (b := 40) (by omega)
  have hk : mkOK 40 0 (wr IntKind.i64 (iadd (Int.ofNat n) 40)) = true := by
    rw [e1]
    simp only [mkOK, Bool.and_eq_true, decide_eq_true_eq, Int.ofNat_eq_natCast]
    omega
  have hb : band (ile 0 (Int.ofNat n)) (ile (Int.ofNat n) (Int.ofNat (n + 40))) = true := by
    rw [ofNat_0, ile_nat, decide_eq_true (by omega)]
    rfl
  exact ⟨_, cxOf Gl tb47 [(0, lp47 n f)], _, ha, rfl, hx.1, hx.2, told_le (onP_le hL hL) _ (wc47 _ _ n f 40 (n + 40) (lentX n f 40) hk (ap_ok (by omega)) hb (isP_true (h0 _))), RowsLE.refl _⟩

theorem VR_slr {s n m : Nat} {g g' : Nat → V} (h : ∀ i, i < m → g' i = g i) {S : Nat → Prop} {w : World} {κ : Nat → Option Value} {c : Value} (hv : VR S w (.slr s n m g) κ c) : VR S w (.slr s n m g') κ c := by
  obtain ⟨a, cap, e, h1, h2, h3⟩ := hv
  refine ⟨a, cap, e, h1, h2, h3.imp id ?_⟩
  rintro ⟨b, o, ea, hel⟩
  refine ⟨b, o, ea, fun i hi => ?_⟩
  rw [h i hi]
  exact hel i hi

theorem p47 : PureC Tryd.prog Gl 8 lentT := by
  refine PureC.val p47a fun vs r h => ?_
  unfold lentT apL1 at h
  split at h
  · unfold lent0 apL1
    rename_i v
    show ∃ v0, (apL v _).sem = _ ∧ _
    unfold apL at h ⊢
    split at h
    · rename_i n g hg
      obtain ⟨h1, h2⟩ := sem_br_fail h
      obtain ⟨h3, h4⟩ := sem_br_fail h2
      have := sem_leaf h4
      subst this
      refine ⟨.slr 6 n (n + 40) (lentX n (fun i => edE (g i)) 40), ?_, fun S w κ c hv => VR_slr (fun i hi => (lentX_eq n _ 40 i hi).symm) hv⟩
      show sel _ (sel _ _ none) none = _
      rw [h1, h3]
      rfl
    · cases h
  · cases h

noncomputable def tb50 : List (Nat × (List V → T (V × List Blk))) := [(29, markT), (20, sameT)]
theorem tb50_ok : AllPure Tryd.prog Gl tb50 := .cons p85 <| .cons p42 .nil

def lp50 (n m : Nat) (g : Nat → E6) (f : Nat → E6) : Lp := ⟨[true, true, false, false, true, true, true, false, false, false, false, false, false, false, false, false, false, false, false, false, false, false, false, false, false, false, false, false, false], 0, [true, true, false, false, true, false, false, false, false, false, false, false, false, false, false, false, false, false, false, false, false, false, false, false, false, false, false, false, false], 0, 41⟩
def st50 (n m : Nat) (g : Nat → E6) (f : Nat → E6) (i : Nat) (j : Nat → V) : St := ⟨[.slr 6 n m (fun i => eV (g i)), .sl 6 n (fun i => (eV (f i))), j 2, j 3, bV false, .sl 6 (toN (wr IntKind.i64 (iadd (Int.ofNat n) 40))) (fun i => eV (g i)), iV (Int.ofNat i), j 7, j 8, j 9, j 10, j 11, j 12, j 13, j 14, j 15, j 16, j 17, j 18, j 19, j 20, j 21, j 22, j 23, j 24, j 25, j 26, j 27, j 28], []⟩
def en50e (n m : Nat) (g : Nat → E6) (f : Nat → E6) (i : Nat) : Ex × St := (.ex 0, ⟨[.slr 6 n m (fun i => eV (g i)), .sl 6 n (fun i => (eV (f i))), .und, .und, bV false, .und, .und, .und, .und, .und, .und, .und, .und, .und, .und, .und, .und, .und, .und, .und, .und, .und, .und, .und, .und, .und, .und, .und, .und], []⟩)
noncomputable def body50 (L : Nat → (St → T (Ex × St)) → St → T (Ex × St)) : St → T (Ex × St) := fun st => evalC tab ⟨callT tb50, L, Gl⟩ (loopBody Tryd.f13 0) 0 st
theorem rc50e (L : Nat → (St → T (Ex × St)) → St → T (Ex × St)) (n m : Nat) (g : Nat → E6) (f : Nat → E6) (i : Nat)  (j : Nat → V) (h0 : ilt (Int.ofNat i) 40 = false) : ((body50 L (st50 n m g f i j)).bind fun r => T.leaf (cutR (lp50 n m g f) r)).sem = some ((.ex 0), ⟨[(.slr 6 n m (fun i => (eV (g i)))), (.sl 6 n (fun i => (eV (f i)))), .und, .und, (bV Bool.false), .und, .und, .und, .und, .und, .und, .und, .und, .und, .und, .und, .und, .und, .und, .und, .und, .und, .und, .und, .und, .und, .und, .und, .und], []⟩) := by
  exact sem_of_path (ds := [false]) (cs := [(ilt (Int.ofNat i) 40)]) (by kernel_rfl) (by simp only [h0] <;> rfl)
theorem rc50n (L : Nat → (St → T (Ex × St)) → St → T (Ex × St)) (n m : Nat) (g : Nat → E6) (f : Nat → E6) (i : Nat)  (j : Nat → V) (h0 : ilt (Int.ofNat i) 40 = true) (h1 : band (ile 0 (wr IntKind.i64 (iadd (Int.ofNat n) (Int.ofNat i)))) (ilt (wr IntKind.i64 (iadd (Int.ofNat n) (Int.ofNat i))) (Int.ofNat (toN (wr IntKind.i64 (iadd (Int.ofNat n) 40))))) = true) (h2 : eqE (g (toN (wr IntKind.i64 (iadd (Int.ofNat n) (Int.ofNat i))))) (markI (Int.ofNat i)) = true) : ((body50 L (st50 n m g f i j)).bind fun r => T.leaf (cutR (lp50 n m g f) r)).sem = some (.nm, ⟨[(.slr 6 n m (fun i => (eV (g i)))), (.sl 6 n (fun i => (eV (f i)))), .und, .und, (bV Bool.false), (.sl 6 (toN (wr IntKind.i64 (iadd (Int.ofNat n) 40))) (fun i => (eV (g i)))), (iV (wr IntKind.i64 (iadd (Int.ofNat i) 1))), .und, .und, .und, .und, .und, .und, .und, .und, .und, .und, .und, .und, .und, .und, .und, .und, .und, .und, .und, .und, .und, .und], []⟩) := by
  exact sem_of_path (ds := [true, true, false]) (cs := [(ilt (Int.ofNat i) 40), (band (ile 0 (wr IntKind.i64 (iadd (Int.ofNat n) (Int.ofNat i)))) (ilt (wr IntKind.i64 (iadd (Int.ofNat n) (Int.ofNat i))) (Int.ofNat (toN (wr IntKind.i64 (iadd (Int.ofNat n) 40)))))), (bnot (eqE (g (toN (wr IntKind.i64 (iadd (Int.ofNat n) (Int.ofNat i))))) (markI (Int.ofNat i))))]) (by kernel_rfl) (by simp only [h1] <;> simp only [h0, h2] <;> rfl)
def jk50 (n m : Nat) (g : Nat → E6) (f : Nat → E6)  : Nat → V
  | 7 => (.slr 6 n m (fun i => (eV (g i))))
  | 8 => (.sl 6 n (fun i => (eV (f i))))
  | 9 => (iV (Int.ofNat n))
  | 10 => (iV (wr IntKind.i64 (iadd (Int.ofNat n) 40)))
  | 11 => (.sl 6 (toN (wr IntKind.i64 (iadd (Int.ofNat n) 40))) (fun i => (eV (g i))))
  | _ => undefV

theorem wc50 (L : Nat → (St → T (Ex × St)) → St → T (Ex × St)) (p0 : (St → T (Ex × St)) → St → Bool) (n m : Nat) (g : Nat → E6) (f : Nat → E6) (i : Nat) (h0 : band (ile 0 (wr IntKind.i64 (iadd (Int.ofNat n) 40))) (ile (wr IntKind.i64 (iadd (Int.ofNat n) 40)) (Int.ofNat m)) = true) (h1 : smallN n = true) (hp0 : p0 (body50 (onP 0 p0 (en50e n m g f i) L)) (st50 n m g f 0 (jk50 n m g f )) = true) : (finF (evalF tab ⟨callT tb50, (onP 0 p0 (en50e n m g f i) L), Gl⟩ Tryd.f13 [.slr 6 n m (fun i => eV (g i)), edgesV n f] [])).sem = some ((bV (sameB n g n f)), []) := by
  exact sem_of_path (ds := [true, true, true, true, true]) (cs := [(band (ile 0 (wr IntKind.i64 (iadd (Int.ofNat n) 40))) (ile (wr IntKind.i64 (iadd (Int.ofNat n) 40)) (Int.ofNat m))), (p0 (body50 (onP 0 p0 (en50e n m g f i) L)) (st50 n m g f 0 (jk50 n m g f ))), (allN n (fun _ => Bool.true)), (allN n (fun _ => Bool.true)), (smallN n)]) (by kernel_rfl) (by simp only [hp0] <;> simp only [h0] <;> simp only [h1, allN_true] <;> rfl)

/-- Is a copy as it was lent, its room too? -/
def keptB (n m : Nat) (g : Nat → E6) (k : Nat) (f : Nat → E6) : Bool := decide (n = k) && (decide (m = n + 40) && (allN n (fun i => eqE (g i) (f i)) && allN 40 fun i => eqE (g (n + i)) (markI (Int.ofNat i))))

theorem run50 (L : Nat → (St → T (Ex × St)) → St → T (Ex × St)) (n m : Nat) (g f : Nat → E6) (hn : (n + 60) * 40 ≤ 140737488355328) (hg : ∀ i, i < 40 → g (n + i) = markI (Int.ofNat i)) : ∀ (d i : Nat) (j : Nat → V) (q : Nat), 40 = i + d → d < q →
    (iterT (body50 L) (lp50 n m g f) q (st50 n m g f i j)).sem = some (en50e n m g f 40)
  | 0, i, j, q + 1, h, _ => by
    have : i = 40 := by omega
    subst this
    exact iter_round (rc50e L n m g f 40 j rfl)
  | d + 1, i, j, q + 1, h, h2 => by
    have hi : i < 40 := by omega
    have hl : ilt (Int.ofNat i) 40 = true := by rw [show (40 : Int) = Int.ofNat 40 from rfl, ilt_nat, decide_eq_true hi]
    have e1 : wr IntKind.i64 (iadd (Int.ofNat n) (Int.ofNat i)) = Int.ofNat (n + i) := wr_add (by omega)
    have e2 : wr IntKind.i64 (iadd (Int.ofNat n) 40) = Int.ofNat (n + 40) := wr_add (b := 40) (by omega)
    have hb : band (ile 0 (wr IntKind.i64 (iadd (Int.ofNat n) (Int.ofNat i)))) (ilt (wr IntKind.i64 (iadd (Int.ofNat n) (Int.ofNat i))) (Int.ofNat (toN (wr IntKind.i64 (iadd (Int.ofNat n) 40))))) = true := by
      rw [e1, e2]; exact ofNat_in (show n + i < n + 40 by omega)
    have hq : eqE (g (toN (wr IntKind.i64 (iadd (Int.ofNat n) (Int.ofNat i))))) (markI (Int.ofNat i)) = true := by
      rw [e1, show toN (Int.ofNat (n + i)) = n + i from rfl, hg i hi]
      exact eqE_self _
    rw [iter_round (rc50n L n m g f i j hl hb hq), goOn_nm, succ_wr hi (by decide)]
    exact run50 L n m g f hn hg d (i + 1) (fun _ => .und) q (by omega) (by omega)

def keptT : List V → T (V × List Blk)
  | [.slr s n m g, v] => match Nat.beq s 6 with
    | true => .br (allN m fun i => okE (g i)) (apL v fun k f => .br (fitN (nadd n 60)) (.br (keptB n m (fun i => edE (g i)) k f) (out (bV true)) .fail) .fail) .fail
    | false => .fail
  | _ => .fail

theorem p50 : PureC Tryd.prog Gl 13 keptT := by
  refine pureC_intro tabOK mixed Tryd.func13 (by kernel_rfl) (by kernel_rfl) fun vs v h' h => ?_
  unfold keptT at h
  split at h
  · rename_i s n m g u
    split at h
    · rename_i hs
      have hs := Nat.eq_of_beq_eq_true hs
      subst hs
      obtain ⟨h1, h2⟩ := sem_br_fail h
      obtain ⟨k, f, ha, h3⟩ := apL_some h2
      obtain ⟨hn, h4⟩ := sem_br_fail h3
      obtain ⟨hk, hq⟩ := sem_br_fail h4
      have := sem_leaf hq
      simp only [Prod.mk.injEq] at this
      obtain ⟨rfl, rfl⟩ := this
      simp only [keptB, Bool.and_eq_true, decide_eq_true_eq] at hk
      obtain ⟨rfl, rfl, hk1, hk2⟩ := hk
      have hk1 : ∀ i, i < n → edE (g i) = f i := fun i hi => (eqE_iff _ _).1 (allN_iff.1 hk1 i hi)
      have hk2 : ∀ i, i < 40 → edE (g (n + i)) = markI (Int.ofNat i) := fun i hi => (eqE_iff _ _).1 (allN_iff.1 hk2 i hi)
      have h8 : (n + 60) * 40 ≤ 140737488355328 := of_decide_eq_true hn
      have h1 := allN_iff.1 h1
      have hA : ArgLE [.slr 6 n (n + 40) g, u] [.slr 6 n (n + 40) (fun i => eV (edE (g i))), edgesV n f] := fun S w cs hv => by
        obtain ⟨c, l, rfl, q1, c2, l2, rfl, q2, q3⟩ := hv
        exact ⟨c, _, rfl, VR_slr (fun i hi => (okE_spec (h1 i hi)).symm) q1, c2, l2, rfl, ha S w c2 q2, q3⟩
      have hx := cx_ok tb50_ok [(0, lp50 n (n + 40) (fun i => edE (g i)) f)]
      have hL := loopsBy_le [(0, lp50 n (n + 40) (fun i => edE (g i)) f)]
      have e2 : wr IntKind.i64 (iadd (Int.ofNat n) 40) = Int.ofNat (n + 40) := wr_add (b := 40) (by omega)
      have hb : band (ile 0 (wr IntKind.i64 (iadd (Int.ofNat n) 40))) (ile (wr IntKind.i64 (iadd (Int.ofNat n) 40)) (Int.ofNat (n + 40))) = true := by
        rw [e2, ofNat_0, ile_nat, decide_eq_true (Nat.le_refl _)]
        rfl
      have hw := told_le (onP_le hL hL) _ (wc50 _ _ n (n + 40) (fun i => edE (g i)) f 40 hb (decide_eq_true (by omega)) (isP_true (run50 _ n (n + 40) (fun i => edE (g i)) f h8 hk2 40 0 _ 41 rfl (by omega))))
      rw [sameB_at.2 ⟨rfl, hk1⟩] at hw
      exact ⟨_, cxOf Gl tb50 [(0, lp50 n (n + 40) (fun i => edE (g i)) f)], _, hA, rfl, hx.1, hx.2, hw, RowsLE.refl _⟩
    · cases h
  · cases h

theorem kept_lent (n : Nat) (f : Nat → E6) : keptB n (nadd n 40) (fun i => lentE n f i) n f = true := by
  simp only [keptB, Bool.and_eq_true, decide_eq_true_eq]
  refine ⟨trivial, rfl, allN_iff.2 fun i hi => (eqE_iff _ _).2 ?_, allN_iff.2 fun i hi => (eqE_iff _ _).2 ?_⟩
  · simp [lentE, hi]
  · show lentE n f (n + i) = markI (Int.ofNat i)
    unfold lentE
    rw [decide_eq_false (show ¬ n + i < n by omega), show n + i - n = i by omega]
    rfl

theorem lentE_lt {n : Nat} {f : Nat → E6} {i : Nat} (h : i < n) : lentE n f i = f i := by simp [lentE, h]

theorem fit60 {n : Nat} (h : fitN (nadd n 60) = true) : fitN n = true := by
  have h : (n + 60) * 40 ≤ 140737488355328 := of_decide_eq_true h
  exact decide_eq_true (by omega)

theorem ieq_rfl (a : Int) : ieq a a = true := by simp [ieq]


end Go.Proofs.YtkcbdemfmjciiaaDoor.Ed



