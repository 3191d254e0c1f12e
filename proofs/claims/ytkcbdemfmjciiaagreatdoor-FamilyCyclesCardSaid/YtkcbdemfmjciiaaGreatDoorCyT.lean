/-
  Lent, Kept. No conditions.
-/
import Derived.Test.YtkcbdemfmjciiaaGreatDoorCyO
namespace Go.Proofs.YtkcbdemfmjciiaaGreatDoor.Ed
open Go.Sy


theorem PureC.val {P : Program} {G : Nat → V} {f : FuncId} {F F' : List V → T (V × List Blk)} (h : PureC P G f F)
    (hF : ∀ vs r, (F' vs).sem = some r → ∃ v0, (F vs).sem = some (v0, r.2) ∧ ∀ S w κ c, VR S w v0 κ c → VR S w r.1 κ c) : PureC P G f F' := by
  refine ⟨h.1, fun vs cs S w v h' hS hE hv he => ?_⟩
  obtain ⟨v0, h1, h2⟩ := hF vs (v, h') he
  obtain ⟨h3, h4⟩ := h.2 vs cs S w v0 h' hS hE hv h1
  refine ⟨h3, h4.mono ?_⟩
  rintro e w' ⟨c, κ', S', q1, q2, q3, q4⟩
  exact ⟨c, κ', S', q1, q2, h2 _ _ _ _ q3, q4⟩

def markI (k : Int) : E6 := ⟨-77, true, ieq (itmod k 2) 0, wr .i64 (iadd 1000 k), -5, 99⟩
def markT : List V → T (V × List Blk)
  | [.val (.int .i64 k)] => out (eV (markI k))
  | _ => .fail

noncomputable def tb47 : List (Nat × (List V → T (V × List Blk))) := []
theorem tb47_ok : AllPure Tryz.prog Gl tb47 := .nil

/-! ### A copy of edges that is lent, with marks in the room behind it -/

/-- What lies in the copy and behind it. -/
def lentE (n : Nat) (f : Nat → E6) (i : Nat) : E6 := bif decide (i < n) then f i else markI (Int.ofNat (i - n))
def lentX (n : Nat) (f : Nat → E6) : Nat → Nat → V
  | 0 => growGet 0 n (fun _ => eV zeroE) (fun i => eV (f i))
  | i + 1 => pushGet (n + i) (lentX n f i) (eV (markI (Int.ofNat i)))

theorem lentX_succ (n : Nat) (f : Nat → E6) (i : Nat) : lentX n f (i + 1) = pushGet (n + i) (lentX n f i) (eV (markI (Int.ofNat i))) := rfl

theorem lentX_eq (n : Nat) (f : Nat → E6) : ∀ i j, j < n + i → lentX n f i j = eV (lentE n f j)
  | 0, j, h => by
    rw [lentX, growGet_eq 0 n _ _ j (by omega)]
    show eV (f (j - 0)) = _
    rw [lentE, decide_eq_true (show j < n by omega)]
    rfl
  | i + 1, j, h => by
    rw [lentX_succ, pushGet_eq]
    by_cases hj : j = n + i
    · subst hj
      rw [Nat.beq_refl, lentE, decide_eq_false (show ¬ n + i < n by omega), show n + i - n = i by omega]
      rfl
    · rw [show Nat.beq j (n + i) = false by
        cases hb : Nat.beq j (n + i)
        · rfl
        · exact absurd (Nat.eq_of_beq_eq_true hb) hj]
      exact lentX_eq n f i j (by omega)

def lp47 (n : Nat) (f : Nat → E6) : Lp := ⟨[true, false, true, true, true, false, false, false, false, false, false, false, false, false, false, false, false, false, false, false, false, false, false, false, false], 2, [true, false, true, true, false, false, false, false, false, false, false, false, false, false, false, false, false, false, false, false, false, false, false, false, false], 2, 41⟩
def st47 (n : Nat) (f : Nat → E6) (i k : Nat) (x : Nat → V) (j : Nat → V) : St := ⟨[.sl 6 n (fun i => (eV (f i))), j 1, .ref 0, .ref 1, iV (Int.ofNat i), j 5, j 6, j 7, j 8, j 9, j 10, j 11, j 12, j 13, j 14, j 15, j 16, j 17, j 18, j 19, j 20, j 21, j 22, j 23, j 24], [.row 38 6 0 (fun _ => .und), .row 38 6 k x]⟩
def en47e (n : Nat) (f : Nat → E6) (i k : Nat) (x : Nat → V) : Ex × St := (.ex 0, ⟨[.sl 6 n (fun i => (eV (f i))), .und, .ref 0, .ref 1, .und, .und, .und, .und, .und, .und, .und, .und, .und, .und, .und, .und, .und, .und, .und, .und, .und, .und, .und, .und, .und], [.row 38 6 0 (fun _ => .und), .row 38 6 k x]⟩)
def ent47 (n : Nat) (f : Nat → E6)  : St := ⟨[(.sl 6 n (fun i => (eV (f i)))), undefV, (.ref 0), (.ref 1), (iV 0), (.sl 6 n (fun i => (eV (f i)))), (iV (Int.ofNat n)), (iV (wr IntKind.i64 (iadd (Int.ofNat n) 40))), .und, .und, (.sl 6 n (fun i => (eV (f i)))), (.ref 1), undefV, undefV, undefV, undefV, undefV, undefV, undefV, undefV, undefV, undefV, undefV, undefV, undefV], [(.row 38 6 0 (fun _ => .und)), (.row 38 6 (nadd 0 n) (growGet 0 n (fun _ => eV zeroE) (fun i => eV (f i))))]⟩

def lent0 : List V → T (V × List Blk) := apL1 fun n f => .br (fitN (nadd n 60)) (out (.slr 6 n (n + 40) (lentX n f 40))) .fail
def lentT : List V → T (V × List Blk) := apL1 fun n f => .br (fitN (nadd n 60)) (out (.slr 6 n (nadd n 40) (fun i => eV (lentE n f i)))) .fail

theorem ent47_eq (n : Nat) (f : Nat → E6) : ent47 n f = st47 n f 0 (nadd 0 n) (lentX n f 0) (fun i => nth (ent47 n f).t i) := by kernel_rfl

theorem VR_slr {s n m : Nat} {g g' : Nat → V} (h : ∀ i, i < m → g' i = g i) {S : Nat → Prop} {w : World} {κ : Nat → Option Value} {c : Value} (hv : VR S w (.slr s n m g) κ c) : VR S w (.slr s n m g') κ c := by
  obtain ⟨a, cap, e, h1, h2, h3⟩ := hv
  refine ⟨a, cap, e, h1, h2, h3.imp id ?_⟩
  rintro ⟨b, o, ea, hel⟩
  refine ⟨b, o, ea, fun i hi => ?_⟩
  rw [h i hi]
  exact hel i hi

noncomputable def tb50 : List (Nat × (List V → T (V × List Blk))) := (6, sameT) :: []
theorem tb50_ok : AllPure Tryz.prog Gl tb50 := .cons p42 .nil

def lp50 (n m : Nat) (g : Nat → E6) (f : Nat → E6) : Lp := ⟨[true, true, false, false, true, true, true, false, false, false, false, false, false, false, false, false, false, false, false, false, false, false, false, false, false, false, false, false, false], 0, [true, true, false, false, true, false, false, false, false, false, false, false, false, false, false, false, false, false, false, false, false, false, false, false, false, false, false, false, false], 0, 41⟩
def st50 (n m : Nat) (g : Nat → E6) (f : Nat → E6) (i : Nat) (j : Nat → V) : St := ⟨[.slr 6 n m (fun i => eV (g i)), .sl 6 n (fun i => (eV (f i))), j 2, j 3, bV false, .sl 6 (toN (wr IntKind.i64 (iadd (Int.ofNat n) 40))) (fun i => eV (g i)), iV (Int.ofNat i), j 7, j 8, j 9, j 10, j 11, j 12, j 13, j 14, j 15, j 16, j 17, j 18, j 19, j 20, j 21, j 22, j 23, j 24, j 25, j 26, j 27, j 28], []⟩
def en50e (n m : Nat) (g : Nat → E6) (f : Nat → E6) (i : Nat) : Ex × St := (.ex 0, ⟨[.slr 6 n m (fun i => eV (g i)), .sl 6 n (fun i => (eV (f i))), .und, .und, bV false, .und, .und, .und, .und, .und, .und, .und, .und, .und, .und, .und, .und, .und, .und, .und, .und, .und, .und, .und, .und, .und, .und, .und, .und], []⟩)
def jk50 (n m : Nat) (g : Nat → E6) (f : Nat → E6)  : Nat → V
  | 7 => (.slr 6 n m (fun i => (eV (g i))))
  | 8 => (.sl 6 n (fun i => (eV (f i))))
  | 9 => (iV (Int.ofNat n))
  | 10 => (iV (wr IntKind.i64 (iadd (Int.ofNat n) 40)))
  | 11 => (.sl 6 (toN (wr IntKind.i64 (iadd (Int.ofNat n) 40))) (fun i => (eV (g i))))
  | _ => undefV

/-- Is a copy as it was lent, its room too? -/
def keptB (n m : Nat) (g : Nat → E6) (k : Nat) (f : Nat → E6) : Bool := decide (n = k) && (decide (m = n + 40) && (allN n (fun i => eqE (g i) (f i)) && allN 40 fun i => eqE (g (n + i)) (markI (Int.ofNat i))))

def keptT : List V → T (V × List Blk)
  | [.slr s n m g, v] => match Nat.beq s 6 with
    | true => .br (allN m fun i => okE (g i)) (apL v fun k f => .br (fitN (nadd n 60)) (.br (keptB n m (fun i => edE (g i)) k f) (out (bV true)) .fail) .fail) .fail
    | false => .fail
  | _ => .fail

theorem kept_lent (n : Nat) (f : Nat → E6) : keptB n (nadd n 40) (fun i => lentE n f i) n f = true := by
  simp only [keptB, Bool.and_eq_true, decide_eq_true_eq]
  refine ⟨trivial, rfl, allN_iff.2 fun i hi => (eqE_iff _ _).2 ?_, allN_iff.2 fun i hi => (eqE_iff _ _).2 ?_⟩
  · simp [lentE, hi]
  · show lentE n f (n + i) = markI (Int.ofNat i)
    unfold lentE
    rw [decide_eq_false (show ¬ n + i < n by omega), show n + i - n = i by omega]
    rfl

theorem lentE_lt {n : Nat} {f : Nat → E6} {i : Nat} (h : i < n) : lentE n f i = f i := by simp [lentE, h]

theorem fit60 {n : Nat} (h : fitN (nadd n 60) = true) : fitN n = true := by
  have h : (n + 60) * 40 ≤ 140737488355328 := of_decide_eq_true h
  exact decide_eq_true (by omega)

theorem ieq_rfl (a : Int) : ieq a a = true := by simp [ieq]


end Go.Proofs.YtkcbdemfmjciiaaGreatDoor.Ed




