/-
  Marked, Grown, Heaped: of edges and of numbers. No conditions.
-/
import Derived.Test.YtkcbdemfmjciiaaGreatDoorCyT
import Derived.Test.YtkcbdemfmjciiaaGreatDoorSyU
namespace Go.Proofs.YtkcbdemfmjciiaaGreatDoor.Ed
open Go.Sy Go


/-! ### Callees that write a row of the caller's -/

theorem toldH_le {τ : List Ty} {call : FuncId → List V → List Blk → T (V × List Blk)} {G : Nat → V} {fn : Func} {vs : List V} {H : List Blk} {L L' : Nat → (St → T (Ex × St)) → St → T (Ex × St)}
    (h : LLe L L') : TLe (evalF τ ⟨call, L, G⟩ fn vs H) (evalF τ ⟨call, L', G⟩ fn vs H) := by
  unfold evalF
  cases fn.body with
  | none => exact TLe.refl _
  | some c => exact TLe.bind (evalC_le (Γ := ⟨call, L, G⟩) h c 0 _) fun _ => TLe.refl _

def cxM (G : Nat → V) (mt : List (Nat × (List V → List Blk → T (V × List Blk)))) (tbl : List (Nat × (List V → T (V × List Blk)))) (loops : List (Nat × Lp)) : Cx := ⟨callM mt tbl, loopsBy loops, G⟩

theorem cxM_ok {P : Program} {G : Nat → V} {mt : List (Nat × (List V → List Blk → T (V × List Blk)))} {tbl : List (Nat × (List V → T (V × List Blk)))} (hm : AllMut P G mt) (h : AllPure P G tbl) (loops : List (Nat × Lp)) : CallOK P (cxM G mt tbl loops).base ∧ LoopOK (cxM G mt tbl loops) :=
  ⟨callM_ok rfl hm h, fun id f st r hr => by
    have hr : (loopsBy loops id f st).sem = some r := hr
    unfold loopsBy at hr
    split at hr
    · exact iterT_run hr
    · cases hr⟩

noncomputable def tb43 : List (Nat × (List V → T (V × List Blk))) := []
theorem tb43_ok : AllPure Tryz.prog Gl tb43 := .nil

theorem beq_no {i k : Nat} (h : i ≠ k) : Nat.beq i k = false := by
  cases hb : Nat.beq i k
  · rfl
  · exact absurd (Nat.eq_of_beq_eq_true hb) h

def updA {α : Type} (z : Nat → α) (i : Nat) (e : α) : Nat → α := fun k => bif Nat.beq k i then e else z k
def fillA {α : Type} (y : Nat → α) (e : α) : Nat → Nat → α
  | 0 => y
  | i + 1 => updA (fillA y e i) i e
theorem fillA_lt {α : Type} (y : Nat → α) (e : α) : ∀ i j, j < i → fillA y e i j = e
  | i + 1, j, h => by
    show (bif Nat.beq j i then e else fillA y e i j) = e
    by_cases hj : j = i
    · rw [hj, Nat.beq_refl]; rfl
    · rw [beq_no hj]; exact fillA_lt y e i j (by omega)
theorem set_eV (z : Nat → E6) (i : Nat) (e : E6) : setGet (fun k => eV (z k)) i (eV e) = fun k => eV (updA z i e k) := by
  funext k
  rw [setGet_eq]
  unfold updA
  cases Nat.beq k i <;> rfl
theorem set_iV (z : Nat → Int) (i : Nat) (e : Int) : setGet (fun k => iV (z k)) i (iV e) = fun k => iV (updA z i e k) := by
  funext k
  rw [setGet_eq]
  unfold updA
  cases Nat.beq k i <;> rfl
def pushM (g : Nat → V) (n : Nat) (e : V) : Nat → Nat → V
  | 0 => g
  | i + 1 => pushGet (n + i) (pushM g n e i) e
theorem ile_0 (i : Nat) : ile 0 (Int.ofNat i) = true := decide_eq_true (Int.natCast_nonneg i)

def ent43 (n : Nat) (y : Nat → E6) (k : Int)  : St := ⟨[(.ref 0), (iV k), undefV, undefV, (iV 0), undefV, undefV, undefV, undefV, undefV, undefV, undefV, undefV, undefV, undefV, undefV, undefV], [(.xrow Bool.false 38 6 n (fun i => (eV (y i))))]⟩

def lp43 (n : Nat) (y : Nat → E6) (k : Int) : Lp := ⟨[true, true, false, false, true, false, false, false, false, false, false, false, false, false, false, false, false], 1, [false, false, false, false, false, false, false, false, false, false, false, false, false, false, false, false, false], 1, n + 1⟩
def st43 (n : Nat) (y : Nat → E6) (k : Int) (i : Nat) (z : Nat → E6) (j : Nat → V) : St := ⟨[.ref 0, iV k, j 2, j 3, iV (Int.ofNat i), j 5, j 6, j 7, j 8, j 9, j 10, j 11, j 12, j 13, j 14, j 15, j 16], [.xrow false 38 6 n (fun i => eV (z i))]⟩
def en43e (n : Nat) (y : Nat → E6) (k : Int) (i : Nat) (z : Nat → E6) : Ex × St := (.ex 0, ⟨[.und, .und, .und, .und, .und, .und, .und, .und, .und, .und, .und, .und, .und, .und, .und, .und, .und], [.xrow false 38 6 n (fun i => eV (z i))]⟩)
def ent44 (n : Nat) (g : Nat → V) (k : Int)  : St := ⟨[(.ref 0), (iV k), undefV, undefV, (iV 0), undefV, undefV, undefV, undefV, undefV, undefV, undefV, undefV, undefV, undefV], [(.xrow Bool.true 38 6 n g)]⟩

def lp44 (n : Nat) (g : Nat → V) (k : Int) : Lp := ⟨[true, true, false, false, true, false, false, false, false, false, false, false, false, false, false], 1, [false, false, false, false, false, false, false, false, false, false, false, false, false, false, false], 1, 21⟩
def st44 (n : Nat) (g : Nat → V) (k : Int) (i m : Nat) (x : Nat → V) (j : Nat → V) : St := ⟨[.ref 0, iV k, j 2, j 3, iV (Int.ofNat i), j 5, j 6, j 7, j 8, j 9, j 10, j 11, j 12, j 13, j 14], [.xrow true 38 6 m x]⟩
def en44e (n : Nat) (g : Nat → V) (k : Int) (i m : Nat) (x : Nat → V) : Ex × St := (.ex 0, ⟨[.und, .und, .und, .und, .und, .und, .und, .und, .und, .und, .und, .und, .und, .und, .und], [.xrow true 38 6 m x]⟩)
def ent45 (n : Nat) (g : Nat → V) (k : Int)  : St := ⟨[(.ref 0), (iV k), undefV, undefV, (.ref 1), (iV 0), (.ref 1), undefV, undefV, undefV, undefV, undefV, undefV, undefV, undefV, undefV, undefV, undefV, undefV, undefV], [(.xrow Bool.true 38 6 n g), (.row 38 6 60 (fun _ => (.agg [(iV 0), (bV Bool.false), (bV Bool.false), (iV 0), (iV 0), (iV 0)])))]⟩

def lp45 (n : Nat) (g : Nat → V) (k : Int) : Lp := ⟨[true, true, false, false, true, true, false, false, false, false, false, false, false, false, false, false, false, false, false, false], 2, [true, false, false, false, true, false, false, false, false, false, false, false, false, false, false, false, false, false, false, false], 2, 61⟩
def st45 (n : Nat) (g : Nat → V) (k : Int) (i : Nat) (z : Nat → E6) (j : Nat → V) : St := ⟨[.ref 0, iV k, j 2, j 3, .ref 1, iV (Int.ofNat i), j 6, j 7, j 8, j 9, j 10, j 11, j 12, j 13, j 14, j 15, j 16, j 17, j 18, j 19], [.xrow true 38 6 n g, .row 38 6 60 (fun i => eV (z i))]⟩
def en45e (n : Nat) (g : Nat → V) (k : Int) (i : Nat) (z : Nat → E6) : Ex × St := (.ex 0, ⟨[.ref 0, .und, .und, .und, .ref 1, .und, .und, .und, .und, .und, .und, .und, .und, .und, .und, .und, .und, .und, .und, .und], [.xrow true 38 6 n g, .row 38 6 60 (fun i => eV (z i))]⟩)
theorem ent43_eq (n : Nat) (y : Nat → E6) (k : Int) : ent43 n y k = st43 n y k 0 y (fun i => nth (ent43 n y k).t i) := by kernel_rfl

/-- What it leaves: marks. -/
def markE (n : Nat) (g : Nat → V) : List V → T (Nat → V)
  | [.val (.int .i64 k)] => .br (smallN n) (.br (allN n fun i => okE (g i)) (.leaf fun _ => eV (markI (wr IntKind.i64 (iadd 500 k)))) .fail) .fail
  | _ => .fail

theorem ent44_eq (n : Nat) (g : Nat → V) (k : Int) : ent44 n g k = st44 n g k 0 (n + 0) g (fun i => nth (ent44 n g k).t i) := by kernel_rfl

def growE (n : Nat) (_ : Nat → V) : List V → T Unit
  | [.val (.int .i64 _)] => .br (apOK n 60 40) (.leaf ()) .fail
  | _ => .fail

theorem ent45_eq (n : Nat) (g : Nat → V) (k : Int) : ent45 n g k = st45 n g k 0 (fun _ => zeroE) (fun i => nth (ent45 n g k).t i) := by kernel_rfl

def ent56 (n : Nat) (y : Nat → Int) (k : Int)  : St := ⟨[(.ref 0), (iV k), undefV, undefV, (iV 0), undefV, undefV, undefV, undefV, undefV, undefV, undefV, undefV, undefV, undefV, undefV], [(.xrow Bool.false 3 1 n (fun i => (iV (y i))))]⟩

def lp56 (n : Nat) (y : Nat → Int) (k : Int) : Lp := ⟨[true, true, false, false, true, false, false, false, false, false, false, false, false, false, false, false], 1, [false, false, false, false, false, false, false, false, false, false, false, false, false, false, false, false], 1, n + 1⟩
def st56 (n : Nat) (y : Nat → Int) (k : Int) (i : Nat) (z : Nat → Int) (j : Nat → V) : St := ⟨[.ref 0, iV k, j 2, j 3, iV (Int.ofNat i), j 5, j 6, j 7, j 8, j 9, j 10, j 11, j 12, j 13, j 14, j 15], [.xrow false 3 1 n (fun i => iV (z i))]⟩
def en56e (n : Nat) (y : Nat → Int) (k : Int) (i : Nat) (z : Nat → Int) : Ex × St := (.ex 0, ⟨[.und, .und, .und, .und, .und, .und, .und, .und, .und, .und, .und, .und, .und, .und, .und, .und], [.xrow false 3 1 n (fun i => iV (z i))]⟩)
def ent57 (n : Nat) (g : Nat → V) (k : Int)  : St := ⟨[(.ref 0), (iV k), undefV, undefV, (iV 0), undefV, undefV, undefV, undefV, undefV, undefV, undefV, undefV, undefV], [(.xrow Bool.true 3 1 n g)]⟩

def lp57 (n : Nat) (g : Nat → V) (k : Int) : Lp := ⟨[true, true, false, false, true, false, false, false, false, false, false, false, false, false], 1, [false, false, false, false, false, false, false, false, false, false, false, false, false, false], 1, 21⟩
def st57 (n : Nat) (g : Nat → V) (k : Int) (i m : Nat) (x : Nat → V) (j : Nat → V) : St := ⟨[.ref 0, iV k, j 2, j 3, iV (Int.ofNat i), j 5, j 6, j 7, j 8, j 9, j 10, j 11, j 12, j 13], [.xrow true 3 1 m x]⟩
def en57e (n : Nat) (g : Nat → V) (k : Int) (i m : Nat) (x : Nat → V) : Ex × St := (.ex 0, ⟨[.und, .und, .und, .und, .und, .und, .und, .und, .und, .und, .und, .und, .und, .und], [.xrow true 3 1 m x]⟩)
def ent58 (n : Nat) (g : Nat → V) (k : Int)  : St := ⟨[(.ref 0), (iV k), undefV, undefV, (.ref 1), (iV 0), (.ref 1), undefV, undefV, undefV, undefV, undefV, undefV, undefV, undefV, undefV, undefV, undefV, undefV], [(.xrow Bool.true 3 1 n g), (.row 3 1 80 (fun _ => (iV 0)))]⟩

def lp58 (n : Nat) (g : Nat → V) (k : Int) : Lp := ⟨[true, true, false, false, true, true, false, false, false, false, false, false, false, false, false, false, false, false, false], 2, [true, false, false, false, true, false, false, false, false, false, false, false, false, false, false, false, false, false, false], 2, 81⟩
def st58 (n : Nat) (g : Nat → V) (k : Int) (i : Nat) (z : Nat → Int) (j : Nat → V) : St := ⟨[.ref 0, iV k, j 2, j 3, .ref 1, iV (Int.ofNat i), j 6, j 7, j 8, j 9, j 10, j 11, j 12, j 13, j 14, j 15, j 16, j 17, j 18], [.xrow true 3 1 n g, .row 3 1 80 (fun i => iV (z i))]⟩
def en58e (n : Nat) (g : Nat → V) (k : Int) (i : Nat) (z : Nat → Int) : Ex × St := (.ex 0, ⟨[.ref 0, .und, .und, .und, .ref 1, .und, .und, .und, .und, .und, .und, .und, .und, .und, .und, .und, .und, .und, .und], [.xrow true 3 1 n g, .row 3 1 80 (fun i => iV (z i))]⟩)
theorem ent56_eq (n : Nat) (y : Nat → Int) (k : Int) : ent56 n y k = st56 n y k 0 y (fun i => nth (ent56 n y k).t i) := by kernel_rfl

/-- What it leaves: marks. -/
def markNI (n : Nat) (g : Nat → V) : List V → T (Nat → V)
  | [.val (.int .i64 k)] => .br (smallN n) (.br (allN n fun i => okI (g i)) (.leaf fun _ => iV (wr IntKind.i64 (isub (-1000000) k))) .fail) .fail
  | _ => .fail

theorem ent57_eq (n : Nat) (g : Nat → V) (k : Int) : ent57 n g k = st57 n g k 0 (n + 0) g (fun i => nth (ent57 n g k).t i) := by kernel_rfl

def growI (n : Nat) (_ : Nat → V) : List V → T Unit
  | [.val (.int .i64 _)] => .br (apOK n 80 8) (.leaf ()) .fail
  | _ => .fail

theorem ent58_eq (n : Nat) (g : Nat → V) (k : Int) : ent58 n g k = st58 n g k 0 (fun _ => 0) (fun i => nth (ent58 n g k).t i) := by kernel_rfl

end Go.Proofs.YtkcbdemfmjciiaaGreatDoor.Ed



