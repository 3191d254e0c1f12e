/-
  Check, the program's and the document's: one answer. No conditions.
-/
import Derived.Test.YtkcbdemfmjciiaaGreatDoorCyR
namespace Go.Proofs.YtkcbdemfmjciiaaGreatDoor.Ed
open Go.Sy

abbrev U : V := .und


noncomputable def tb49 : List (Nat × (List V → T (V × List Blk))) := (30, edgeT fun e => iV (codeF e)) :: (31, ap2 gI toE fun a e => out (legP a e)) :: (32, edgeT fun e => bV (outB e)) :: (33, edgeT fun e => bV (movB e)) :: (34, part94T) :: (35, part95T) :: (36, cntKT) :: []
theorem tb49_ok : AllPure Tryz.prog Gl tb49 := .cons p29 <| .cons p33 <| .cons p60 <| .cons p61 <| .cons p94 <| .cons p95 <| .cons p96 .nil

def cntO (n : Nat) (f : Nat → E6) : Int := Int.ofNat (cntB (fun k => outB (f k)) n)
def cntM (n : Nat) (f : Nat → E6) : Int := Int.ofNat (cntB (fun k => movB (f k)) n)
/-- Is a part too crowded? -/
def chkU (n : Nat) (f : Nat → E6) : Int × Int :=
  match crR n (partF (fun k => movB (f k)) n) (fun i => isW (f i)) 2 with
  | (i, true) => (44, i)
  | (_, false) => match crR n (partF (fun k => outB (f k)) n) (fun _ => true) 12 with
    | (i, true) => (45, i)
    | (_, false) => (0, 0)
/-- Are there edges enough that lead to other threads, to other locations? -/
def chkS (n : Nat) (f : Nat → E6) : Int × Int :=
  match ilt (cntO n f) 2, ilt (cntM n f) 2 with
  | true, _ => (42, 0)
  | false, true => (43, 0)
  | false, false => chkU n f
/-- Why edges are no cycle of a known architecture, and where. -/
def chkK (a : Int) (n : Nat) (f : Nat → E6) : Int × Int :=
  match ilt (Int.ofNat n) 2, ilt 16 (Int.ofNat n) with
  | true, _ => (40, 0)
  | false, true => (40, 0)
  | false, false => match edgR a n f, ieq (edgR a n f).1 0 with
    | r, false => r
    | _, true => chkS n f
def chkR (a : Int) (n : Nat) (f : Nat → E6) : Int × Int :=
  match ieq a 1, ieq a 2 with
  | false, false => (1, 0)
  | _, _ => chkK a n f
def chkT : List V → T (V × List Blk)
  | [.val (.int .i64 a), v] => apL v fun n f => .br (fitN n) (out (.tup [iV (chkR a n f).1, iV (chkR a n f).2])) .fail
  | _ => .fail

theorem chkR_eq {a : Int} {n : Nat} {f : Nat → E6} (h : ieq a 1 = true ∨ ieq a 2 = true) : chkR a n f = chkK a n f := by
  unfold chkR
  rcases h with h | h
  · rw [h]
  · rw [h]
    cases ieq a 1 <;> rfl

def lp49x (n : Nat) (f : Nat → E6) : Lp := ⟨[true, true, false, false, true, true, true, true, true, true, false, false, false, false, false, false, false, false, false, false, false, false, false, false, false, false, false, false, false, false, false, false, false, false, false, false, false, false, false, false, false, false, false, false, false, false, false, false, false, false, false, false, false, false, false, false, false, false, false, false, false, false, false, false, false, false, false, false, false, false, false, false, false, false, false, false, false, false, false, false, false, false, false, false, false, false, false, false, false, false, false, false, false, false, false, false, false, false, false, false, false, false, false, false, false, false, false, false, false, false, false, false, false, false, false, false, false, false, false, false, false, false, false, false, false, false, false, false, false, false, false, false, false], 0, [false, true, false, false, true, true, true, true, true, false, false, false, false, false, false, false, false, false, false, false, false, false, false, false, false, false, false, false, false, false, false, false, false, false, false, false, false, false, false, false, false, false, false, false, false, false, false, false, false, false, false, false, false, false, false, false, false, false, false, false, false, false, false, false, false, false, false, false, false, false, false, false, false, false, false, false, false, false, false, false, false, false, false, false, false, false, false, false, false, false, false, false, false, false, false, false, false, false, false, false, false, false, false, false, false, false, false, false, false, false, false, false, false, false, false, false, false, false, false, false, false, false, false, false, false, false, false, false, false, false, false, false, false], 0, n + 1⟩
def st49x (n : Nat) (f : Nat → E6) (x y : Int) (i : Nat) (j : Nat → V) : St := ⟨[iV 1, .sl 6 n (fun i => (eV (f i))), j 2, j 3, iV 0, iV 0, iV (Int.ofNat n), iV x, iV y, iV (Int.ofNat i), j 10, j 11, j 12, j 13, j 14, j 15, j 16, j 17, j 18, j 19, j 20, j 21, j 22, j 23, j 24, j 25, j 26, j 27, j 28, j 29, j 30, j 31, j 32, j 33, j 34, j 35, j 36, j 37, j 38, j 39, j 40, j 41, j 42, j 43, j 44, j 45, j 46, j 47, j 48, j 49, j 50, j 51, j 52, j 53, j 54, j 55, j 56, j 57, j 58, j 59, j 60, j 61, j 62, j 63, j 64, j 65, j 66, j 67, j 68, j 69, j 70, j 71, j 72, j 73, j 74, j 75, j 76, j 77, j 78, j 79, j 80, j 81, j 82, j 83, j 84, j 85, j 86, j 87, j 88, j 89, j 90, j 91, j 92, j 93, j 94, j 95, j 96, j 97, j 98, j 99, j 100, j 101, j 102, j 103, j 104, j 105, j 106, j 107, j 108, j 109, j 110, j 111, j 112, j 113, j 114, j 115, j 116, j 117, j 118, j 119, j 120, j 121, j 122, j 123, j 124, j 125, j 126, j 127, j 128, j 129, j 130, j 131, j 132], []⟩
def en49xe (n : Nat) (f : Nat → E6) (x y : Int) (i : Nat) : Ex × St := (.ex 0, ⟨[U, .sl 6 n (fun i => (eV (f i))), U, U, iV 0, iV 0, iV (Int.ofNat n), iV x, iV y, U, U, U, U, U, U, U, U, U, U, U, U, U, U, U, U, U, U, U, U, U, U, U, U, U, U, U, U, U, U, U, U, U, U, U, U, U, U, U, U, U, U, U, U, U, U, U, U, U, U, U, U, U, U, U, U, U, U, U, U, U, U, U, U, U, U, U, U, U, U, U, U, U, U, U, U, U, U, U, U, U, U, U, U, U, U, U, U, U, U, U, U, U, U, U, U, U, U, U, U, U, U, U, U, U, U, U, U, U, U, U, U, U, U, U, U, U, U, U, U, U, U, U, .und], []⟩)
def en49xf (n : Nat) (f : Nat → E6) (x y : Int) (i : Nat) : Ex × St := (.rt, ⟨[U, .sl 6 n (fun i => (eV (f i))), U, U, iV 30, iV (Int.ofNat i), iV (Int.ofNat n), iV x, iV y, U, U, U, U, U, U, U, U, U, U, U, U, U, U, U, U, U, U, U, U, U, U, U, U, U, U, U, U, U, U, U, U, U, U, U, U, U, U, U, U, U, U, U, U, U, U, U, U, U, U, U, U, U, U, U, U, U, U, U, U, U, U, U, U, U, U, U, U, U, U, U, U, U, U, U, U, U, U, U, U, U, U, U, U, U, U, U, U, U, U, U, U, U, U, U, U, U, U, U, U, U, U, U, U, U, U, U, U, U, U, U, U, U, U, U, U, U, U, U, U, U, U, U, .und], []⟩)
def en49xl (n : Nat) (f : Nat → E6) (x y : Int) (i : Nat) : Ex × St := (.rt, ⟨[U, .sl 6 n (fun i => (eV (f i))), U, U, iV 5, iV (Int.ofNat i), iV (Int.ofNat n), iV x, iV y, U, U, U, U, U, U, U, U, U, U, U, U, U, U, U, U, U, U, U, U, U, U, U, U, U, U, U, U, U, U, U, U, U, U, U, U, U, U, U, U, U, U, U, U, U, U, U, U, U, U, U, U, U, U, U, U, U, U, U, U, U, U, U, U, U, U, U, U, U, U, U, U, U, U, U, U, U, U, U, U, U, U, U, U, U, U, U, U, U, U, U, U, U, U, U, U, U, U, U, U, U, U, U, U, U, U, U, U, U, U, U, U, U, U, U, U, U, U, U, U, U, U, U, .und], []⟩)
noncomputable def body49x (L : Nat → (St → T (Ex × St)) → St → T (Ex × St)) : St → T (Ex × St) := fun st => evalC tab ⟨callT tb49, L, Gl⟩ (loopBody Tryz.f17 0) 0 st
theorem ra49xe (L : Nat → (St → T (Ex × St)) → St → T (Ex × St)) (n : Nat) (f : Nat → E6) (x y : Int) (i : Nat)  (j : Nat → V) (h0 : ilt (Int.ofNat i) (Int.ofNat n) = false) : ((body49x L (st49x n f x y i j)).bind fun r => T.leaf (cutR (lp49x n f) r)).sem = some ((.ex 0), ⟨[U, (.sl 6 n (fun i => (eV (f i)))), U, U, (iV 0), (iV 0), (iV (Int.ofNat n)), (iV x), (iV y), U, U, U, U, U, U, U, U, U, U, U, U, U, U, U, U, U, U, U, U, U, U, U, U, U, U, U, U, U, U, U, U, U, U, U, U, U, U, U, U, U, U, U, U, U, U, U, U, U, U, U, U, U, U, U, U, U, U, U, U, U, U, U, U, U, U, U, U, U, U, U, U, U, U, U, U, U, U, U, U, U, U, U, U, U, U, U, U, U, U, U, U, U, U, U, U, U, U, U, U, U, U, U, U, U, U, U, U, U, U, U, U, U, U, U, U, U, U, U, U, U, U, U, .und], []⟩) := by
  exact sem_of_path (ds := [false]) (cs := [(ilt (Int.ofNat i) (Int.ofNat n))]) (by kernel_rfl) (by simp only [h0] <;> rfl)
theorem ra49xf (L : Nat → (St → T (Ex × St)) → St → T (Ex × St)) (n : Nat) (f : Nat → E6) (x y : Int) (i : Nat)  (j : Nat → V) (h0 : ilt (Int.ofNat i) (Int.ofNat n) = true) (h1 : band (ile 0 (Int.ofNat i)) (ilt (Int.ofNat i) (Int.ofNat n)) = true) (h2 : ieq (codeF (f i)) 0 = false) : ((body49x L (st49x n f x y i j)).bind fun r => T.leaf (cutR (lp49x n f) r)).sem = some (.rt, ⟨[U, (.sl 6 n (fun i => (eV (f i)))), U, U, (iV 30), (iV (Int.ofNat i)), (iV (Int.ofNat n)), (iV x), (iV y), U, U, U, U, U, U, U, U, U, U, U, U, U, U, U, U, U, U, U, U, U, U, U, U, U, U, U, U, U, U, U, U, U, U, U, U, U, U, U, U, U, U, U, U, U, U, U, U, U, U, U, U, U, U, U, U, U, U, U, U, U, U, U, U, U, U, U, U, U, U, U, U, U, U, U, U, U, U, U, U, U, U, U, U, U, U, U, U, U, U, U, U, U, U, U, U, U, U, U, U, U, U, U, U, U, U, U, U, U, U, U, U, U, U, U, U, U, U, U, U, U, U, U, .und], []⟩) := by
  exact sem_of_path (ds := [true, true, true]) (cs := [(ilt (Int.ofNat i) (Int.ofNat n)), (band (ile 0 (Int.ofNat i)) (ilt (Int.ofNat i) (Int.ofNat n))), (bnot (ieq (codeF (f i)) 0))]) (by kernel_rfl) (by simp only [h1] <;> simp only [h0, h2] <;> rfl)
theorem ra49xl (L : Nat → (St → T (Ex × St)) → St → T (Ex × St)) (n : Nat) (f : Nat → E6) (x y : Int) (i : Nat)  (j : Nat → V) (h0 : ilt (Int.ofNat i) (Int.ofNat n) = true) (h1 : band (ile 0 (Int.ofNat i)) (ilt (Int.ofNat i) (Int.ofNat n)) = true) (h2 : ieq (codeF (f i)) 0 = true) (h3 : legR 1 (f i) = false) : ((body49x L (st49x n f x y i j)).bind fun r => T.leaf (cutR (lp49x n f) r)).sem = some (.rt, ⟨[U, (.sl 6 n (fun i => (eV (f i)))), U, U, (iV 5), (iV (Int.ofNat i)), (iV (Int.ofNat n)), (iV x), (iV y), U, U, U, U, U, U, U, U, U, U, U, U, U, U, U, U, U, U, U, U, U, U, U, U, U, U, U, U, U, U, U, U, U, U, U, U, U, U, U, U, U, U, U, U, U, U, U, U, U, U, U, U, U, U, U, U, U, U, U, U, U, U, U, U, U, U, U, U, U, U, U, U, U, U, U, U, U, U, U, U, U, U, U, U, U, U, U, U, U, U, U, U, U, U, U, U, U, U, U, U, U, U, U, U, U, U, U, U, U, U, U, U, U, U, U, U, U, U, U, U, U, U, U, .und], []⟩) := by
  exact sem_of_path (ds := [true, true, false, true, true]) (cs := [(ilt (Int.ofNat i) (Int.ofNat n)), (band (ile 0 (Int.ofNat i)) (ilt (Int.ofNat i) (Int.ofNat n))), (bnot (ieq (codeF (f i)) 0)), (band (ile 0 (Int.ofNat i)) (ilt (Int.ofNat i) (Int.ofNat n))), (bnot (legR 1 (f i)))]) (by kernel_rfl) (by simp only [h1] <;> simp only [h0, h2, h3] <;> rfl)
theorem ra49xoo (L : Nat → (St → T (Ex × St)) → St → T (Ex × St)) (n : Nat) (f : Nat → E6) (x y : Int) (i : Nat)  (j : Nat → V) (h0 : ilt (Int.ofNat i) (Int.ofNat n) = true) (h1 : band (ile 0 (Int.ofNat i)) (ilt (Int.ofNat i) (Int.ofNat n)) = true) (h2 : ieq (codeF (f i)) 0 = true) (h3 : legR 1 (f i) = true) (h4 : outB (f i) = false) (h5 : movB (f i) = false) : ((body49x L (st49x n f x y i j)).bind fun r => T.leaf (cutR (lp49x n f) r)).sem = some (.nm, ⟨[(iV 1), (.sl 6 n (fun i => (eV (f i)))), U, U, (iV 0), (iV 0), (iV (Int.ofNat n)), (iV x), (iV y), (iV (wr IntKind.i64 (iadd (Int.ofNat i) 1))), U, U, U, U, U, U, U, U, U, U, U, U, U, U, U, U, U, U, U, U, U, U, U, U, U, U, U, U, U, U, U, U, U, U, U, U, U, U, U, U, U, U, U, U, U, U, U, U, U, U, U, U, U, U, U, U, U, U, U, U, U, U, U, U, U, U, U, U, U, U, U, U, U, U, U, U, U, U, U, U, U, U, U, U, U, U, U, U, U, U, U, U, U, U, U, U, U, U, U, U, U, U, U, U, U, U, U, U, U, U, U, U, U, U, U, U, U, U, U, U, U, U, .und], []⟩) := by
  exact sem_of_path (ds := [true, true, false, true, false, true, false, true, false]) (cs := [(ilt (Int.ofNat i) (Int.ofNat n)), (band (ile 0 (Int.ofNat i)) (ilt (Int.ofNat i) (Int.ofNat n))), (bnot (ieq (codeF (f i)) 0)), (band (ile 0 (Int.ofNat i)) (ilt (Int.ofNat i) (Int.ofNat n))), (bnot (legR 1 (f i))), (band (ile 0 (Int.ofNat i)) (ilt (Int.ofNat i) (Int.ofNat n))), (outB (f i)), (band (ile 0 (Int.ofNat i)) (ilt (Int.ofNat i) (Int.ofNat n))), (movB (f i))]) (by kernel_rfl) (by simp only [h1] <;> simp only [h0, h2, h3, h4, h5] <;> rfl)
theorem ra49xom (L : Nat → (St → T (Ex × St)) → St → T (Ex × St)) (n : Nat) (f : Nat → E6) (x y : Int) (i : Nat)  (j : Nat → V) (h0 : ilt (Int.ofNat i) (Int.ofNat n) = true) (h1 : band (ile 0 (Int.ofNat i)) (ilt (Int.ofNat i) (Int.ofNat n)) = true) (h2 : ieq (codeF (f i)) 0 = true) (h3 : legR 1 (f i) = true) (h4 : outB (f i) = false) (h5 : movB (f i) = true) : ((body49x L (st49x n f x y i j)).bind fun r => T.leaf (cutR (lp49x n f) r)).sem = some (.nm, ⟨[(iV 1), (.sl 6 n (fun i => (eV (f i)))), U, U, (iV 0), (iV 0), (iV (Int.ofNat n)), (iV x), (iV (wr IntKind.i64 (iadd y 1))), (iV (wr IntKind.i64 (iadd (Int.ofNat i) 1))), U, U, U, U, U, U, U, U, U, U, U, U, U, U, U, U, U, U, U, U, U, U, U, U, U, U, U, U, U, U, U, U, U, U, U, U, U, U, U, U, U, U, U, U, U, U, U, U, U, U, U, U, U, U, U, U, U, U, U, U, U, U, U, U, U, U, U, U, U, U, U, U, U, U, U, U, U, U, U, U, U, U, U, U, U, U, U, U, U, U, U, U, U, U, U, U, U, U, U, U, U, U, U, U, U, U, U, U, U, U, U, U, U, U, U, U, U, U, U, U, U, U, .und], []⟩) := by
  exact sem_of_path (ds := [true, true, false, true, false, true, false, true, true]) (cs := [(ilt (Int.ofNat i) (Int.ofNat n)), (band (ile 0 (Int.ofNat i)) (ilt (Int.ofNat i) (Int.ofNat n))), (bnot (ieq (codeF (f i)) 0)), (band (ile 0 (Int.ofNat i)) (ilt (Int.ofNat i) (Int.ofNat n))), (bnot (legR 1 (f i))), (band (ile 0 (Int.ofNat i)) (ilt (Int.ofNat i) (Int.ofNat n))), (outB (f i)), (band (ile 0 (Int.ofNat i)) (ilt (Int.ofNat i) (Int.ofNat n))), (movB (f i))]) (by kernel_rfl) (by simp only [h1] <;> simp only [h0, h2, h3, h4, h5] <;> rfl)
theorem ra49xxo (L : Nat → (St → T (Ex × St)) → St → T (Ex × St)) (n : Nat) (f : Nat → E6) (x y : Int) (i : Nat)  (j : Nat → V) (h0 : ilt (Int.ofNat i) (Int.ofNat n) = true) (h1 : band (ile 0 (Int.ofNat i)) (ilt (Int.ofNat i) (Int.ofNat n)) = true) (h2 : ieq (codeF (f i)) 0 = true) (h3 : legR 1 (f i) = true) (h4 : outB (f i) = true) (h5 : movB (f i) = false) : ((body49x L (st49x n f x y i j)).bind fun r => T.leaf (cutR (lp49x n f) r)).sem = some (.nm, ⟨[(iV 1), (.sl 6 n (fun i => (eV (f i)))), U, U, (iV 0), (iV 0), (iV (Int.ofNat n)), (iV (wr IntKind.i64 (iadd x 1))), (iV y), (iV (wr IntKind.i64 (iadd (Int.ofNat i) 1))), U, U, U, U, U, U, U, U, U, U, U, U, U, U, U, U, U, U, U, U, U, U, U, U, U, U, U, U, U, U, U, U, U, U, U, U, U, U, U, U, U, U, U, U, U, U, U, U, U, U, U, U, U, U, U, U, U, U, U, U, U, U, U, U, U, U, U, U, U, U, U, U, U, U, U, U, U, U, U, U, U, U, U, U, U, U, U, U, U, U, U, U, U, U, U, U, U, U, U, U, U, U, U, U, U, U, U, U, U, U, U, U, U, U, U, U, U, U, U, U, U, U, .und], []⟩) := by
  exact sem_of_path (ds := [true, true, false, true, false, true, true, true, false]) (cs := [(ilt (Int.ofNat i) (Int.ofNat n)), (band (ile 0 (Int.ofNat i)) (ilt (Int.ofNat i) (Int.ofNat n))), (bnot (ieq (codeF (f i)) 0)), (band (ile 0 (Int.ofNat i)) (ilt (Int.ofNat i) (Int.ofNat n))), (bnot (legR 1 (f i))), (band (ile 0 (Int.ofNat i)) (ilt (Int.ofNat i) (Int.ofNat n))), (outB (f i)), (band (ile 0 (Int.ofNat i)) (ilt (Int.ofNat i) (Int.ofNat n))), (movB (f i))]) (by kernel_rfl) (by simp only [h1] <;> simp only [h0, h2, h3, h4, h5] <;> rfl)
theorem ra49xxm (L : Nat → (St → T (Ex × St)) → St → T (Ex × St)) (n : Nat) (f : Nat → E6) (x y : Int) (i : Nat)  (j : Nat → V) (h0 : ilt (Int.ofNat i) (Int.ofNat n) = true) (h1 : band (ile 0 (Int.ofNat i)) (ilt (Int.ofNat i) (Int.ofNat n)) = true) (h2 : ieq (codeF (f i)) 0 = true) (h3 : legR 1 (f i) = true) (h4 : outB (f i) = true) (h5 : movB (f i) = true) : ((body49x L (st49x n f x y i j)).bind fun r => T.leaf (cutR (lp49x n f) r)).sem = some (.nm, ⟨[(iV 1), (.sl 6 n (fun i => (eV (f i)))), U, U, (iV 0), (iV 0), (iV (Int.ofNat n)), (iV (wr IntKind.i64 (iadd x 1))), (iV (wr IntKind.i64 (iadd y 1))), (iV (wr IntKind.i64 (iadd (Int.ofNat i) 1))), U, U, U, U, U, U, U, U, U, U, U, U, U, U, U, U, U, U, U, U, U, U, U, U, U, U, U, U, U, U, U, U, U, U, U, U, U, U, U, U, U, U, U, U, U, U, U, U, U, U, U, U, U, U, U, U, U, U, U, U, U, U, U, U, U, U, U, U, U, U, U, U, U, U, U, U, U, U, U, U, U, U, U, U, U, U, U, U, U, U, U, U, U, U, U, U, U, U, U, U, U, U, U, U, U, U, U, U, U, U, U, U, U, U, U, U, U, U, U, U, U, U, .und], []⟩) := by
  exact sem_of_path (ds := [true, true, false, true, false, true, true, true, true]) (cs := [(ilt (Int.ofNat i) (Int.ofNat n)), (band (ile 0 (Int.ofNat i)) (ilt (Int.ofNat i) (Int.ofNat n))), (bnot (ieq (codeF (f i)) 0)), (band (ile 0 (Int.ofNat i)) (ilt (Int.ofNat i) (Int.ofNat n))), (bnot (legR 1 (f i))), (band (ile 0 (Int.ofNat i)) (ilt (Int.ofNat i) (Int.ofNat n))), (outB (f i)), (band (ile 0 (Int.ofNat i)) (ilt (Int.ofNat i) (Int.ofNat n))), (movB (f i))]) (by kernel_rfl) (by simp only [h1] <;> simp only [h0, h2, h3, h4, h5] <;> rfl)
def jk49x (n : Nat) (f : Nat → E6)  : Nat → V
  | 17 => (iV 1)
  | 18 => (bV (bnot (ieq 1 1)))
  | 19 => (bV (bnot (ieq 1 1)))
  | 22 => (bV Bool.false)
  | 23 => (.sl 6 n (fun i => (eV (f i))))
  | 24 => (iV (Int.ofNat n))
  | 25 => (iV (Int.ofNat n))
  | 26 => (bV (ilt (Int.ofNat n) 2))
  | 27 => (bV (ilt (Int.ofNat n) 2))
  | 28 => (iV (Int.ofNat n))
  | 29 => (bV (ilt 16 (Int.ofNat n)))
  | 30 => (bV (ilt 16 (Int.ofNat n)))
  | _ => undefV

def lp49_2x (n : Nat) (f : Nat → E6) : Lp := ⟨[false, true, false, false, true, true, true, true, true, false, false, false, true, false, false, false, false, false, false, false, false, false, false, false, false, false, false, false, false, false, false, false, false, false, false, false, false, false, false, false, false, false, false, false, false, false, false, false, false, false, false, false, false, false, false, false, false, false, false, false, false, false, false, false, false, false, false, false, false, false, false, false, false, false, false, false, false, false, false, false, false, false, false, false, false, false, false, false, false, false, false, false, false, false, false, false, false, false, false, false, false, false, false, false, false, false, false, false, false, false, false, false, false, false, false, false, false, false, false, false, false, false, false, false, false, false, false, false, false, false, false, false, false], 0, [false, true, false, false, true, true, true, true, true, false, false, false, false, false, false, false, false, false, false, false, false, false, false, false, false, false, false, false, false, false, false, false, false, false, false, false, false, false, false, false, false, false, false, false, false, false, false, false, false, false, false, false, false, false, false, false, false, false, false, false, false, false, false, false, false, false, false, false, false, false, false, false, false, false, false, false, false, false, false, false, false, false, false, false, false, false, false, false, false, false, false, false, false, false, false, false, false, false, false, false, false, false, false, false, false, false, false, false, false, false, false, false, false, false, false, false, false, false, false, false, false, false, false, false, false, false, false, false, false, false, false, false, false], 0, n + 1⟩
def st49_2x (n : Nat) (f : Nat → E6) (x y : Int) (i : Nat) (j : Nat → V) : St := ⟨[j 0, .sl 6 n (fun i => (eV (f i))), j 2, j 3, iV 0, iV 0, iV (Int.ofNat n), iV x, iV y, j 9, j 10, j 11, iV (Int.ofNat i), j 13, j 14, j 15, j 16, j 17, j 18, j 19, j 20, j 21, j 22, j 23, j 24, j 25, j 26, j 27, j 28, j 29, j 30, j 31, j 32, j 33, j 34, j 35, j 36, j 37, j 38, j 39, j 40, j 41, j 42, j 43, j 44, j 45, j 46, j 47, j 48, j 49, j 50, j 51, j 52, j 53, j 54, j 55, j 56, j 57, j 58, j 59, j 60, j 61, j 62, j 63, j 64, j 65, j 66, j 67, j 68, j 69, j 70, j 71, j 72, j 73, j 74, j 75, j 76, j 77, j 78, j 79, j 80, j 81, j 82, j 83, j 84, j 85, j 86, j 87, j 88, j 89, j 90, j 91, j 92, j 93, j 94, j 95, j 96, j 97, j 98, j 99, j 100, j 101, j 102, j 103, j 104, j 105, j 106, j 107, j 108, j 109, j 110, j 111, j 112, j 113, j 114, j 115, j 116, j 117, j 118, j 119, j 120, j 121, j 122, j 123, j 124, j 125, j 126, j 127, j 128, j 129, j 130, j 131, j 132], []⟩
def en49_2xe (n : Nat) (f : Nat → E6) (x y : Int) (i : Nat) : Ex × St := (.ex 2, ⟨[U, .sl 6 n (fun i => (eV (f i))), U, U, iV 0, iV 0, iV (Int.ofNat n), iV x, iV y, U, U, U, U, U, U, U, U, U, U, U, U, U, U, U, U, U, U, U, U, U, U, U, U, U, U, U, U, U, U, U, U, U, U, U, U, U, U, U, U, U, U, U, U, U, U, U, U, U, U, U, U, U, U, U, U, U, U, U, U, U, U, U, U, U, U, U, U, U, U, U, U, U, U, U, U, U, U, U, U, U, U, U, U, U, U, U, U, U, U, U, U, U, U, U, U, U, U, U, U, U, U, U, U, U, U, U, U, U, U, U, U, U, U, U, U, U, U, U, U, U, U, U, .und], []⟩)
def en49_2xm (n : Nat) (f : Nat → E6) (x y : Int) (i : Nat) : Ex × St := (.rt, ⟨[U, .sl 6 n (fun i => (eV (f i))), U, U, iV 41, iV (Int.ofNat i), iV (Int.ofNat n), iV x, iV y, U, U, U, U, U, U, U, U, U, U, U, U, U, U, U, U, U, U, U, U, U, U, U, U, U, U, U, U, U, U, U, U, U, U, U, U, U, U, U, U, U, U, U, U, U, U, U, U, U, U, U, U, U, U, U, U, U, U, U, U, U, U, U, U, U, U, U, U, U, U, U, U, U, U, U, U, U, U, U, U, U, U, U, U, U, U, U, U, U, U, U, U, U, U, U, U, U, U, U, U, U, U, U, U, U, U, U, U, U, U, U, U, U, U, U, U, U, U, U, U, U, U, U, .und], []⟩)
noncomputable def body49_2x (L : Nat → (St → T (Ex × St)) → St → T (Ex × St)) : St → T (Ex × St) := fun st => evalC tab ⟨callT tb49, L, Gl⟩ (loopBody Tryz.f17 2) 2 st
theorem rb49xe (L : Nat → (St → T (Ex × St)) → St → T (Ex × St)) (n : Nat) (f : Nat → E6) (x y : Int) (i : Nat)  (j : Nat → V) (h0 : ilt (Int.ofNat i) (Int.ofNat n) = false) : ((body49_2x L (st49_2x n f x y i j)).bind fun r => T.leaf (cutR (lp49_2x n f) r)).sem = some ((.ex 2), ⟨[U, (.sl 6 n (fun i => (eV (f i)))), U, U, (iV 0), (iV 0), (iV (Int.ofNat n)), (iV x), (iV y), U, U, U, U, U, U, U, U, U, U, U, U, U, U, U, U, U, U, U, U, U, U, U, U, U, U, U, U, U, U, U, U, U, U, U, U, U, U, U, U, U, U, U, U, U, U, U, U, U, U, U, U, U, U, U, U, U, U, U, U, U, U, U, U, U, U, U, U, U, U, U, U, U, U, U, U, U, U, U, U, U, U, U, U, U, U, U, U, U, U, U, U, U, U, U, U, U, U, U, U, U, U, U, U, U, U, U, U, U, U, U, U, U, U, U, U, U, U, U, U, U, U, U, .und], []⟩) := by
  exact sem_of_path (ds := [false]) (cs := [(ilt (Int.ofNat i) (Int.ofNat n))]) (by kernel_rfl) (by simp only [h0] <;> rfl)
theorem rb49xm (L : Nat → (St → T (Ex × St)) → St → T (Ex × St)) (n : Nat) (f : Nat → E6) (x y : Int) (i : Nat)  (j : Nat → V) (h0 : ilt (Int.ofNat i) (Int.ofNat n) = true) (h1 : band (ile 0 (Int.ofNat i)) (ilt (Int.ofNat i) (Int.ofNat n)) = true) (h2 : ieq (Int.ofNat n) 0 = false) (h3 : band (ile 0 (itmod (wr IntKind.i64 (iadd (Int.ofNat i) 1)) (Int.ofNat n))) (ilt (itmod (wr IntKind.i64 (iadd (Int.ofNat i) 1)) (Int.ofNat n)) (Int.ofNat n)) = true) (h4 : ieq ((f i)).dst ((f (toN (itmod (wr IntKind.i64 (iadd (Int.ofNat i) 1)) (Int.ofNat n))))).src = false) : ((body49_2x L (st49_2x n f x y i j)).bind fun r => T.leaf (cutR (lp49_2x n f) r)).sem = some (.rt, ⟨[U, (.sl 6 n (fun i => (eV (f i)))), U, U, (iV 41), (iV (Int.ofNat i)), (iV (Int.ofNat n)), (iV x), (iV y), U, U, U, U, U, U, U, U, U, U, U, U, U, U, U, U, U, U, U, U, U, U, U, U, U, U, U, U, U, U, U, U, U, U, U, U, U, U, U, U, U, U, U, U, U, U, U, U, U, U, U, U, U, U, U, U, U, U, U, U, U, U, U, U, U, U, U, U, U, U, U, U, U, U, U, U, U, U, U, U, U, U, U, U, U, U, U, U, U, U, U, U, U, U, U, U, U, U, U, U, U, U, U, U, U, U, U, U, U, U, U, U, U, U, U, U, U, U, U, U, U, U, U, .und], []⟩) := by
  exact sem_of_path (ds := [true, true, false, true, true]) (cs := [(ilt (Int.ofNat i) (Int.ofNat n)), (band (ile 0 (Int.ofNat i)) (ilt (Int.ofNat i) (Int.ofNat n))), (ieq (Int.ofNat n) 0), (band (ile 0 (itmod (wr IntKind.i64 (iadd (Int.ofNat i) 1)) (Int.ofNat n))) (ilt (itmod (wr IntKind.i64 (iadd (Int.ofNat i) 1)) (Int.ofNat n)) (Int.ofNat n))), (bnot (ieq ((f i)).dst ((f (toN (itmod (wr IntKind.i64 (iadd (Int.ofNat i) 1)) (Int.ofNat n))))).src))]) (by kernel_rfl) (by simp only [h1, h3] <;> simp only [h0, h2, h4] <;> rfl)
theorem rb49xn (L : Nat → (St → T (Ex × St)) → St → T (Ex × St)) (n : Nat) (f : Nat → E6) (x y : Int) (i : Nat)  (j : Nat → V) (h0 : ilt (Int.ofNat i) (Int.ofNat n) = true) (h1 : band (ile 0 (Int.ofNat i)) (ilt (Int.ofNat i) (Int.ofNat n)) = true) (h2 : ieq (Int.ofNat n) 0 = false) (h3 : band (ile 0 (itmod (wr IntKind.i64 (iadd (Int.ofNat i) 1)) (Int.ofNat n))) (ilt (itmod (wr IntKind.i64 (iadd (Int.ofNat i) 1)) (Int.ofNat n)) (Int.ofNat n)) = true) (h4 : ieq ((f i)).dst ((f (toN (itmod (wr IntKind.i64 (iadd (Int.ofNat i) 1)) (Int.ofNat n))))).src = true) : ((body49_2x L (st49_2x n f x y i j)).bind fun r => T.leaf (cutR (lp49_2x n f) r)).sem = some (.nm, ⟨[U, (.sl 6 n (fun i => (eV (f i)))), U, U, (iV 0), (iV 0), (iV (Int.ofNat n)), (iV x), (iV y), U, U, U, (iV (wr IntKind.i64 (iadd (Int.ofNat i) 1))), U, U, U, U, U, U, U, U, U, U, U, U, U, U, U, U, U, U, U, U, U, U, U, U, U, U, U, U, U, U, U, U, U, U, U, U, U, U, U, U, U, U, U, U, U, U, U, U, U, U, U, U, U, U, U, U, U, U, U, U, U, U, U, U, U, U, U, U, U, U, U, U, U, U, U, U, U, U, U, U, U, U, U, U, U, U, U, U, U, U, U, U, U, U, U, U, U, U, U, U, U, U, U, U, U, U, U, U, U, U, U, U, U, U, U, U, U, U, U, .und], []⟩) := by
  exact sem_of_path (ds := [true, true, false, true, false]) (cs := [(ilt (Int.ofNat i) (Int.ofNat n)), (band (ile 0 (Int.ofNat i)) (ilt (Int.ofNat i) (Int.ofNat n))), (ieq (Int.ofNat n) 0), (band (ile 0 (itmod (wr IntKind.i64 (iadd (Int.ofNat i) 1)) (Int.ofNat n))) (ilt (itmod (wr IntKind.i64 (iadd (Int.ofNat i) 1)) (Int.ofNat n)) (Int.ofNat n))), (bnot (ieq ((f i)).dst ((f (toN (itmod (wr IntKind.i64 (iadd (Int.ofNat i) 1)) (Int.ofNat n))))).src))]) (by kernel_rfl) (by simp only [h1, h3] <;> simp only [h0, h2, h4] <;> rfl)
def jk49_2x (n : Nat) (f : Nat → E6) (x y : Int) (i : Nat) : Nat → V
  | 0 => .und
  | 2 => .und
  | 3 => .und
  | 9 => .und
  | 10 => .und
  | 11 => .und
  | 13 => .und
  | 14 => .und
  | 15 => .und
  | 16 => .und
  | 17 => .und
  | 18 => .und
  | 19 => .und
  | 20 => .und
  | 21 => .und
  | 22 => .und
  | 23 => .und
  | 24 => .und
  | 25 => .und
  | 26 => .und
  | 27 => .und
  | 28 => .und
  | 29 => .und
  | 30 => .und
  | 31 => .und
  | 32 => .und
  | 33 => .und
  | 34 => .und
  | 35 => .und
  | 36 => .und
  | 37 => .und
  | 38 => .und
  | 39 => .und
  | 40 => .und
  | 41 => .und
  | 42 => .und
  | 43 => .und
  | 44 => .und
  | 45 => .und
  | 46 => .und
  | 47 => .und
  | 48 => .und
  | 49 => .und
  | 50 => .und
  | 51 => .und
  | 52 => .und
  | 53 => .und
  | 54 => .und
  | 55 => .und
  | 56 => .und
  | 57 => .und
  | 58 => .und
  | 59 => .und
  | 60 => .und
  | 61 => .und
  | 62 => .und
  | 63 => .und
  | 64 => .und
  | 65 => .und
  | 66 => .und
  | 67 => .und
  | 68 => .und
  | 69 => .und
  | 70 => .und
  | 71 => .und
  | 72 => .und
  | 73 => .und
  | 74 => .und
  | 75 => .und
  | 76 => .und
  | 77 => .und
  | 78 => .und
  | 79 => .und
  | 80 => .und
  | 81 => .und
  | 82 => .und
  | 83 => .und
  | 84 => .und
  | 85 => .und
  | 86 => .und
  | 87 => .und
  | 88 => .und
  | 89 => .und
  | 90 => .und
  | 91 => .und
  | 92 => .und
  | 93 => .und
  | 94 => .und
  | 95 => .und
  | 96 => .und
  | 97 => .und
  | 98 => .und
  | 99 => .und
  | 100 => .und
  | 101 => .und
  | 102 => .und
  | 103 => .und
  | 104 => .und
  | 105 => .und
  | 106 => .und
  | 107 => .und
  | 108 => .und
  | 109 => .und
  | 110 => .und
  | 111 => .und
  | 112 => .und
  | 113 => .und
  | 114 => .und
  | 115 => .und
  | 116 => .und
  | 117 => .und
  | 118 => .und
  | 119 => .und
  | 120 => .und
  | 121 => .und
  | 122 => .und
  | 123 => .und
  | 124 => .und
  | 125 => .und
  | 126 => .und
  | 127 => .und
  | 128 => .und
  | 129 => .und
  | 130 => .und
  | 131 => .und
  | 132 => .und
  | _ => undefV

def lp49_4x (n : Nat) (f : Nat → E6) : Lp := ⟨[false, true, false, false, true, true, true, false, false, false, false, false, false, true, true, true, false, false, false, false, false, false, false, false, false, false, false, false, false, false, false, false, false, false, false, false, false, false, false, false, false, false, false, false, false, false, false, false, false, false, false, false, false, false, false, false, false, false, false, false, false, false, false, false, false, false, false, false, false, false, false, false, false, false, false, false, false, false, false, false, false, false, false, false, false, false, false, false, false, false, false, false, false, false, false, false, false, false, false, false, false, false, false, false, false, false, false, false, false, false, false, false, false, false, false, false, false, false, false, false, false, false, false, false, false, false, false, false, false, false, false, false, false], 2, [false, true, false, false, true, true, true, false, false, false, false, false, false, true, false, false, false, false, false, false, false, false, false, false, false, false, false, false, false, false, false, false, false, false, false, false, false, false, false, false, false, false, false, false, false, false, false, false, false, false, false, false, false, false, false, false, false, false, false, false, false, false, false, false, false, false, false, false, false, false, false, false, false, false, false, false, false, false, false, false, false, false, false, false, false, false, false, false, false, false, false, false, false, false, false, false, false, false, false, false, false, false, false, false, false, false, false, false, false, false, false, false, false, false, false, false, false, false, false, false, false, false, false, false, false, false, false, false, false, false, false, false, false], 2, n + 1⟩
def st49_4x (n : Nat) (f : Nat → E6) (u v : Nat → Int) (i : Nat) (j : Nat → V) : St := ⟨[j 0, .sl 6 n (fun i => (eV (f i))), j 2, j 3, iV 0, iV 0, iV (Int.ofNat n), j 7, j 8, j 9, j 10, j 11, j 12, .ref 0, .ref 1, iV (Int.ofNat i), j 16, j 17, j 18, j 19, j 20, j 21, j 22, j 23, j 24, j 25, j 26, j 27, j 28, j 29, j 30, j 31, j 32, j 33, j 34, j 35, j 36, j 37, j 38, j 39, j 40, j 41, j 42, j 43, j 44, j 45, j 46, j 47, j 48, j 49, j 50, j 51, j 52, j 53, j 54, j 55, j 56, j 57, j 58, j 59, j 60, j 61, j 62, j 63, j 64, j 65, j 66, j 67, j 68, j 69, j 70, j 71, j 72, j 73, j 74, j 75, j 76, j 77, j 78, j 79, j 80, j 81, j 82, j 83, j 84, j 85, j 86, j 87, j 88, j 89, j 90, j 91, j 92, j 93, j 94, j 95, j 96, j 97, j 98, j 99, j 100, j 101, j 102, j 103, j 104, j 105, j 106, j 107, j 108, j 109, j 110, j 111, j 112, j 113, j 114, j 115, j 116, j 117, j 118, j 119, j 120, j 121, j 122, j 123, j 124, j 125, j 126, j 127, j 128, j 129, j 130, j 131, j 132], [.row 3 1 n (fun k => iV (u k)), .row 3 1 n (fun k => iV (v k))]⟩
def en49_4xe (n : Nat) (f : Nat → E6) (u v : Nat → Int) (i : Nat) : Ex × St := (.ex 4, ⟨[U, .sl 6 n (fun i => (eV (f i))), U, U, iV 0, iV 0, iV (Int.ofNat n), U, U, U, U, U, U, .ref 0, U, U, U, U, U, U, U, U, U, U, U, U, U, U, U, U, U, U, U, U, U, U, U, U, U, U, U, U, U, U, U, U, U, U, U, U, U, U, U, U, U, U, U, U, U, U, U, U, U, U, U, U, U, U, U, U, U, U, U, U, U, U, U, U, U, U, U, U, U, U, U, U, U, U, U, U, U, U, U, U, U, U, U, U, U, U, U, U, U, U, U, U, U, U, U, U, U, U, U, U, U, U, U, U, U, U, U, U, U, U, U, U, U, U, U, U, U, U, .und], [.row 3 1 n (fun k => iV (u k)), .row 3 1 n (fun k => iV (v k))]⟩)
def en49_4xw (n : Nat) (f : Nat → E6) (u v : Nat → Int) (i : Nat) : Ex × St := (.rt, ⟨[U, .sl 6 n (fun i => (eV (f i))), U, U, iV 44, iV (Int.ofNat i), iV (Int.ofNat n), U, U, U, U, U, U, .ref 0, U, U, U, U, U, U, U, U, U, U, U, U, U, U, U, U, U, U, U, U, U, U, U, U, U, U, U, U, U, U, U, U, U, U, U, U, U, U, U, U, U, U, U, U, U, U, U, U, U, U, U, U, U, U, U, U, U, U, U, U, U, U, U, U, U, U, U, U, U, U, U, U, U, U, U, U, U, U, U, U, U, U, U, U, U, U, U, U, U, U, U, U, U, U, U, U, U, U, U, U, U, U, U, U, U, U, U, U, U, U, U, U, U, U, U, U, U, U, .und], [.row 3 1 n (fun k => iV (u k)), .row 3 1 n (fun k => iV (v k))]⟩)
noncomputable def body49_4x (L : Nat → (St → T (Ex × St)) → St → T (Ex × St)) : St → T (Ex × St) := fun st => evalC tab ⟨callT tb49, L, Gl⟩ (loopBody Tryz.f17 4) 4 st
theorem rd49xe (L : Nat → (St → T (Ex × St)) → St → T (Ex × St)) (n : Nat) (f : Nat → E6) (u v : Nat → Int) (i : Nat)  (j : Nat → V) (h0 : ilt (Int.ofNat i) (Int.ofNat n) = false) : ((body49_4x L (st49_4x n f u v i j)).bind fun r => T.leaf (cutR (lp49_4x n f) r)).sem = some ((.ex 4), ⟨[U, (.sl 6 n (fun i => (eV (f i)))), U, U, (iV 0), (iV 0), (iV (Int.ofNat n)), U, U, U, U, U, U, (.ref 0), U, U, U, U, U, U, U, U, U, U, U, U, U, U, U, U, U, U, U, U, U, U, U, U, U, U, U, U, U, U, U, U, U, U, U, U, U, U, U, U, U, U, U, U, U, U, U, U, U, U, U, U, U, U, U, U, U, U, U, U, U, U, U, U, U, U, U, U, U, U, U, U, U, U, U, U, U, U, U, U, U, U, U, U, U, U, U, U, U, U, U, U, U, U, U, U, U, U, U, U, U, U, U, U, U, U, U, U, U, U, U, U, U, U, U, U, U, U, .und], [(.row 3 1 n (fun k => (iV (u k)))), (.row 3 1 n (fun k => (iV (v k))))]⟩) := by
  exact sem_of_path (ds := [false]) (cs := [(ilt (Int.ofNat i) (Int.ofNat n))]) (by kernel_rfl) (by simp only [h0] <;> rfl)
theorem rd49xa (L : Nat → (St → T (Ex × St)) → St → T (Ex × St)) (n : Nat) (f : Nat → E6) (u v : Nat → Int) (i : Nat)  (j : Nat → V) (h0 : ilt (Int.ofNat i) (Int.ofNat n) = true) (h1 : band (ile 0 (Int.ofNat i)) (ilt (Int.ofNat i) (Int.ofNat n)) = true) (h2 : ieq ((f i)).src 2 = false) : ((body49_4x L (st49_4x n f u v i j)).bind fun r => T.leaf (cutR (lp49_4x n f) r)).sem = some (.nm, ⟨[U, (.sl 6 n (fun i => (eV (f i)))), U, U, (iV 0), (iV 0), (iV (Int.ofNat n)), U, U, U, U, U, U, (.ref 0), (.ref 1), (iV (wr IntKind.i64 (iadd (Int.ofNat i) 1))), U, U, U, U, U, U, U, U, U, U, U, U, U, U, U, U, U, U, U, U, U, U, U, U, U, U, U, U, U, U, U, U, U, U, U, U, U, U, U, U, U, U, U, U, U, U, U, U, U, U, U, U, U, U, U, U, U, U, U, U, U, U, U, U, U, U, U, U, U, U, U, U, U, U, U, U, U, U, U, U, U, U, U, U, U, U, U, U, U, U, U, U, U, U, U, U, U, U, U, U, U, U, U, U, U, U, U, U, U, U, U, U, U, U, U, U, .und], [(.row 3 1 n (fun k => (iV (u k)))), (.row 3 1 n (fun k => (iV (v k))))]⟩) := by
  exact sem_of_path (ds := [true, true, false, false, false, false, false, false, false, false, false, false]) (cs := [(ilt (Int.ofNat i) (Int.ofNat n)), (band (ile 0 (Int.ofNat i)) (ilt (Int.ofNat i) (Int.ofNat n))), (ieq ((f i)).src 2), (ieq ((f i)).src 2), (ieq ((f i)).src 2), (ieq ((f i)).src 2), (ieq ((f i)).src 2), (ieq ((f i)).src 2), (ieq ((f i)).src 2), (ieq ((f i)).src 2), (ieq ((f i)).src 2), Bool.false]) (by kernel_rfl) (by simp only [h1] <;> simp only [h0, h2] <;> rfl)
theorem rd49xb (L : Nat → (St → T (Ex × St)) → St → T (Ex × St)) (n : Nat) (f : Nat → E6) (u v : Nat → Int) (i : Nat)  (j : Nat → V) (h0 : ilt (Int.ofNat i) (Int.ofNat n) = true) (h1 : band (ile 0 (Int.ofNat i)) (ilt (Int.ofNat i) (Int.ofNat n)) = true) (h2 : ieq ((f i)).src 2 = true) (h15 : nlt i n = true) (h3 : nbeq n n = true) (h4 : smallN n = true) (h5 : ilt 2 (cntK n v (fun i => (bor (bnot Bool.true) (isW (f i)))) (v i)) = false) : ((body49_4x L (st49_4x n f u v i j)).bind fun r => T.leaf (cutR (lp49_4x n f) r)).sem = some (.nm, ⟨[U, (.sl 6 n (fun i => (eV (f i)))), U, U, (iV 0), (iV 0), (iV (Int.ofNat n)), U, U, U, U, U, U, (.ref 0), (.ref 1), (iV (wr IntKind.i64 (iadd (Int.ofNat i) 1))), U, U, U, U, U, U, U, U, U, U, U, U, U, U, U, U, U, U, U, U, U, U, U, U, U, U, U, U, U, U, U, U, U, U, U, U, U, U, U, U, U, U, U, U, U, U, U, U, U, U, U, U, U, U, U, U, U, U, U, U, U, U, U, U, U, U, U, U, U, U, U, U, U, U, U, U, U, U, U, U, U, U, U, U, U, U, U, U, U, U, U, U, U, U, U, U, U, U, U, U, U, U, U, U, U, U, U, U, U, U, U, U, U, U, U, U, .und], [(.row 3 1 n (fun k => (iV (u k)))), (.row 3 1 n (fun k => (iV (v k))))]⟩) := by
  exact sem_of_path (ds := [true, true, true, true, true, true, true, true, true, true, true, true, true, true, true, true, true, false]) (cs := [(ilt (Int.ofNat i) (Int.ofNat n)), (band (ile 0 (Int.ofNat i)) (ilt (Int.ofNat i) (Int.ofNat n))), (ieq ((f i)).src 2), (ieq ((f i)).src 2), (ieq ((f i)).src 2), (ieq ((f i)).src 2), (ieq ((f i)).src 2), (band (ile 0 (Int.ofNat i)) (ilt (Int.ofNat i) (Int.ofNat n))), (ieq ((f i)).src 2), (nlt i n), (ieq ((f i)).src 2), (allN n (fun _ => Bool.true)), (allN n (fun _ => Bool.true)), (nbeq n n), (smallN n), (ieq ((f i)).src 2), (ieq ((f i)).src 2), (ilt 2 (cntK n v (fun i => (bor (bnot Bool.true) (isW (f i)))) (v i)))]) (by kernel_rfl) (by simp only [h1] <;> simp only [h0, h2, h15, h3, h4, h5, allN_true] <;> rfl)
theorem rd49xc (L : Nat → (St → T (Ex × St)) → St → T (Ex × St)) (n : Nat) (f : Nat → E6) (u v : Nat → Int) (i : Nat)  (j : Nat → V) (h0 : ilt (Int.ofNat i) (Int.ofNat n) = true) (h1 : band (ile 0 (Int.ofNat i)) (ilt (Int.ofNat i) (Int.ofNat n)) = true) (h2 : ieq ((f i)).src 2 = true) (h15 : nlt i n = true) (h3 : nbeq n n = true) (h4 : smallN n = true) (h5 : ilt 2 (cntK n v (fun i => (bor (bnot Bool.true) (isW (f i)))) (v i)) = true) : ((body49_4x L (st49_4x n f u v i j)).bind fun r => T.leaf (cutR (lp49_4x n f) r)).sem = some (.rt, ⟨[U, (.sl 6 n (fun i => (eV (f i)))), U, U, (iV 44), (iV (Int.ofNat i)), (iV (Int.ofNat n)), U, U, U, U, U, U, (.ref 0), U, U, U, U, U, U, U, U, U, U, U, U, U, U, U, U, U, U, U, U, U, U, U, U, U, U, U, U, U, U, U, U, U, U, U, U, U, U, U, U, U, U, U, U, U, U, U, U, U, U, U, U, U, U, U, U, U, U, U, U, U, U, U, U, U, U, U, U, U, U, U, U, U, U, U, U, U, U, U, U, U, U, U, U, U, U, U, U, U, U, U, U, U, U, U, U, U, U, U, U, U, U, U, U, U, U, U, U, U, U, U, U, U, U, U, U, U, U, .und], [(.row 3 1 n (fun k => (iV (u k)))), (.row 3 1 n (fun k => (iV (v k))))]⟩) := by
  exact sem_of_path (ds := [true, true, true, true, true, true, true, true, true, true, true, true, true, true, true, true, true, true]) (cs := [(ilt (Int.ofNat i) (Int.ofNat n)), (band (ile 0 (Int.ofNat i)) (ilt (Int.ofNat i) (Int.ofNat n))), (ieq ((f i)).src 2), (ieq ((f i)).src 2), (ieq ((f i)).src 2), (ieq ((f i)).src 2), (ieq ((f i)).src 2), (band (ile 0 (Int.ofNat i)) (ilt (Int.ofNat i) (Int.ofNat n))), (ieq ((f i)).src 2), (nlt i n), (ieq ((f i)).src 2), (allN n (fun _ => Bool.true)), (allN n (fun _ => Bool.true)), (nbeq n n), (smallN n), (ieq ((f i)).src 2), (ieq ((f i)).src 2), (ilt 2 (cntK n v (fun i => (bor (bnot Bool.true) (isW (f i)))) (v i)))]) (by kernel_rfl) (by simp only [h1] <;> simp only [h0, h2, h15, h3, h4, h5, allN_true] <;> rfl)
def jk49_4x (n : Nat) (f : Nat → E6) (x y : Int) (i i2 : Nat) : Nat → V
  | 0 => .und
  | 2 => .und
  | 3 => .und
  | 7 => (iV x)
  | 8 => (iV y)
  | 9 => .und
  | 10 => .und
  | 11 => .und
  | 12 => .und
  | 16 => .und
  | 17 => .und
  | 18 => .und
  | 19 => .und
  | 20 => .und
  | 21 => .und
  | 22 => .und
  | 23 => .und
  | 24 => .und
  | 25 => .und
  | 26 => .und
  | 27 => .und
  | 28 => .und
  | 29 => .und
  | 30 => .und
  | 31 => .und
  | 32 => .und
  | 33 => .und
  | 34 => .und
  | 35 => .und
  | 36 => .und
  | 37 => .und
  | 38 => .und
  | 39 => .und
  | 40 => .und
  | 41 => .und
  | 42 => .und
  | 43 => .und
  | 44 => .und
  | 45 => .und
  | 46 => .und
  | 47 => .und
  | 48 => .und
  | 49 => .und
  | 50 => .und
  | 51 => .und
  | 52 => .und
  | 53 => .und
  | 54 => .und
  | 55 => .und
  | 56 => .und
  | 57 => .und
  | 58 => .und
  | 59 => .und
  | 60 => .und
  | 61 => .und
  | 62 => .und
  | 63 => .und
  | 64 => .und
  | 65 => .und
  | 66 => .und
  | 67 => .und
  | 68 => .und
  | 69 => .und
  | 70 => .und
  | 71 => .und
  | 72 => .und
  | 73 => .und
  | 74 => .und
  | 75 => .und
  | 76 => .und
  | 77 => .und
  | 78 => .und
  | 79 => .und
  | 80 => .und
  | 81 => .und
  | 82 => .und
  | 83 => .und
  | 84 => .und
  | 85 => .und
  | 86 => .und
  | 87 => .und
  | 88 => .und
  | 89 => (iV x)
  | 90 => (bV (ilt x 2))
  | 91 => (iV y)
  | 92 => (bV (ilt y 2))
  | 93 => (.sl 6 n (fun i => (eV (f i))))
  | 94 => (.ref 0)
  | 95 => (.sl 6 n (fun i => (eV (f i))))
  | 96 => (.ref 1)
  | 97 => .und
  | 98 => .und
  | 99 => .und
  | 100 => .und
  | 101 => .und
  | 102 => .und
  | 103 => .und
  | 104 => .und
  | 105 => .und
  | 106 => .und
  | 107 => .und
  | 108 => .und
  | 109 => .und
  | 110 => .und
  | 111 => .und
  | 112 => .und
  | 113 => .und
  | 114 => .und
  | 115 => .und
  | 116 => .und
  | 117 => .und
  | 118 => .und
  | 119 => .und
  | 120 => .und
  | 121 => .und
  | 122 => .und
  | 123 => .und
  | 124 => .und
  | 125 => .und
  | 126 => .und
  | 127 => .und
  | 128 => .und
  | 129 => .und
  | 130 => .und
  | 131 => .und
  | 132 => .und
  | _ => undefV

def lp49_6x (n : Nat) (f : Nat → E6) : Lp := ⟨[false, true, false, false, true, true, true, false, false, false, false, false, false, true, false, false, true, false, false, false, false, false, false, false, false, false, false, false, false, false, false, false, false, false, false, false, false, false, false, false, false, false, false, false, false, false, false, false, false, false, false, false, false, false, false, false, false, false, false, false, false, false, false, false, false, false, false, false, false, false, false, false, false, false, false, false, false, false, false, false, false, false, false, false, false, false, false, false, false, false, false, false, false, false, false, false, false, false, false, false, false, false, false, false, false, false, false, false, false, false, false, false, false, false, false, false, false, false, false, false, false, false, false, false, false, false, false, false, false, false, false, false, false], 2, [false, false, false, false, true, true, false, false, false, false, false, false, false, false, false, false, false, false, false, false, false, false, false, false, false, false, false, false, false, false, false, false, false, false, false, false, false, false, false, false, false, false, false, false, false, false, false, false, false, false, false, false, false, false, false, false, false, false, false, false, false, false, false, false, false, false, false, false, false, false, false, false, false, false, false, false, false, false, false, false, false, false, false, false, false, false, false, false, false, false, false, false, false, false, false, false, false, false, false, false, false, false, false, false, false, false, false, false, false, false, false, false, false, false, false, false, false, false, false, false, false, false, false, false, false, false, false, false, false, false, false, false, false], 0, n + 1⟩
def st49_6x (n : Nat) (f : Nat → E6) (u v : Nat → Int) (i : Nat) (j : Nat → V) : St := ⟨[j 0, .sl 6 n (fun i => (eV (f i))), j 2, j 3, iV 0, iV 0, iV (Int.ofNat n), j 7, j 8, j 9, j 10, j 11, j 12, .ref 0, j 14, j 15, iV (Int.ofNat i), j 17, j 18, j 19, j 20, j 21, j 22, j 23, j 24, j 25, j 26, j 27, j 28, j 29, j 30, j 31, j 32, j 33, j 34, j 35, j 36, j 37, j 38, j 39, j 40, j 41, j 42, j 43, j 44, j 45, j 46, j 47, j 48, j 49, j 50, j 51, j 52, j 53, j 54, j 55, j 56, j 57, j 58, j 59, j 60, j 61, j 62, j 63, j 64, j 65, j 66, j 67, j 68, j 69, j 70, j 71, j 72, j 73, j 74, j 75, j 76, j 77, j 78, j 79, j 80, j 81, j 82, j 83, j 84, j 85, j 86, j 87, j 88, j 89, j 90, j 91, j 92, j 93, j 94, j 95, j 96, j 97, j 98, j 99, j 100, j 101, j 102, j 103, j 104, j 105, j 106, j 107, j 108, j 109, j 110, j 111, j 112, j 113, j 114, j 115, j 116, j 117, j 118, j 119, j 120, j 121, j 122, j 123, j 124, j 125, j 126, j 127, j 128, j 129, j 130, j 131, j 132], [.row 3 1 n (fun k => iV (u k)), .row 3 1 n (fun k => iV (v k))]⟩
def en49_6xe (n : Nat) (f : Nat → E6) (u v : Nat → Int) (i : Nat) : Ex × St := (.ex 6, ⟨[U, U, U, U, iV 0, iV 0, U, U, U, U, U, U, U, U, U, U, U, U, U, U, U, U, U, U, U, U, U, U, U, U, U, U, U, U, U, U, U, U, U, U, U, U, U, U, U, U, U, U, U, U, U, U, U, U, U, U, U, U, U, U, U, U, U, U, U, U, U, U, U, U, U, U, U, U, U, U, U, U, U, U, U, U, U, U, U, U, U, U, U, U, U, U, U, U, U, U, U, U, U, U, U, U, U, U, U, U, U, U, U, U, U, U, U, U, U, U, U, U, U, U, U, U, U, U, U, U, U, U, U, U, U, U, .und], []⟩)
def en49_6xc (n : Nat) (f : Nat → E6) (u v : Nat → Int) (i : Nat) : Ex × St := (.rt, ⟨[U, U, U, U, iV 45, iV (Int.ofNat i), U, U, U, U, U, U, U, U, U, U, U, U, U, U, U, U, U, U, U, U, U, U, U, U, U, U, U, U, U, U, U, U, U, U, U, U, U, U, U, U, U, U, U, U, U, U, U, U, U, U, U, U, U, U, U, U, U, U, U, U, U, U, U, U, U, U, U, U, U, U, U, U, U, U, U, U, U, U, U, U, U, U, U, U, U, U, U, U, U, U, U, U, U, U, U, U, U, U, U, U, U, U, U, U, U, U, U, U, U, U, U, U, U, U, U, U, U, U, U, U, U, U, U, U, U, U, .und], []⟩)
noncomputable def body49_6x (L : Nat → (St → T (Ex × St)) → St → T (Ex × St)) : St → T (Ex × St) := fun st => evalC tab ⟨callT tb49, L, Gl⟩ (loopBody Tryz.f17 6) 6 st
theorem re49xe (L : Nat → (St → T (Ex × St)) → St → T (Ex × St)) (n : Nat) (f : Nat → E6) (u v : Nat → Int) (i : Nat)  (j : Nat → V) (h0 : ilt (Int.ofNat i) (Int.ofNat n) = false) : ((body49_6x L (st49_6x n f u v i j)).bind fun r => T.leaf (cutR (lp49_6x n f) r)).sem = some ((.ex 6), ⟨[U, U, U, U, (iV 0), (iV 0), U, U, U, U, U, U, U, U, U, U, U, U, U, U, U, U, U, U, U, U, U, U, U, U, U, U, U, U, U, U, U, U, U, U, U, U, U, U, U, U, U, U, U, U, U, U, U, U, U, U, U, U, U, U, U, U, U, U, U, U, U, U, U, U, U, U, U, U, U, U, U, U, U, U, U, U, U, U, U, U, U, U, U, U, U, U, U, U, U, U, U, U, U, U, U, U, U, U, U, U, U, U, U, U, U, U, U, U, U, U, U, U, U, U, U, U, U, U, U, U, U, U, U, U, U, U, .und], []⟩) := by
  exact sem_of_path (ds := [false]) (cs := [(ilt (Int.ofNat i) (Int.ofNat n))]) (by kernel_rfl) (by simp only [h0] <;> rfl)
theorem re49xb (L : Nat → (St → T (Ex × St)) → St → T (Ex × St)) (n : Nat) (f : Nat → E6) (u v : Nat → Int) (i : Nat)  (j : Nat → V) (h0 : ilt (Int.ofNat i) (Int.ofNat n) = true) (h1 : band (ile 0 (Int.ofNat i)) (ilt (Int.ofNat i) (Int.ofNat n)) = true) (h14 : nlt i n = true) (h2 : nbeq n n = true) (h3 : smallN n = true) (h4 : ilt 12 (cntK n u (fun i => (bor (bnot Bool.false) (isW (f i)))) (u i)) = false) : ((body49_6x L (st49_6x n f u v i j)).bind fun r => T.leaf (cutR (lp49_6x n f) r)).sem = some (.nm, ⟨[U, (.sl 6 n (fun i => (eV (f i)))), U, U, (iV 0), (iV 0), (iV (Int.ofNat n)), U, U, U, U, U, U, (.ref 0), U, U, (iV (wr IntKind.i64 (iadd (Int.ofNat i) 1))), U, U, U, U, U, U, U, U, U, U, U, U, U, U, U, U, U, U, U, U, U, U, U, U, U, U, U, U, U, U, U, U, U, U, U, U, U, U, U, U, U, U, U, U, U, U, U, U, U, U, U, U, U, U, U, U, U, U, U, U, U, U, U, U, U, U, U, U, U, U, U, U, U, U, U, U, U, U, U, U, U, U, U, U, U, U, U, U, U, U, U, U, U, U, U, U, U, U, U, U, U, U, U, U, U, U, U, U, U, U, U, U, U, U, U, .und], [(.row 3 1 n (fun k => (iV (u k)))), (.row 3 1 n (fun k => (iV (v k))))]⟩) := by
  exact sem_of_path (ds := [true, true, true, true, true, true, true, false]) (cs := [(ilt (Int.ofNat i) (Int.ofNat n)), (band (ile 0 (Int.ofNat i)) (ilt (Int.ofNat i) (Int.ofNat n))), (nlt i n), (allN n (fun _ => Bool.true)), (allN n (fun _ => Bool.true)), (nbeq n n), (smallN n), (ilt 12 (cntK n u (fun i => (bor (bnot Bool.false) (isW (f i)))) (u i)))]) (by kernel_rfl) (by simp only [h1] <;> simp only [h0, h14, h2, h3, h4, allN_true] <;> rfl)
theorem re49xc (L : Nat → (St → T (Ex × St)) → St → T (Ex × St)) (n : Nat) (f : Nat → E6) (u v : Nat → Int) (i : Nat)  (j : Nat → V) (h0 : ilt (Int.ofNat i) (Int.ofNat n) = true) (h1 : band (ile 0 (Int.ofNat i)) (ilt (Int.ofNat i) (Int.ofNat n)) = true) (h14 : nlt i n = true) (h2 : nbeq n n = true) (h3 : smallN n = true) (h4 : ilt 12 (cntK n u (fun i => (bor (bnot Bool.false) (isW (f i)))) (u i)) = true) : ((body49_6x L (st49_6x n f u v i j)).bind fun r => T.leaf (cutR (lp49_6x n f) r)).sem = some (.rt, ⟨[U, U, U, U, (iV 45), (iV (Int.ofNat i)), U, U, U, U, U, U, U, U, U, U, U, U, U, U, U, U, U, U, U, U, U, U, U, U, U, U, U, U, U, U, U, U, U, U, U, U, U, U, U, U, U, U, U, U, U, U, U, U, U, U, U, U, U, U, U, U, U, U, U, U, U, U, U, U, U, U, U, U, U, U, U, U, U, U, U, U, U, U, U, U, U, U, U, U, U, U, U, U, U, U, U, U, U, U, U, U, U, U, U, U, U, U, U, U, U, U, U, U, U, U, U, U, U, U, U, U, U, U, U, U, U, U, U, U, U, U, .und], []⟩) := by
  exact sem_of_path (ds := [true, true, true, true, true, true, true, true]) (cs := [(ilt (Int.ofNat i) (Int.ofNat n)), (band (ile 0 (Int.ofNat i)) (ilt (Int.ofNat i) (Int.ofNat n))), (nlt i n), (allN n (fun _ => Bool.true)), (allN n (fun _ => Bool.true)), (nbeq n n), (smallN n), (ilt 12 (cntK n u (fun i => (bor (bnot Bool.false) (isW (f i)))) (u i)))]) (by kernel_rfl) (by simp only [h1] <;> simp only [h0, h14, h2, h3, h4, allN_true] <;> rfl)
def jk49_6x (n : Nat) (f : Nat → E6) (x y : Int) (i i2 : Nat) (u v : Nat → Int) (i4 : Nat) : Nat → V
  | 0 => .und
  | 2 => .und
  | 3 => .und
  | 7 => .und
  | 8 => .und
  | 9 => .und
  | 10 => .und
  | 11 => .und
  | 12 => .und
  | 14 => .und
  | 15 => .und
  | 17 => .und
  | 18 => .und
  | 19 => .und
  | 20 => .und
  | 21 => .und
  | 22 => .und
  | 23 => .und
  | 24 => .und
  | 25 => .und
  | 26 => .und
  | 27 => .und
  | 28 => .und
  | 29 => .und
  | 30 => .und
  | 31 => .und
  | 32 => .und
  | 33 => .und
  | 34 => .und
  | 35 => .und
  | 36 => .und
  | 37 => .und
  | 38 => .und
  | 39 => .und
  | 40 => .und
  | 41 => .und
  | 42 => .und
  | 43 => .und
  | 44 => .und
  | 45 => .und
  | 46 => .und
  | 47 => .und
  | 48 => .und
  | 49 => .und
  | 50 => .und
  | 51 => .und
  | 52 => .und
  | 53 => .und
  | 54 => .und
  | 55 => .und
  | 56 => .und
  | 57 => .und
  | 58 => .und
  | 59 => .und
  | 60 => .und
  | 61 => .und
  | 62 => .und
  | 63 => .und
  | 64 => .und
  | 65 => .und
  | 66 => .und
  | 67 => .und
  | 68 => .und
  | 69 => .und
  | 70 => .und
  | 71 => .und
  | 72 => .und
  | 73 => .und
  | 74 => .und
  | 75 => .und
  | 76 => .und
  | 77 => .und
  | 78 => .und
  | 79 => .und
  | 80 => .und
  | 81 => .und
  | 82 => .und
  | 83 => .und
  | 84 => .und
  | 85 => .und
  | 86 => .und
  | 87 => .und
  | 88 => .und
  | 89 => .und
  | 90 => .und
  | 91 => .und
  | 92 => .und
  | 93 => .und
  | 94 => .und
  | 95 => .und
  | 96 => .und
  | 97 => .und
  | 98 => .und
  | 99 => .und
  | 100 => .und
  | 101 => .und
  | 102 => .und
  | 103 => .und
  | 104 => .und
  | 105 => .und
  | 106 => .und
  | 107 => .und
  | 108 => .und
  | 109 => .und
  | 110 => .und
  | 111 => .und
  | 112 => .und
  | 113 => .und
  | 114 => .und
  | 115 => .und
  | 116 => .und
  | 117 => .und
  | 118 => .und
  | 119 => .und
  | 120 => .und
  | 121 => .und
  | 122 => .und
  | 123 => .und
  | 124 => .und
  | 125 => .und
  | 126 => .und
  | 127 => .und
  | 128 => .und
  | 129 => .und
  | 130 => .und
  | 131 => .und
  | 132 => .und
  | _ => undefV

theorem wc49xf (L : Nat → (St → T (Ex × St)) → St → T (Ex × St)) (p0 : (St → T (Ex × St)) → St → Bool) (n : Nat) (f : Nat → E6) (x y : Int) (i : Nat) (h0 : ilt (Int.ofNat n) 2 = false) (h1 : ilt 16 (Int.ofNat n) = false) (hp0 : p0 (body49x (onP 0 p0 (en49xf n f x y i) L)) (st49x n f 0 0 0 (jk49x n f )) = true) : (finF (evalF tab ⟨callT tb49, (onP 0 p0 (en49xf n f x y i) L), Gl⟩ Tryz.f17 [iV 1, edgesV n f] [])).sem = some ((.tup [(iV 30), (iV (Int.ofNat i))]), []) := by
  exact sem_of_path (ds := [false, false, false, false, false, false, false, false, true]) (cs := [(bnot (ieq 1 1)), (bnot (ieq 1 1)), (bnot (ieq 1 1)), Bool.false, (ilt (Int.ofNat n) 2), (ilt (Int.ofNat n) 2), (ilt (Int.ofNat n) 2), (ilt 16 (Int.ofNat n)), (p0 (body49x (onP 0 p0 (en49xf n f x y i) L)) (st49x n f 0 0 0 (jk49x n f )))]) (by kernel_rfl) (by simp only [hp0] <;> simp only [h0, h1] <;> rfl)

theorem wc49xl (L : Nat → (St → T (Ex × St)) → St → T (Ex × St)) (p0 : (St → T (Ex × St)) → St → Bool) (n : Nat) (f : Nat → E6) (x y : Int) (i : Nat) (h0 : ilt (Int.ofNat n) 2 = false) (h1 : ilt 16 (Int.ofNat n) = false) (hp0 : p0 (body49x (onP 0 p0 (en49xl n f x y i) L)) (st49x n f 0 0 0 (jk49x n f )) = true) : (finF (evalF tab ⟨callT tb49, (onP 0 p0 (en49xl n f x y i) L), Gl⟩ Tryz.f17 [iV 1, edgesV n f] [])).sem = some ((.tup [(iV 5), (iV (Int.ofNat i))]), []) := by
  exact sem_of_path (ds := [false, false, false, false, false, false, false, false, true]) (cs := [(bnot (ieq 1 1)), (bnot (ieq 1 1)), (bnot (ieq 1 1)), Bool.false, (ilt (Int.ofNat n) 2), (ilt (Int.ofNat n) 2), (ilt (Int.ofNat n) 2), (ilt 16 (Int.ofNat n)), (p0 (body49x (onP 0 p0 (en49xl n f x y i) L)) (st49x n f 0 0 0 (jk49x n f )))]) (by kernel_rfl) (by simp only [hp0] <;> simp only [h0, h1] <;> rfl)

theorem wc49xm (L : Nat → (St → T (Ex × St)) → St → T (Ex × St)) (p0 : (St → T (Ex × St)) → St → Bool) (p2 : (St → T (Ex × St)) → St → Bool) (n : Nat) (f : Nat → E6) (x y : Int) (i : Nat) (i2 : Nat) (h0 : ilt (Int.ofNat n) 2 = false) (h1 : ilt 16 (Int.ofNat n) = false) (hp0 : p0 (body49x (onP 0 p0 (en49xe n f x y i) (onP 2 p2 (en49_2xm n f x y i2) L))) (st49x n f 0 0 0 (jk49x n f )) = true) (hp2 : p2 (body49_2x (onP 0 p0 (en49xe n f x y i) (onP 2 p2 (en49_2xm n f x y i2) L))) (st49_2x n f x y 0 (jk49_2x n f x y i)) = true) : (finF (evalF tab ⟨callT tb49, (onP 0 p0 (en49xe n f x y i) (onP 2 p2 (en49_2xm n f x y i2) L)), Gl⟩ Tryz.f17 [iV 1, edgesV n f] [])).sem = some ((.tup [(iV 41), (iV (Int.ofNat i2))]), []) := by
  exact sem_of_path (ds := [false, false, false, false, false, false, false, false, true, true]) (cs := [(bnot (ieq 1 1)), (bnot (ieq 1 1)), (bnot (ieq 1 1)), Bool.false, (ilt (Int.ofNat n) 2), (ilt (Int.ofNat n) 2), (ilt (Int.ofNat n) 2), (ilt 16 (Int.ofNat n)), (p0 (body49x (onP 0 p0 (en49xe n f x y i) (onP 2 p2 (en49_2xm n f x y i2) L))) (st49x n f 0 0 0 (jk49x n f ))), (p2 (body49_2x (onP 0 p0 (en49xe n f x y i) (onP 2 p2 (en49_2xm n f x y i2) L))) (st49_2x n f x y 0 (jk49_2x n f x y i)))]) (by kernel_rfl) (by simp only [hp0, hp2] <;> simp only [h0, h1] <;> rfl)

theorem wc49xo (L : Nat → (St → T (Ex × St)) → St → T (Ex × St)) (p0 : (St → T (Ex × St)) → St → Bool) (p2 : (St → T (Ex × St)) → St → Bool) (n : Nat) (f : Nat → E6) (x y : Int) (i : Nat) (i2 : Nat) (h0 : ilt (Int.ofNat n) 2 = false) (h1 : ilt 16 (Int.ofNat n) = false) (h2 : ilt x 2 = true) (hp0 : p0 (body49x (onP 0 p0 (en49xe n f x y i) (onP 2 p2 (en49_2xe n f x y i2) L))) (st49x n f 0 0 0 (jk49x n f )) = true) (hp2 : p2 (body49_2x (onP 0 p0 (en49xe n f x y i) (onP 2 p2 (en49_2xe n f x y i2) L))) (st49_2x n f x y 0 (jk49_2x n f x y i)) = true) : (finF (evalF tab ⟨callT tb49, (onP 0 p0 (en49xe n f x y i) (onP 2 p2 (en49_2xe n f x y i2) L)), Gl⟩ Tryz.f17 [iV 1, edgesV n f] [])).sem = some ((.tup [(iV 42), (iV 0)]), []) := by
  exact sem_of_path (ds := [false, false, false, false, false, false, false, false, true, true, true]) (cs := [(bnot (ieq 1 1)), (bnot (ieq 1 1)), (bnot (ieq 1 1)), Bool.false, (ilt (Int.ofNat n) 2), (ilt (Int.ofNat n) 2), (ilt (Int.ofNat n) 2), (ilt 16 (Int.ofNat n)), (p0 (body49x (onP 0 p0 (en49xe n f x y i) (onP 2 p2 (en49_2xe n f x y i2) L))) (st49x n f 0 0 0 (jk49x n f ))), (p2 (body49_2x (onP 0 p0 (en49xe n f x y i) (onP 2 p2 (en49_2xe n f x y i2) L))) (st49_2x n f x y 0 (jk49_2x n f x y i))), (ilt x 2)]) (by kernel_rfl) (by simp only [hp0, hp2] <;> simp only [h0, h1, h2] <;> rfl)

theorem wc49xv (L : Nat → (St → T (Ex × St)) → St → T (Ex × St)) (p0 : (St → T (Ex × St)) → St → Bool) (p2 : (St → T (Ex × St)) → St → Bool) (n : Nat) (f : Nat → E6) (x y : Int) (i : Nat) (i2 : Nat) (h0 : ilt (Int.ofNat n) 2 = false) (h1 : ilt 16 (Int.ofNat n) = false) (h2 : ilt x 2 = false) (h3 : ilt y 2 = true) (hp0 : p0 (body49x (onP 0 p0 (en49xe n f x y i) (onP 2 p2 (en49_2xe n f x y i2) L))) (st49x n f 0 0 0 (jk49x n f )) = true) (hp2 : p2 (body49_2x (onP 0 p0 (en49xe n f x y i) (onP 2 p2 (en49_2xe n f x y i2) L))) (st49_2x n f x y 0 (jk49_2x n f x y i)) = true) : (finF (evalF tab ⟨callT tb49, (onP 0 p0 (en49xe n f x y i) (onP 2 p2 (en49_2xe n f x y i2) L)), Gl⟩ Tryz.f17 [iV 1, edgesV n f] [])).sem = some ((.tup [(iV 43), (iV 0)]), []) := by
  exact sem_of_path (ds := [false, false, false, false, false, false, false, false, true, true, false, true]) (cs := [(bnot (ieq 1 1)), (bnot (ieq 1 1)), (bnot (ieq 1 1)), Bool.false, (ilt (Int.ofNat n) 2), (ilt (Int.ofNat n) 2), (ilt (Int.ofNat n) 2), (ilt 16 (Int.ofNat n)), (p0 (body49x (onP 0 p0 (en49xe n f x y i) (onP 2 p2 (en49_2xe n f x y i2) L))) (st49x n f 0 0 0 (jk49x n f ))), (p2 (body49_2x (onP 0 p0 (en49xe n f x y i) (onP 2 p2 (en49_2xe n f x y i2) L))) (st49_2x n f x y 0 (jk49_2x n f x y i))), (ilt x 2), (ilt y 2)]) (by kernel_rfl) (by simp only [hp0, hp2] <;> simp only [h0, h1, h2, h3] <;> rfl)

theorem wc49xw (L : Nat → (St → T (Ex × St)) → St → T (Ex × St)) (p0 : (St → T (Ex × St)) → St → Bool) (p2 : (St → T (Ex × St)) → St → Bool) (p4 : (St → T (Ex × St)) → St → Bool) (n : Nat) (f : Nat → E6) (x y : Int) (i : Nat) (i2 i4 : Nat) (h0 : ilt (Int.ofNat n) 2 = false) (h1 : ilt 16 (Int.ofNat n) = false) (h2 : ilt x 2 = false) (h3 : ilt y 2 = false) (h4 : fitN n = true) (hp0 : p0 (body49x (onP 0 p0 (en49xe n f x y i) (onP 2 p2 (en49_2xe n f x y i2) (onP 4 p4 (en49_4xw n f (fun k => partF (fun k => outB (f k)) n k) (fun k => partF (fun k => movB (f k)) n k) i4) L)))) (st49x n f 0 0 0 (jk49x n f )) = true) (hp2 : p2 (body49_2x (onP 0 p0 (en49xe n f x y i) (onP 2 p2 (en49_2xe n f x y i2) (onP 4 p4 (en49_4xw n f (fun k => partF (fun k => outB (f k)) n k) (fun k => partF (fun k => movB (f k)) n k) i4) L)))) (st49_2x n f x y 0 (jk49_2x n f x y i)) = true) (hp4 : p4 (body49_4x (onP 0 p0 (en49xe n f x y i) (onP 2 p2 (en49_2xe n f x y i2) (onP 4 p4 (en49_4xw n f (fun k => partF (fun k => outB (f k)) n k) (fun k => partF (fun k => movB (f k)) n k) i4) L)))) (st49_4x n f (fun k => partF (fun k => outB (f k)) n k) (fun k => partF (fun k => movB (f k)) n k) 0 (jk49_4x n f x y i i2)) = true) : (finF (evalF tab ⟨callT tb49, (onP 0 p0 (en49xe n f x y i) (onP 2 p2 (en49_2xe n f x y i2) (onP 4 p4 (en49_4xw n f (fun k => partF (fun k => outB (f k)) n k) (fun k => partF (fun k => movB (f k)) n k) i4) L))), Gl⟩ Tryz.f17 [iV 1, edgesV n f] [])).sem = some ((.tup [(iV 44), (iV (Int.ofNat i4))]), []) := by
  exact sem_of_path (ds := [false, false, false, false, false, false, false, false, true, true, false, false, true, true, true, true, true]) (cs := [(bnot (ieq 1 1)), (bnot (ieq 1 1)), (bnot (ieq 1 1)), Bool.false, (ilt (Int.ofNat n) 2), (ilt (Int.ofNat n) 2), (ilt (Int.ofNat n) 2), (ilt 16 (Int.ofNat n)), (p0 (body49x (onP 0 p0 (en49xe n f x y i) (onP 2 p2 (en49_2xe n f x y i2) (onP 4 p4 (en49_4xw n f (fun k => partF (fun k => outB (f k)) n k) (fun k => partF (fun k => movB (f k)) n k) i4) L)))) (st49x n f 0 0 0 (jk49x n f ))), (p2 (body49_2x (onP 0 p0 (en49xe n f x y i) (onP 2 p2 (en49_2xe n f x y i2) (onP 4 p4 (en49_4xw n f (fun k => partF (fun k => outB (f k)) n k) (fun k => partF (fun k => movB (f k)) n k) i4) L)))) (st49_2x n f x y 0 (jk49_2x n f x y i))), (ilt x 2), (ilt y 2), (allN n (fun _ => Bool.true)), (fitN n), (allN n (fun _ => Bool.true)), (fitN n), (p4 (body49_4x (onP 0 p0 (en49xe n f x y i) (onP 2 p2 (en49_2xe n f x y i2) (onP 4 p4 (en49_4xw n f (fun k => partF (fun k => outB (f k)) n k) (fun k => partF (fun k => movB (f k)) n k) i4) L)))) (st49_4x n f (fun k => partF (fun k => outB (f k)) n k) (fun k => partF (fun k => movB (f k)) n k) 0 (jk49_4x n f x y i i2)))]) (by kernel_rfl) (by simp only [hp0, hp2, hp4] <;> simp only [h0, h1, h2, h3, h4, allN_true] <;> rfl)

theorem wc49xc (L : Nat → (St → T (Ex × St)) → St → T (Ex × St)) (p0 : (St → T (Ex × St)) → St → Bool) (p2 : (St → T (Ex × St)) → St → Bool) (p4 : (St → T (Ex × St)) → St → Bool) (p6 : (St → T (Ex × St)) → St → Bool) (n : Nat) (f : Nat → E6) (x y : Int) (i : Nat) (i2 i4 i6 : Nat) (h0 : ilt (Int.ofNat n) 2 = false) (h1 : ilt 16 (Int.ofNat n) = false) (h2 : ilt x 2 = false) (h3 : ilt y 2 = false) (h4 : fitN n = true) (hp0 : p0 (body49x (onP 0 p0 (en49xe n f x y i) (onP 2 p2 (en49_2xe n f x y i2) (onP 4 p4 (en49_4xe n f (fun k => partF (fun k => outB (f k)) n k) (fun k => partF (fun k => movB (f k)) n k) i4) (onP 6 p6 (en49_6xc n f (fun k => partF (fun k => outB (f k)) n k) (fun k => partF (fun k => movB (f k)) n k) i6) L))))) (st49x n f 0 0 0 (jk49x n f )) = true) (hp2 : p2 (body49_2x (onP 0 p0 (en49xe n f x y i) (onP 2 p2 (en49_2xe n f x y i2) (onP 4 p4 (en49_4xe n f (fun k => partF (fun k => outB (f k)) n k) (fun k => partF (fun k => movB (f k)) n k) i4) (onP 6 p6 (en49_6xc n f (fun k => partF (fun k => outB (f k)) n k) (fun k => partF (fun k => movB (f k)) n k) i6) L))))) (st49_2x n f x y 0 (jk49_2x n f x y i)) = true) (hp4 : p4 (body49_4x (onP 0 p0 (en49xe n f x y i) (onP 2 p2 (en49_2xe n f x y i2) (onP 4 p4 (en49_4xe n f (fun k => partF (fun k => outB (f k)) n k) (fun k => partF (fun k => movB (f k)) n k) i4) (onP 6 p6 (en49_6xc n f (fun k => partF (fun k => outB (f k)) n k) (fun k => partF (fun k => movB (f k)) n k) i6) L))))) (st49_4x n f (fun k => partF (fun k => outB (f k)) n k) (fun k => partF (fun k => movB (f k)) n k) 0 (jk49_4x n f x y i i2)) = true) (hp6 : p6 (body49_6x (onP 0 p0 (en49xe n f x y i) (onP 2 p2 (en49_2xe n f x y i2) (onP 4 p4 (en49_4xe n f (fun k => partF (fun k => outB (f k)) n k) (fun k => partF (fun k => movB (f k)) n k) i4) (onP 6 p6 (en49_6xc n f (fun k => partF (fun k => outB (f k)) n k) (fun k => partF (fun k => movB (f k)) n k) i6) L))))) (st49_6x n f (fun k => partF (fun k => outB (f k)) n k) (fun k => partF (fun k => movB (f k)) n k) 0 (jk49_6x n f x y i i2 (fun k => partF (fun k => outB (f k)) n k) (fun k => partF (fun k => movB (f k)) n k) i4)) = true) : (finF (evalF tab ⟨callT tb49, (onP 0 p0 (en49xe n f x y i) (onP 2 p2 (en49_2xe n f x y i2) (onP 4 p4 (en49_4xe n f (fun k => partF (fun k => outB (f k)) n k) (fun k => partF (fun k => movB (f k)) n k) i4) (onP 6 p6 (en49_6xc n f (fun k => partF (fun k => outB (f k)) n k) (fun k => partF (fun k => movB (f k)) n k) i6) L)))), Gl⟩ Tryz.f17 [iV 1, edgesV n f] [])).sem = some ((.tup [(iV 45), (iV (Int.ofNat i6))]), []) := by
  exact sem_of_path (ds := [false, false, false, false, false, false, false, false, true, true, false, false, true, true, true, true, true, true]) (cs := [(bnot (ieq 1 1)), (bnot (ieq 1 1)), (bnot (ieq 1 1)), Bool.false, (ilt (Int.ofNat n) 2), (ilt (Int.ofNat n) 2), (ilt (Int.ofNat n) 2), (ilt 16 (Int.ofNat n)), (p0 (body49x (onP 0 p0 (en49xe n f x y i) (onP 2 p2 (en49_2xe n f x y i2) (onP 4 p4 (en49_4xe n f (fun k => partF (fun k => outB (f k)) n k) (fun k => partF (fun k => movB (f k)) n k) i4) (onP 6 p6 (en49_6xc n f (fun k => partF (fun k => outB (f k)) n k) (fun k => partF (fun k => movB (f k)) n k) i6) L))))) (st49x n f 0 0 0 (jk49x n f ))), (p2 (body49_2x (onP 0 p0 (en49xe n f x y i) (onP 2 p2 (en49_2xe n f x y i2) (onP 4 p4 (en49_4xe n f (fun k => partF (fun k => outB (f k)) n k) (fun k => partF (fun k => movB (f k)) n k) i4) (onP 6 p6 (en49_6xc n f (fun k => partF (fun k => outB (f k)) n k) (fun k => partF (fun k => movB (f k)) n k) i6) L))))) (st49_2x n f x y 0 (jk49_2x n f x y i))), (ilt x 2), (ilt y 2), (allN n (fun _ => Bool.true)), (fitN n), (allN n (fun _ => Bool.true)), (fitN n), (p4 (body49_4x (onP 0 p0 (en49xe n f x y i) (onP 2 p2 (en49_2xe n f x y i2) (onP 4 p4 (en49_4xe n f (fun k => partF (fun k => outB (f k)) n k) (fun k => partF (fun k => movB (f k)) n k) i4) (onP 6 p6 (en49_6xc n f (fun k => partF (fun k => outB (f k)) n k) (fun k => partF (fun k => movB (f k)) n k) i6) L))))) (st49_4x n f (fun k => partF (fun k => outB (f k)) n k) (fun k => partF (fun k => movB (f k)) n k) 0 (jk49_4x n f x y i i2))), (p6 (body49_6x (onP 0 p0 (en49xe n f x y i) (onP 2 p2 (en49_2xe n f x y i2) (onP 4 p4 (en49_4xe n f (fun k => partF (fun k => outB (f k)) n k) (fun k => partF (fun k => movB (f k)) n k) i4) (onP 6 p6 (en49_6xc n f (fun k => partF (fun k => outB (f k)) n k) (fun k => partF (fun k => movB (f k)) n k) i6) L))))) (st49_6x n f (fun k => partF (fun k => outB (f k)) n k) (fun k => partF (fun k => movB (f k)) n k) 0 (jk49_6x n f x y i i2 (fun k => partF (fun k => outB (f k)) n k) (fun k => partF (fun k => movB (f k)) n k) i4)))]) (by kernel_rfl) (by simp only [hp0, hp2, hp4, hp6] <;> simp only [h0, h1, h2, h3, h4, allN_true] <;> rfl)

theorem wc49xz (L : Nat → (St → T (Ex × St)) → St → T (Ex × St)) (p0 : (St → T (Ex × St)) → St → Bool) (p2 : (St → T (Ex × St)) → St → Bool) (p4 : (St → T (Ex × St)) → St → Bool) (p6 : (St → T (Ex × St)) → St → Bool) (n : Nat) (f : Nat → E6) (x y : Int) (i : Nat) (i2 i4 i6 : Nat) (h0 : ilt (Int.ofNat n) 2 = false) (h1 : ilt 16 (Int.ofNat n) = false) (h2 : ilt x 2 = false) (h3 : ilt y 2 = false) (h4 : fitN n = true) (hp0 : p0 (body49x (onP 0 p0 (en49xe n f x y i) (onP 2 p2 (en49_2xe n f x y i2) (onP 4 p4 (en49_4xe n f (fun k => partF (fun k => outB (f k)) n k) (fun k => partF (fun k => movB (f k)) n k) i4) (onP 6 p6 (en49_6xe n f (fun k => partF (fun k => outB (f k)) n k) (fun k => partF (fun k => movB (f k)) n k) i6) L))))) (st49x n f 0 0 0 (jk49x n f )) = true) (hp2 : p2 (body49_2x (onP 0 p0 (en49xe n f x y i) (onP 2 p2 (en49_2xe n f x y i2) (onP 4 p4 (en49_4xe n f (fun k => partF (fun k => outB (f k)) n k) (fun k => partF (fun k => movB (f k)) n k) i4) (onP 6 p6 (en49_6xe n f (fun k => partF (fun k => outB (f k)) n k) (fun k => partF (fun k => movB (f k)) n k) i6) L))))) (st49_2x n f x y 0 (jk49_2x n f x y i)) = true) (hp4 : p4 (body49_4x (onP 0 p0 (en49xe n f x y i) (onP 2 p2 (en49_2xe n f x y i2) (onP 4 p4 (en49_4xe n f (fun k => partF (fun k => outB (f k)) n k) (fun k => partF (fun k => movB (f k)) n k) i4) (onP 6 p6 (en49_6xe n f (fun k => partF (fun k => outB (f k)) n k) (fun k => partF (fun k => movB (f k)) n k) i6) L))))) (st49_4x n f (fun k => partF (fun k => outB (f k)) n k) (fun k => partF (fun k => movB (f k)) n k) 0 (jk49_4x n f x y i i2)) = true) (hp6 : p6 (body49_6x (onP 0 p0 (en49xe n f x y i) (onP 2 p2 (en49_2xe n f x y i2) (onP 4 p4 (en49_4xe n f (fun k => partF (fun k => outB (f k)) n k) (fun k => partF (fun k => movB (f k)) n k) i4) (onP 6 p6 (en49_6xe n f (fun k => partF (fun k => outB (f k)) n k) (fun k => partF (fun k => movB (f k)) n k) i6) L))))) (st49_6x n f (fun k => partF (fun k => outB (f k)) n k) (fun k => partF (fun k => movB (f k)) n k) 0 (jk49_6x n f x y i i2 (fun k => partF (fun k => outB (f k)) n k) (fun k => partF (fun k => movB (f k)) n k) i4)) = true) : (finF (evalF tab ⟨callT tb49, (onP 0 p0 (en49xe n f x y i) (onP 2 p2 (en49_2xe n f x y i2) (onP 4 p4 (en49_4xe n f (fun k => partF (fun k => outB (f k)) n k) (fun k => partF (fun k => movB (f k)) n k) i4) (onP 6 p6 (en49_6xe n f (fun k => partF (fun k => outB (f k)) n k) (fun k => partF (fun k => movB (f k)) n k) i6) L)))), Gl⟩ Tryz.f17 [iV 1, edgesV n f] [])).sem = some ((.tup [(iV 0), (iV 0)]), []) := by
  exact sem_of_path (ds := [false, false, false, false, false, false, false, false, true, true, false, false, true, true, true, true, true, true]) (cs := [(bnot (ieq 1 1)), (bnot (ieq 1 1)), (bnot (ieq 1 1)), Bool.false, (ilt (Int.ofNat n) 2), (ilt (Int.ofNat n) 2), (ilt (Int.ofNat n) 2), (ilt 16 (Int.ofNat n)), (p0 (body49x (onP 0 p0 (en49xe n f x y i) (onP 2 p2 (en49_2xe n f x y i2) (onP 4 p4 (en49_4xe n f (fun k => partF (fun k => outB (f k)) n k) (fun k => partF (fun k => movB (f k)) n k) i4) (onP 6 p6 (en49_6xe n f (fun k => partF (fun k => outB (f k)) n k) (fun k => partF (fun k => movB (f k)) n k) i6) L))))) (st49x n f 0 0 0 (jk49x n f ))), (p2 (body49_2x (onP 0 p0 (en49xe n f x y i) (onP 2 p2 (en49_2xe n f x y i2) (onP 4 p4 (en49_4xe n f (fun k => partF (fun k => outB (f k)) n k) (fun k => partF (fun k => movB (f k)) n k) i4) (onP 6 p6 (en49_6xe n f (fun k => partF (fun k => outB (f k)) n k) (fun k => partF (fun k => movB (f k)) n k) i6) L))))) (st49_2x n f x y 0 (jk49_2x n f x y i))), (ilt x 2), (ilt y 2), (allN n (fun _ => Bool.true)), (fitN n), (allN n (fun _ => Bool.true)), (fitN n), (p4 (body49_4x (onP 0 p0 (en49xe n f x y i) (onP 2 p2 (en49_2xe n f x y i2) (onP 4 p4 (en49_4xe n f (fun k => partF (fun k => outB (f k)) n k) (fun k => partF (fun k => movB (f k)) n k) i4) (onP 6 p6 (en49_6xe n f (fun k => partF (fun k => outB (f k)) n k) (fun k => partF (fun k => movB (f k)) n k) i6) L))))) (st49_4x n f (fun k => partF (fun k => outB (f k)) n k) (fun k => partF (fun k => movB (f k)) n k) 0 (jk49_4x n f x y i i2))), (p6 (body49_6x (onP 0 p0 (en49xe n f x y i) (onP 2 p2 (en49_2xe n f x y i2) (onP 4 p4 (en49_4xe n f (fun k => partF (fun k => outB (f k)) n k) (fun k => partF (fun k => movB (f k)) n k) i4) (onP 6 p6 (en49_6xe n f (fun k => partF (fun k => outB (f k)) n k) (fun k => partF (fun k => movB (f k)) n k) i6) L))))) (st49_6x n f (fun k => partF (fun k => outB (f k)) n k) (fun k => partF (fun k => movB (f k)) n k) 0 (jk49_6x n f x y i i2 (fun k => partF (fun k => outB (f k)) n k) (fun k => partF (fun k => movB (f k)) n k) i4)))]) (by kernel_rfl) (by simp only [hp0, hp2, hp4, hp6] <;> simp only [h0, h1, h2, h3, h4, allN_true] <;> rfl)

theorem wc49xs (L : Nat → (St → T (Ex × St)) → St → T (Ex × St)) (n : Nat) (f : Nat → E6) (h0 : ilt (Int.ofNat n) 2 = true) : (finF (evalF tab ⟨callT tb49, L, Gl⟩ Tryz.f17 [iV 1, edgesV n f] [])).sem = some ((.tup [(iV 40), (iV 0)]), []) := by
  exact sem_of_path (ds := [false, false, false, false, true, true, true, true]) (cs := [(bnot (ieq 1 1)), (bnot (ieq 1 1)), (bnot (ieq 1 1)), Bool.false, (ilt (Int.ofNat n) 2), (ilt (Int.ofNat n) 2), (ilt (Int.ofNat n) 2), Bool.true]) (by kernel_rfl) (by simp only [h0] <;> rfl)

theorem wc49xt (L : Nat → (St → T (Ex × St)) → St → T (Ex × St)) (n : Nat) (f : Nat → E6) (h0 : ilt (Int.ofNat n) 2 = false) (h1 : ilt 16 (Int.ofNat n) = true) : (finF (evalF tab ⟨callT tb49, L, Gl⟩ Tryz.f17 [iV 1, edgesV n f] [])).sem = some ((.tup [(iV 40), (iV 0)]), []) := by
  exact sem_of_path (ds := [false, false, false, false, false, false, false, true]) (cs := [(bnot (ieq 1 1)), (bnot (ieq 1 1)), (bnot (ieq 1 1)), Bool.false, (ilt (Int.ofNat n) 2), (ilt (Int.ofNat n) 2), (ilt (Int.ofNat n) 2), (ilt 16 (Int.ofNat n))]) (by kernel_rfl) (by simp only [h0, h1] <;> rfl)

theorem run49x (L : Nat → (St → T (Ex × St)) → St → T (Ex × St)) (n : Nat) (f : Nat → E6) (hn : n ≤ 4611686018427387904) : ∀ (d i : Nat) (j : Nat → V) (q : Nat), n = i + d → d < q →
    (iterT (body49x L) (lp49x n f) q (st49x n f (Int.ofNat (cntB (fun k => outB (f k)) i)) (Int.ofNat (cntB (fun k => movB (f k)) i)) i j)).sem = some (match firstQ (badL 1 f) d i with
      | none => en49xe n f (Int.ofNat (cntB (fun k => outB (f k)) n)) (Int.ofNat (cntB (fun k => movB (f k)) n)) n
      | some t => match ieq (legF 1 (f t)) 0 with
        | false => en49xf n f (Int.ofNat (cntB (fun k => outB (f k)) t)) (Int.ofNat (cntB (fun k => movB (f k)) t)) t
        | true => en49xl n f (Int.ofNat (cntB (fun k => outB (f k)) t)) (Int.ofNat (cntB (fun k => movB (f k)) t)) t)
  | 0, i, j, q + 1, h, _ => by
    have : n = i := by omega
    subst this
    exact iter_round (ra49xe L n f (Int.ofNat (cntB (fun k => outB (f k)) n)) (Int.ofNat (cntB (fun k => movB (f k)) n)) n j (ofNat_ge (Nat.le_refl _)))
  | d + 1, i, j, q + 1, h, h2 => by
    have hl : i < n := by omega
    have ho := cntB_le (fun k => outB (f k)) i
    have hm := cntB_le (fun k => movB (f k)) i
    cases c1 : ieq (codeF (f i)) 0 with
    | false =>
      have c1' : ieq (legF 1 (f i)) 0 = false := c1
      rw [firstQ_t (show badL 1 f i = true by rw [badL, c1']; rfl)]
      simp only [c1']
      exact iter_round (ra49xf L n f (Int.ofNat (cntB (fun k => outB (f k)) i)) (Int.ofNat (cntB (fun k => movB (f k)) i)) i j (ofNat_lt hl) (ofNat_in hl) c1)
    | true =>
      have c1' : ieq (legF 1 (f i)) 0 = true := c1
      cases c2 : legR 1 (f i) with
      | false =>
        rw [firstQ_t (show badL 1 f i = true by rw [badL, c1', c2]; rfl)]
        simp only [c1']
        exact iter_round (ra49xl L n f (Int.ofNat (cntB (fun k => outB (f k)) i)) (Int.ofNat (cntB (fun k => movB (f k)) i)) i j (ofNat_lt hl) (ofNat_in hl) c1 c2)
      | true =>
        cases c3 : outB (f i) with
        | false =>
          cases c4 : movB (f i) with
          | false =>
            rw [firstQ_f (show badL 1 f i = false by rw [badL, show ieq (legF 1 (f i)) 0 = true from c1, c2]; rfl), iter_round (ra49xoo L n f (Int.ofNat (cntB (fun k => outB (f k)) i)) (Int.ofNat (cntB (fun k => movB (f k)) i)) i j (ofNat_lt hl) (ofNat_in hl) c1 c2 c3 c4), goOn_nm, succ_wr hl hn, ← cntB_f (p := (fun k => outB (f k))) c3, ← cntB_f (p := (fun k => movB (f k))) c4]
            exact run49x L n f hn d (i + 1) (fun _ => .und) q (by omega) (by omega)
          | true =>
            rw [firstQ_f (show badL 1 f i = false by rw [badL, show ieq (legF 1 (f i)) 0 = true from c1, c2]; rfl), iter_round (ra49xom L n f (Int.ofNat (cntB (fun k => outB (f k)) i)) (Int.ofNat (cntB (fun k => movB (f k)) i)) i j (ofNat_lt hl) (ofNat_in hl) c1 c2 c3 c4), goOn_nm, succ_wr hl hn, succ_wr (show cntB (fun k => movB (f k)) i < n by omega) hn, ← cntB_f (p := (fun k => outB (f k))) c3, ← cntB_t (p := (fun k => movB (f k))) c4]
            exact run49x L n f hn d (i + 1) (fun _ => .und) q (by omega) (by omega)
        | true =>
          cases c4 : movB (f i) with
          | false =>
            rw [firstQ_f (show badL 1 f i = false by rw [badL, show ieq (legF 1 (f i)) 0 = true from c1, c2]; rfl), iter_round (ra49xxo L n f (Int.ofNat (cntB (fun k => outB (f k)) i)) (Int.ofNat (cntB (fun k => movB (f k)) i)) i j (ofNat_lt hl) (ofNat_in hl) c1 c2 c3 c4), goOn_nm, succ_wr hl hn, succ_wr (show cntB (fun k => outB (f k)) i < n by omega) hn, ← cntB_t (p := (fun k => outB (f k))) c3, ← cntB_f (p := (fun k => movB (f k))) c4]
            exact run49x L n f hn d (i + 1) (fun _ => .und) q (by omega) (by omega)
          | true =>
            rw [firstQ_f (show badL 1 f i = false by rw [badL, show ieq (legF 1 (f i)) 0 = true from c1, c2]; rfl), iter_round (ra49xxm L n f (Int.ofNat (cntB (fun k => outB (f k)) i)) (Int.ofNat (cntB (fun k => movB (f k)) i)) i j (ofNat_lt hl) (ofNat_in hl) c1 c2 c3 c4), goOn_nm, succ_wr hl hn, succ_wr (show cntB (fun k => outB (f k)) i < n by omega) hn, succ_wr (show cntB (fun k => movB (f k)) i < n by omega) hn, ← cntB_t (p := (fun k => outB (f k))) c3, ← cntB_t (p := (fun k => movB (f k))) c4]
            exact run49x L n f hn d (i + 1) (fun _ => .und) q (by omega) (by omega)

theorem run49bx (L : Nat → (St → T (Ex × St)) → St → T (Ex × St)) (n : Nat) (f : Nat → E6) (x y : Int) (hn : n ≤ 4611686018427387904) : ∀ (d i : Nat) (j : Nat → V) (q : Nat), n = i + d → d < q →
    (iterT (body49_2x L) (lp49_2x n f) q (st49_2x n f x y i j)).sem = some (match firstQ (badM n f) d i with
      | none => en49_2xe n f x y 0
      | some t => en49_2xm n f x y t)
  | 0, i, j, q + 1, h, _ => by
    have : n = i := by omega
    subst this
    exact iter_round (rb49xe L n f x y n j (ofNat_ge (Nat.le_refl _)))
  | d + 1, i, j, q + 1, h, h2 => by
    have hl : i < n := by omega
    have e1 := next_mod hl hn
    have hb : band (ile 0 (itmod (wr IntKind.i64 (iadd (Int.ofNat i) 1)) (Int.ofNat n))) (ilt (itmod (wr IntKind.i64 (iadd (Int.ofNat i) 1)) (Int.ofNat n)) (Int.ofNat n)) = true := by
      rw [e1]; exact ofNat_in (Nat.mod_lt _ (by omega))
    have e2 : toN (Int.ofNat ((i + 1) % n)) = (i + 1) % n := rfl
    cases c1 : ieq (f i).dst (f ((i + 1) % n)).src with
    | false =>
      rw [firstQ_t (show badM n f i = true by rw [badM, c1]; rfl)]
      exact iter_round (rb49xm L n f x y i j (ofNat_lt hl) (ofNat_in hl) (ne_0 hl) hb (by rw [e1, e2]; exact c1))
    | true =>
      rw [firstQ_f (show badM n f i = false by rw [badM, c1]; rfl), iter_round (rb49xn L n f x y i j (ofNat_lt hl) (ofNat_in hl) (ne_0 hl) hb (by rw [e1, e2]; exact c1)), goOn_nm, succ_wr hl hn]
      exact run49bx L n f x y hn d (i + 1) (fun _ => .und) q (by omega) (by omega)

theorem run49dx (L : Nat → (St → T (Ex × St)) → St → T (Ex × St)) (n : Nat) (f : Nat → E6) (u v : Nat → Int) (hn : n ≤ 4611686018427387904) : ∀ (d i : Nat) (j : Nat → V) (q : Nat), n = i + d → d < q →
    (iterT (body49_4x L) (lp49_4x n f) q (st49_4x n f u v i j)).sem = some (match firstQ (tooMany n v (fun i => isW (f i)) 2) d i with
      | none => en49_4xe n f u v 0
      | some t => en49_4xw n f u v t)
  | 0, i, j, q + 1, h, _ => by
    have : n = i := by omega
    subst this
    exact iter_round (rd49xe L n f u v n j (ofNat_ge (Nat.le_refl _)))
  | d + 1, i, j, q + 1, h, h2 => by
    have hl : i < n := by omega
    have hs : smallN n = true := decide_eq_true hn
    cases c1 : ieq (f i).src 2 with
    | false =>
      rw [firstQ_f (show tooMany n v (fun i => isW (f i)) 2 i = false by rw [tooMany, isW, c1]; rfl), iter_round (rd49xa L n f u v i j (ofNat_lt hl) (ofNat_in hl) c1), goOn_nm, succ_wr hl hn]
      exact run49dx L n f u v hn d (i + 1) (fun _ => .und) q (by omega) (by omega)
    | true =>
      cases c2 : ilt 2 (cntK n v (fun i => (bor (bnot Bool.true) (isW (f i)))) (v i)) with
      | false =>
        rw [firstQ_f (show tooMany n v (fun i => isW (f i)) 2 i = false by rw [tooMany, isW, c1]; exact c2), iter_round (rd49xb L n f u v i j (ofNat_lt hl) (ofNat_in hl) c1 (show nlt i n = true by simpa [nlt] using hl) (Nat.beq_refl n) hs c2), goOn_nm, succ_wr hl hn]
        exact run49dx L n f u v hn d (i + 1) (fun _ => .und) q (by omega) (by omega)
      | true =>
        rw [firstQ_t (show tooMany n v (fun i => isW (f i)) 2 i = true by rw [tooMany, isW, c1]; exact c2)]
        exact iter_round (rd49xc L n f u v i j (ofNat_lt hl) (ofNat_in hl) c1 (show nlt i n = true by simpa [nlt] using hl) (Nat.beq_refl n) hs c2)

theorem run49ex (L : Nat → (St → T (Ex × St)) → St → T (Ex × St)) (n : Nat) (f : Nat → E6) (u v : Nat → Int) (hn : n ≤ 4611686018427387904) : ∀ (d i : Nat) (j : Nat → V) (q : Nat), n = i + d → d < q →
    (iterT (body49_6x L) (lp49_6x n f) q (st49_6x n f u v i j)).sem = some (match firstQ (tooMany n u (fun _ => true) 12) d i with
      | none => en49_6xe n f u v 0
      | some t => en49_6xc n f u v t)
  | 0, i, j, q + 1, h, _ => by
    have : n = i := by omega
    subst this
    exact iter_round (re49xe L n f u v n j (ofNat_ge (Nat.le_refl _)))
  | d + 1, i, j, q + 1, h, h2 => by
    have hl : i < n := by omega
    have hs : smallN n = true := decide_eq_true hn
    cases c2 : ilt 12 (cntK n u (fun i => (bor (bnot Bool.false) (isW (f i)))) (u i)) with
    | false =>
      rw [firstQ_f (show tooMany n u (fun _ => true) 12 i = false from c2), iter_round (re49xb L n f u v i j (ofNat_lt hl) (ofNat_in hl) (show nlt i n = true by simpa [nlt] using hl) (Nat.beq_refl n) hs c2), goOn_nm, succ_wr hl hn]
      exact run49ex L n f u v hn d (i + 1) (fun _ => .und) q (by omega) (by omega)
    | true =>
      rw [firstQ_t (show tooMany n u (fun _ => true) 12 i = true from c2)]
      exact iter_round (re49xc L n f u v i j (ofNat_lt hl) (ofNat_in hl) (show nlt i n = true by simpa [nlt] using hl) (Nat.beq_refl n) hs c2)

def lps49x (n : Nat) (f : Nat → E6) : List (Nat × Lp) := [(0, lp49x n f), (2, lp49_2x n f), (4, lp49_4x n f), (6, lp49_6x n f)]

theorem told49x (n : Nat) (f : Nat → E6) (hF : fitN n = true) :
    (finF (evalF tab (cxOf Gl tb49 (lps49x n f)) Tryz.f17 [iV 1, edgesV n f] [])).sem = some (.tup [iV (chkK 1 n f).1, iV (chkK 1 n f).2], []) := by
  have hL := loopsBy_le (lps49x n f)
  have hn := fit8_small (fitN_8 hF)
  unfold chkK
  cases hA : ilt (Int.ofNat n) 2 with
  | true => exact wc49xs _ n f hA
  | false =>
    cases hB : ilt 16 (Int.ofNat n) with
    | true => exact wc49xt _ n f hA hB
    | false =>
      have h0 := fun L j => run49x L n f hn n 0 j (n + 1) (by omega) (by omega)
      have h2 := fun L j => run49bx L n f (Int.ofNat (cntB (fun k => outB (f k)) n)) (Int.ofNat (cntB (fun k => movB (f k)) n)) hn n 0 j (n + 1) (by omega) (by omega)
      have h4 := fun L j => run49dx L n f (fun k => partF (fun k => outB (f k)) n k) (fun k => partF (fun k => movB (f k)) n k) hn n 0 j (n + 1) (by omega) (by omega)
      have h6 := fun L j => run49ex L n f (fun k => partF (fun k => outB (f k)) n k) (fun k => partF (fun k => movB (f k)) n k) hn n 0 j (n + 1) (by omega) (by omega)
      show _ = some (V.tup [iV (match edgR 1 n f, ieq (edgR 1 n f).1 0 with | r, false => r | _, true => chkS n f).1, iV (match edgR 1 n f, ieq (edgR 1 n f).1 0 with | r, false => r | _, true => chkS n f).2], [])
      unfold edgR
      cases c1 : firstQ (badL 1 f) n 0 with
      | some t =>
        rw [c1] at h0
        cases c2 : ieq (legF 1 (f t)) 0 with
        | false =>
          simp only [c2] at h0 ⊢
          exact told_le (onP_le hL hL) _ (wc49xf _ _ n f (Int.ofNat (cntB (fun k => outB (f k)) t)) (Int.ofNat (cntB (fun k => movB (f k)) t)) t hA hB (isP_true (h0 _ _)))
        | true =>
          simp only [c2] at h0 ⊢
          exact told_le (onP_le hL hL) _ (wc49xl _ _ n f (Int.ofNat (cntB (fun k => outB (f k)) t)) (Int.ofNat (cntB (fun k => movB (f k)) t)) t hA hB (isP_true (h0 _ _)))
      | none =>
        rw [c1] at h0
        cases c2 : firstQ (badM n f) n 0 with
        | some t =>
          rw [c2] at h2
          exact told_le (onP_le (onP_le hL hL) hL) _ (wc49xm _ _ _ n f (Int.ofNat (cntB (fun k => outB (f k)) n)) (Int.ofNat (cntB (fun k => movB (f k)) n)) n t hA hB (isP_true (h0 _ _)) (isP_true (h2 _ _)))
        | none =>
          rw [c2] at h2
          show _ = some (V.tup [iV (chkS n f).1, iV (chkS n f).2], [])
          unfold chkS
          cases c3 : ilt (cntO n f) 2 with
          | true => exact told_le (onP_le (onP_le hL hL) hL) _ (wc49xo _ _ _ n f (Int.ofNat (cntB (fun k => outB (f k)) n)) (Int.ofNat (cntB (fun k => movB (f k)) n)) n 0 hA hB c3 (isP_true (h0 _ _)) (isP_true (h2 _ _)))
          | false =>
            cases c4 : ilt (cntM n f) 2 with
            | true => exact told_le (onP_le (onP_le hL hL) hL) _ (wc49xv _ _ _ n f (Int.ofNat (cntB (fun k => outB (f k)) n)) (Int.ofNat (cntB (fun k => movB (f k)) n)) n 0 hA hB c3 c4 (isP_true (h0 _ _)) (isP_true (h2 _ _)))
            | false =>
              show _ = some (V.tup [iV (chkU n f).1, iV (chkU n f).2], [])
              unfold chkU crR
              cases c5 : firstQ (tooMany n (partF (fun k => movB (f k)) n) (fun i => isW (f i)) 2) n 0 with
              | some t =>
                rw [show (firstQ (tooMany n (fun k => partF (fun k => movB (f k)) n k) (fun i => isW (f i)) 2) n 0) = some t from c5] at h4
                exact told_le (onP_le (onP_le (onP_le hL hL) hL) hL) _ (wc49xw _ _ _ _ n f (Int.ofNat (cntB (fun k => outB (f k)) n)) (Int.ofNat (cntB (fun k => movB (f k)) n)) n 0 t hA hB c3 c4 hF (isP_true (h0 _ _)) (isP_true (h2 _ _)) (isP_true (h4 _ _)))
              | none =>
                rw [show (firstQ (tooMany n (fun k => partF (fun k => movB (f k)) n k) (fun i => isW (f i)) 2) n 0) = none from c5] at h4
                cases c6 : firstQ (tooMany n (partF (fun k => outB (f k)) n) (fun _ => true) 12) n 0 with
                | some t =>
                  rw [show (firstQ (tooMany n (fun k => partF (fun k => outB (f k)) n k) (fun _ => true) 12) n 0) = some t from c6] at h6
                  exact told_le (onP_le (onP_le (onP_le (onP_le hL hL) hL) hL) hL) _ (wc49xc _ _ _ _ _ n f (Int.ofNat (cntB (fun k => outB (f k)) n)) (Int.ofNat (cntB (fun k => movB (f k)) n)) n 0 0 t hA hB c3 c4 hF (isP_true (h0 _ _)) (isP_true (h2 _ _)) (isP_true (h4 _ _)) (isP_true (h6 _ _)))
                | none =>
                  rw [show (firstQ (tooMany n (fun k => partF (fun k => outB (f k)) n k) (fun _ => true) 12) n 0) = none from c6] at h6
                  exact told_le (onP_le (onP_le (onP_le (onP_le hL hL) hL) hL) hL) _ (wc49xz _ _ _ _ _ n f (Int.ofNat (cntB (fun k => outB (f k)) n)) (Int.ofNat (cntB (fun k => movB (f k)) n)) n 0 0 0 hA hB c3 c4 hF (isP_true (h0 _ _)) (isP_true (h2 _ _)) (isP_true (h4 _ _)) (isP_true (h6 _ _)))
def lp49v (n : Nat) (f : Nat → E6) : Lp := ⟨[true, true, false, false, true, true, true, true, true, true, false, false, false, false, false, false, false, false, false, false, false, false, false, false, false, false, false, false, false, false, false, false, false, false, false, false, false, false, false, false, false, false, false, false, false, false, false, false, false, false, false, false, false, false, false, false, false, false, false, false, false, false, false, false, false, false, false, false, false, false, false, false, false, false, false, false, false, false, false, false, false, false, false, false, false, false, false, false, false, false, false, false, false, false, false, false, false, false, false, false, false, false, false, false, false, false, false, false, false, false, false, false, false, false, false, false, false, false, false, false, false, false, false, false, false, false, false, false, false, false, false, false, false], 0, [false, true, false, false, true, true, true, true, true, false, false, false, false, false, false, false, false, false, false, false, false, false, false, false, false, false, false, false, false, false, false, false, false, false, false, false, false, false, false, false, false, false, false, false, false, false, false, false, false, false, false, false, false, false, false, false, false, false, false, false, false, false, false, false, false, false, false, false, false, false, false, false, false, false, false, false, false, false, false, false, false, false, false, false, false, false, false, false, false, false, false, false, false, false, false, false, false, false, false, false, false, false, false, false, false, false, false, false, false, false, false, false, false, false, false, false, false, false, false, false, false, false, false, false, false, false, false, false, false, false, false, false, false], 0, n + 1⟩
def st49v (n : Nat) (f : Nat → E6) (x y : Int) (i : Nat) (j : Nat → V) : St := ⟨[iV 2, .sl 6 n (fun i => (eV (f i))), j 2, j 3, iV 0, iV 0, iV (Int.ofNat n), iV x, iV y, iV (Int.ofNat i), j 10, j 11, j 12, j 13, j 14, j 15, j 16, j 17, j 18, j 19, j 20, j 21, j 22, j 23, j 24, j 25, j 26, j 27, j 28, j 29, j 30, j 31, j 32, j 33, j 34, j 35, j 36, j 37, j 38, j 39, j 40, j 41, j 42, j 43, j 44, j 45, j 46, j 47, j 48, j 49, j 50, j 51, j 52, j 53, j 54, j 55, j 56, j 57, j 58, j 59, j 60, j 61, j 62, j 63, j 64, j 65, j 66, j 67, j 68, j 69, j 70, j 71, j 72, j 73, j 74, j 75, j 76, j 77, j 78, j 79, j 80, j 81, j 82, j 83, j 84, j 85, j 86, j 87, j 88, j 89, j 90, j 91, j 92, j 93, j 94, j 95, j 96, j 97, j 98, j 99, j 100, j 101, j 102, j 103, j 104, j 105, j 106, j 107, j 108, j 109, j 110, j 111, j 112, j 113, j 114, j 115, j 116, j 117, j 118, j 119, j 120, j 121, j 122, j 123, j 124, j 125, j 126, j 127, j 128, j 129, j 130, j 131, j 132], []⟩
def en49ve (n : Nat) (f : Nat → E6) (x y : Int) (i : Nat) : Ex × St := (.ex 0, ⟨[U, .sl 6 n (fun i => (eV (f i))), U, U, iV 0, iV 0, iV (Int.ofNat n), iV x, iV y, U, U, U, U, U, U, U, U, U, U, U, U, U, U, U, U, U, U, U, U, U, U, U, U, U, U, U, U, U, U, U, U, U, U, U, U, U, U, U, U, U, U, U, U, U, U, U, U, U, U, U, U, U, U, U, U, U, U, U, U, U, U, U, U, U, U, U, U, U, U, U, U, U, U, U, U, U, U, U, U, U, U, U, U, U, U, U, U, U, U, U, U, U, U, U, U, U, U, U, U, U, U, U, U, U, U, U, U, U, U, U, U, U, U, U, U, U, U, U, U, U, U, U, .und], []⟩)
def en49vf (n : Nat) (f : Nat → E6) (x y : Int) (i : Nat) : Ex × St := (.rt, ⟨[U, .sl 6 n (fun i => (eV (f i))), U, U, iV 30, iV (Int.ofNat i), iV (Int.ofNat n), iV x, iV y, U, U, U, U, U, U, U, U, U, U, U, U, U, U, U, U, U, U, U, U, U, U, U, U, U, U, U, U, U, U, U, U, U, U, U, U, U, U, U, U, U, U, U, U, U, U, U, U, U, U, U, U, U, U, U, U, U, U, U, U, U, U, U, U, U, U, U, U, U, U, U, U, U, U, U, U, U, U, U, U, U, U, U, U, U, U, U, U, U, U, U, U, U, U, U, U, U, U, U, U, U, U, U, U, U, U, U, U, U, U, U, U, U, U, U, U, U, U, U, U, U, U, U, .und], []⟩)
def en49vl (n : Nat) (f : Nat → E6) (x y : Int) (i : Nat) : Ex × St := (.rt, ⟨[U, .sl 6 n (fun i => (eV (f i))), U, U, iV 5, iV (Int.ofNat i), iV (Int.ofNat n), iV x, iV y, U, U, U, U, U, U, U, U, U, U, U, U, U, U, U, U, U, U, U, U, U, U, U, U, U, U, U, U, U, U, U, U, U, U, U, U, U, U, U, U, U, U, U, U, U, U, U, U, U, U, U, U, U, U, U, U, U, U, U, U, U, U, U, U, U, U, U, U, U, U, U, U, U, U, U, U, U, U, U, U, U, U, U, U, U, U, U, U, U, U, U, U, U, U, U, U, U, U, U, U, U, U, U, U, U, U, U, U, U, U, U, U, U, U, U, U, U, U, U, U, U, U, U, .und], []⟩)
noncomputable def body49v (L : Nat → (St → T (Ex × St)) → St → T (Ex × St)) : St → T (Ex × St) := fun st => evalC tab ⟨callT tb49, L, Gl⟩ (loopBody Tryz.f17 0) 0 st
theorem ra49ve (L : Nat → (St → T (Ex × St)) → St → T (Ex × St)) (n : Nat) (f : Nat → E6) (x y : Int) (i : Nat)  (j : Nat → V) (h0 : ilt (Int.ofNat i) (Int.ofNat n) = false) : ((body49v L (st49v n f x y i j)).bind fun r => T.leaf (cutR (lp49v n f) r)).sem = some ((.ex 0), ⟨[U, (.sl 6 n (fun i => (eV (f i)))), U, U, (iV 0), (iV 0), (iV (Int.ofNat n)), (iV x), (iV y), U, U, U, U, U, U, U, U, U, U, U, U, U, U, U, U, U, U, U, U, U, U, U, U, U, U, U, U, U, U, U, U, U, U, U, U, U, U, U, U, U, U, U, U, U, U, U, U, U, U, U, U, U, U, U, U, U, U, U, U, U, U, U, U, U, U, U, U, U, U, U, U, U, U, U, U, U, U, U, U, U, U, U, U, U, U, U, U, U, U, U, U, U, U, U, U, U, U, U, U, U, U, U, U, U, U, U, U, U, U, U, U, U, U, U, U, U, U, U, U, U, U, U, .und], []⟩) := by
  exact sem_of_path (ds := [false]) (cs := [(ilt (Int.ofNat i) (Int.ofNat n))]) (by kernel_rfl) (by simp only [h0] <;> rfl)
theorem ra49vf (L : Nat → (St → T (Ex × St)) → St → T (Ex × St)) (n : Nat) (f : Nat → E6) (x y : Int) (i : Nat)  (j : Nat → V) (h0 : ilt (Int.ofNat i) (Int.ofNat n) = true) (h1 : band (ile 0 (Int.ofNat i)) (ilt (Int.ofNat i) (Int.ofNat n)) = true) (h2 : ieq (codeF (f i)) 0 = false) : ((body49v L (st49v n f x y i j)).bind fun r => T.leaf (cutR (lp49v n f) r)).sem = some (.rt, ⟨[U, (.sl 6 n (fun i => (eV (f i)))), U, U, (iV 30), (iV (Int.ofNat i)), (iV (Int.ofNat n)), (iV x), (iV y), U, U, U, U, U, U, U, U, U, U, U, U, U, U, U, U, U, U, U, U, U, U, U, U, U, U, U, U, U, U, U, U, U, U, U, U, U, U, U, U, U, U, U, U, U, U, U, U, U, U, U, U, U, U, U, U, U, U, U, U, U, U, U, U, U, U, U, U, U, U, U, U, U, U, U, U, U, U, U, U, U, U, U, U, U, U, U, U, U, U, U, U, U, U, U, U, U, U, U, U, U, U, U, U, U, U, U, U, U, U, U, U, U, U, U, U, U, U, U, U, U, U, U, .und], []⟩) := by
  exact sem_of_path (ds := [true, true, true]) (cs := [(ilt (Int.ofNat i) (Int.ofNat n)), (band (ile 0 (Int.ofNat i)) (ilt (Int.ofNat i) (Int.ofNat n))), (bnot (ieq (codeF (f i)) 0))]) (by kernel_rfl) (by simp only [h1] <;> simp only [h0, h2] <;> rfl)
theorem ra49vl (L : Nat → (St → T (Ex × St)) → St → T (Ex × St)) (n : Nat) (f : Nat → E6) (x y : Int) (i : Nat)  (j : Nat → V) (h0 : ilt (Int.ofNat i) (Int.ofNat n) = true) (h1 : band (ile 0 (Int.ofNat i)) (ilt (Int.ofNat i) (Int.ofNat n)) = true) (h2 : ieq (codeF (f i)) 0 = true) (h3 : legR 2 (f i) = false) : ((body49v L (st49v n f x y i j)).bind fun r => T.leaf (cutR (lp49v n f) r)).sem = some (.rt, ⟨[U, (.sl 6 n (fun i => (eV (f i)))), U, U, (iV 5), (iV (Int.ofNat i)), (iV (Int.ofNat n)), (iV x), (iV y), U, U, U, U, U, U, U, U, U, U, U, U, U, U, U, U, U, U, U, U, U, U, U, U, U, U, U, U, U, U, U, U, U, U, U, U, U, U, U, U, U, U, U, U, U, U, U, U, U, U, U, U, U, U, U, U, U, U, U, U, U, U, U, U, U, U, U, U, U, U, U, U, U, U, U, U, U, U, U, U, U, U, U, U, U, U, U, U, U, U, U, U, U, U, U, U, U, U, U, U, U, U, U, U, U, U, U, U, U, U, U, U, U, U, U, U, U, U, U, U, U, U, U, .und], []⟩) := by
  exact sem_of_path (ds := [true, true, false, true, true]) (cs := [(ilt (Int.ofNat i) (Int.ofNat n)), (band (ile 0 (Int.ofNat i)) (ilt (Int.ofNat i) (Int.ofNat n))), (bnot (ieq (codeF (f i)) 0)), (band (ile 0 (Int.ofNat i)) (ilt (Int.ofNat i) (Int.ofNat n))), (bnot (legR 2 (f i)))]) (by kernel_rfl) (by simp only [h1] <;> simp only [h0, h2, h3] <;> rfl)
theorem ra49voo (L : Nat → (St → T (Ex × St)) → St → T (Ex × St)) (n : Nat) (f : Nat → E6) (x y : Int) (i : Nat)  (j : Nat → V) (h0 : ilt (Int.ofNat i) (Int.ofNat n) = true) (h1 : band (ile 0 (Int.ofNat i)) (ilt (Int.ofNat i) (Int.ofNat n)) = true) (h2 : ieq (codeF (f i)) 0 = true) (h3 : legR 2 (f i) = true) (h4 : outB (f i) = false) (h5 : movB (f i) = false) : ((body49v L (st49v n f x y i j)).bind fun r => T.leaf (cutR (lp49v n f) r)).sem = some (.nm, ⟨[(iV 2), (.sl 6 n (fun i => (eV (f i)))), U, U, (iV 0), (iV 0), (iV (Int.ofNat n)), (iV x), (iV y), (iV (wr IntKind.i64 (iadd (Int.ofNat i) 1))), U, U, U, U, U, U, U, U, U, U, U, U, U, U, U, U, U, U, U, U, U, U, U, U, U, U, U, U, U, U, U, U, U, U, U, U, U, U, U, U, U, U, U, U, U, U, U, U, U, U, U, U, U, U, U, U, U, U, U, U, U, U, U, U, U, U, U, U, U, U, U, U, U, U, U, U, U, U, U, U, U, U, U, U, U, U, U, U, U, U, U, U, U, U, U, U, U, U, U, U, U, U, U, U, U, U, U, U, U, U, U, U, U, U, U, U, U, U, U, U, U, U, .und], []⟩) := by
  exact sem_of_path (ds := [true, true, false, true, false, true, false, true, false]) (cs := [(ilt (Int.ofNat i) (Int.ofNat n)), (band (ile 0 (Int.ofNat i)) (ilt (Int.ofNat i) (Int.ofNat n))), (bnot (ieq (codeF (f i)) 0)), (band (ile 0 (Int.ofNat i)) (ilt (Int.ofNat i) (Int.ofNat n))), (bnot (legR 2 (f i))), (band (ile 0 (Int.ofNat i)) (ilt (Int.ofNat i) (Int.ofNat n))), (outB (f i)), (band (ile 0 (Int.ofNat i)) (ilt (Int.ofNat i) (Int.ofNat n))), (movB (f i))]) (by kernel_rfl) (by simp only [h1] <;> simp only [h0, h2, h3, h4, h5] <;> rfl)
theorem ra49vom (L : Nat → (St → T (Ex × St)) → St → T (Ex × St)) (n : Nat) (f : Nat → E6) (x y : Int) (i : Nat)  (j : Nat → V) (h0 : ilt (Int.ofNat i) (Int.ofNat n) = true) (h1 : band (ile 0 (Int.ofNat i)) (ilt (Int.ofNat i) (Int.ofNat n)) = true) (h2 : ieq (codeF (f i)) 0 = true) (h3 : legR 2 (f i) = true) (h4 : outB (f i) = false) (h5 : movB (f i) = true) : ((body49v L (st49v n f x y i j)).bind fun r => T.leaf (cutR (lp49v n f) r)).sem = some (.nm, ⟨[(iV 2), (.sl 6 n (fun i => (eV (f i)))), U, U, (iV 0), (iV 0), (iV (Int.ofNat n)), (iV x), (iV (wr IntKind.i64 (iadd y 1))), (iV (wr IntKind.i64 (iadd (Int.ofNat i) 1))), U, U, U, U, U, U, U, U, U, U, U, U, U, U, U, U, U, U, U, U, U, U, U, U, U, U, U, U, U, U, U, U, U, U, U, U, U, U, U, U, U, U, U, U, U, U, U, U, U, U, U, U, U, U, U, U, U, U, U, U, U, U, U, U, U, U, U, U, U, U, U, U, U, U, U, U, U, U, U, U, U, U, U, U, U, U, U, U, U, U, U, U, U, U, U, U, U, U, U, U, U, U, U, U, U, U, U, U, U, U, U, U, U, U, U, U, U, U, U, U, U, U, .und], []⟩) := by
  exact sem_of_path (ds := [true, true, false, true, false, true, false, true, true]) (cs := [(ilt (Int.ofNat i) (Int.ofNat n)), (band (ile 0 (Int.ofNat i)) (ilt (Int.ofNat i) (Int.ofNat n))), (bnot (ieq (codeF (f i)) 0)), (band (ile 0 (Int.ofNat i)) (ilt (Int.ofNat i) (Int.ofNat n))), (bnot (legR 2 (f i))), (band (ile 0 (Int.ofNat i)) (ilt (Int.ofNat i) (Int.ofNat n))), (outB (f i)), (band (ile 0 (Int.ofNat i)) (ilt (Int.ofNat i) (Int.ofNat n))), (movB (f i))]) (by kernel_rfl) (by simp only [h1] <;> simp only [h0, h2, h3, h4, h5] <;> rfl)
theorem ra49vxo (L : Nat → (St → T (Ex × St)) → St → T (Ex × St)) (n : Nat) (f : Nat → E6) (x y : Int) (i : Nat)  (j : Nat → V) (h0 : ilt (Int.ofNat i) (Int.ofNat n) = true) (h1 : band (ile 0 (Int.ofNat i)) (ilt (Int.ofNat i) (Int.ofNat n)) = true) (h2 : ieq (codeF (f i)) 0 = true) (h3 : legR 2 (f i) = true) (h4 : outB (f i) = true) (h5 : movB (f i) = false) : ((body49v L (st49v n f x y i j)).bind fun r => T.leaf (cutR (lp49v n f) r)).sem = some (.nm, ⟨[(iV 2), (.sl 6 n (fun i => (eV (f i)))), U, U, (iV 0), (iV 0), (iV (Int.ofNat n)), (iV (wr IntKind.i64 (iadd x 1))), (iV y), (iV (wr IntKind.i64 (iadd (Int.ofNat i) 1))), U, U, U, U, U, U, U, U, U, U, U, U, U, U, U, U, U, U, U, U, U, U, U, U, U, U, U, U, U, U, U, U, U, U, U, U, U, U, U, U, U, U, U, U, U, U, U, U, U, U, U, U, U, U, U, U, U, U, U, U, U, U, U, U, U, U, U, U, U, U, U, U, U, U, U, U, U, U, U, U, U, U, U, U, U, U, U, U, U, U, U, U, U, U, U, U, U, U, U, U, U, U, U, U, U, U, U, U, U, U, U, U, U, U, U, U, U, U, U, U, U, U, .und], []⟩) := by
  exact sem_of_path (ds := [true, true, false, true, false, true, true, true, false]) (cs := [(ilt (Int.ofNat i) (Int.ofNat n)), (band (ile 0 (Int.ofNat i)) (ilt (Int.ofNat i) (Int.ofNat n))), (bnot (ieq (codeF (f i)) 0)), (band (ile 0 (Int.ofNat i)) (ilt (Int.ofNat i) (Int.ofNat n))), (bnot (legR 2 (f i))), (band (ile 0 (Int.ofNat i)) (ilt (Int.ofNat i) (Int.ofNat n))), (outB (f i)), (band (ile 0 (Int.ofNat i)) (ilt (Int.ofNat i) (Int.ofNat n))), (movB (f i))]) (by kernel_rfl) (by simp only [h1] <;> simp only [h0, h2, h3, h4, h5] <;> rfl)
theorem ra49vxm (L : Nat → (St → T (Ex × St)) → St → T (Ex × St)) (n : Nat) (f : Nat → E6) (x y : Int) (i : Nat)  (j : Nat → V) (h0 : ilt (Int.ofNat i) (Int.ofNat n) = true) (h1 : band (ile 0 (Int.ofNat i)) (ilt (Int.ofNat i) (Int.ofNat n)) = true) (h2 : ieq (codeF (f i)) 0 = true) (h3 : legR 2 (f i) = true) (h4 : outB (f i) = true) (h5 : movB (f i) = true) : ((body49v L (st49v n f x y i j)).bind fun r => T.leaf (cutR (lp49v n f) r)).sem = some (.nm, ⟨[(iV 2), (.sl 6 n (fun i => (eV (f i)))), U, U, (iV 0), (iV 0), (iV (Int.ofNat n)), (iV (wr IntKind.i64 (iadd x 1))), (iV (wr IntKind.i64 (iadd y 1))), (iV (wr IntKind.i64 (iadd (Int.ofNat i) 1))), U, U, U, U, U, U, U, U, U, U, U, U, U, U, U, U, U, U, U, U, U, U, U, U, U, U, U, U, U, U, U, U, U, U, U, U, U, U, U, U, U, U, U, U, U, U, U, U, U, U, U, U, U, U, U, U, U, U, U, U, U, U, U, U, U, U, U, U, U, U, U, U, U, U, U, U, U, U, U, U, U, U, U, U, U, U, U, U, U, U, U, U, U, U, U, U, U, U, U, U, U, U, U, U, U, U, U, U, U, U, U, U, U, U, U, U, U, U, U, U, U, U, .und], []⟩) := by
  exact sem_of_path (ds := [true, true, false, true, false, true, true, true, true]) (cs := [(ilt (Int.ofNat i) (Int.ofNat n)), (band (ile 0 (Int.ofNat i)) (ilt (Int.ofNat i) (Int.ofNat n))), (bnot (ieq (codeF (f i)) 0)), (band (ile 0 (Int.ofNat i)) (ilt (Int.ofNat i) (Int.ofNat n))), (bnot (legR 2 (f i))), (band (ile 0 (Int.ofNat i)) (ilt (Int.ofNat i) (Int.ofNat n))), (outB (f i)), (band (ile 0 (Int.ofNat i)) (ilt (Int.ofNat i) (Int.ofNat n))), (movB (f i))]) (by kernel_rfl) (by simp only [h1] <;> simp only [h0, h2, h3, h4, h5] <;> rfl)
def jk49v (n : Nat) (f : Nat → E6)  : Nat → V
  | 17 => (iV 2)
  | 18 => (bV (bnot (ieq 2 1)))
  | 19 => (bV (bnot (ieq 2 1)))
  | 20 => (iV 2)
  | 21 => (bV (bnot (ieq 2 2)))
  | 22 => (bV (bnot (ieq 2 2)))
  | 23 => (.sl 6 n (fun i => (eV (f i))))
  | 24 => (iV (Int.ofNat n))
  | 25 => (iV (Int.ofNat n))
  | 26 => (bV (ilt (Int.ofNat n) 2))
  | 27 => (bV (ilt (Int.ofNat n) 2))
  | 28 => (iV (Int.ofNat n))
  | 29 => (bV (ilt 16 (Int.ofNat n)))
  | 30 => (bV (ilt 16 (Int.ofNat n)))
  | _ => undefV

def lp49_2v (n : Nat) (f : Nat → E6) : Lp := ⟨[false, true, false, false, true, true, true, true, true, false, false, false, true, false, false, false, false, false, false, false, false, false, false, false, false, false, false, false, false, false, false, false, false, false, false, false, false, false, false, false, false, false, false, false, false, false, false, false, false, false, false, false, false, false, false, false, false, false, false, false, false, false, false, false, false, false, false, false, false, false, false, false, false, false, false, false, false, false, false, false, false, false, false, false, false, false, false, false, false, false, false, false, false, false, false, false, false, false, false, false, false, false, false, false, false, false, false, false, false, false, false, false, false, false, false, false, false, false, false, false, false, false, false, false, false, false, false, false, false, false, false, false, false], 0, [false, true, false, false, true, true, true, true, true, false, false, false, false, false, false, false, false, false, false, false, false, false, false, false, false, false, false, false, false, false, false, false, false, false, false, false, false, false, false, false, false, false, false, false, false, false, false, false, false, false, false, false, false, false, false, false, false, false, false, false, false, false, false, false, false, false, false, false, false, false, false, false, false, false, false, false, false, false, false, false, false, false, false, false, false, false, false, false, false, false, false, false, false, false, false, false, false, false, false, false, false, false, false, false, false, false, false, false, false, false, false, false, false, false, false, false, false, false, false, false, false, false, false, false, false, false, false, false, false, false, false, false, false], 0, n + 1⟩
def st49_2v (n : Nat) (f : Nat → E6) (x y : Int) (i : Nat) (j : Nat → V) : St := ⟨[j 0, .sl 6 n (fun i => (eV (f i))), j 2, j 3, iV 0, iV 0, iV (Int.ofNat n), iV x, iV y, j 9, j 10, j 11, iV (Int.ofNat i), j 13, j 14, j 15, j 16, j 17, j 18, j 19, j 20, j 21, j 22, j 23, j 24, j 25, j 26, j 27, j 28, j 29, j 30, j 31, j 32, j 33, j 34, j 35, j 36, j 37, j 38, j 39, j 40, j 41, j 42, j 43, j 44, j 45, j 46, j 47, j 48, j 49, j 50, j 51, j 52, j 53, j 54, j 55, j 56, j 57, j 58, j 59, j 60, j 61, j 62, j 63, j 64, j 65, j 66, j 67, j 68, j 69, j 70, j 71, j 72, j 73, j 74, j 75, j 76, j 77, j 78, j 79, j 80, j 81, j 82, j 83, j 84, j 85, j 86, j 87, j 88, j 89, j 90, j 91, j 92, j 93, j 94, j 95, j 96, j 97, j 98, j 99, j 100, j 101, j 102, j 103, j 104, j 105, j 106, j 107, j 108, j 109, j 110, j 111, j 112, j 113, j 114, j 115, j 116, j 117, j 118, j 119, j 120, j 121, j 122, j 123, j 124, j 125, j 126, j 127, j 128, j 129, j 130, j 131, j 132], []⟩
def en49_2ve (n : Nat) (f : Nat → E6) (x y : Int) (i : Nat) : Ex × St := (.ex 2, ⟨[U, .sl 6 n (fun i => (eV (f i))), U, U, iV 0, iV 0, iV (Int.ofNat n), iV x, iV y, U, U, U, U, U, U, U, U, U, U, U, U, U, U, U, U, U, U, U, U, U, U, U, U, U, U, U, U, U, U, U, U, U, U, U, U, U, U, U, U, U, U, U, U, U, U, U, U, U, U, U, U, U, U, U, U, U, U, U, U, U, U, U, U, U, U, U, U, U, U, U, U, U, U, U, U, U, U, U, U, U, U, U, U, U, U, U, U, U, U, U, U, U, U, U, U, U, U, U, U, U, U, U, U, U, U, U, U, U, U, U, U, U, U, U, U, U, U, U, U, U, U, U, .und], []⟩)
def en49_2vm (n : Nat) (f : Nat → E6) (x y : Int) (i : Nat) : Ex × St := (.rt, ⟨[U, .sl 6 n (fun i => (eV (f i))), U, U, iV 41, iV (Int.ofNat i), iV (Int.ofNat n), iV x, iV y, U, U, U, U, U, U, U, U, U, U, U, U, U, U, U, U, U, U, U, U, U, U, U, U, U, U, U, U, U, U, U, U, U, U, U, U, U, U, U, U, U, U, U, U, U, U, U, U, U, U, U, U, U, U, U, U, U, U, U, U, U, U, U, U, U, U, U, U, U, U, U, U, U, U, U, U, U, U, U, U, U, U, U, U, U, U, U, U, U, U, U, U, U, U, U, U, U, U, U, U, U, U, U, U, U, U, U, U, U, U, U, U, U, U, U, U, U, U, U, U, U, U, U, .und], []⟩)
noncomputable def body49_2v (L : Nat → (St → T (Ex × St)) → St → T (Ex × St)) : St → T (Ex × St) := fun st => evalC tab ⟨callT tb49, L, Gl⟩ (loopBody Tryz.f17 2) 2 st
theorem rb49ve (L : Nat → (St → T (Ex × St)) → St → T (Ex × St)) (n : Nat) (f : Nat → E6) (x y : Int) (i : Nat)  (j : Nat → V) (h0 : ilt (Int.ofNat i) (Int.ofNat n) = false) : ((body49_2v L (st49_2v n f x y i j)).bind fun r => T.leaf (cutR (lp49_2v n f) r)).sem = some ((.ex 2), ⟨[U, (.sl 6 n (fun i => (eV (f i)))), U, U, (iV 0), (iV 0), (iV (Int.ofNat n)), (iV x), (iV y), U, U, U, U, U, U, U, U, U, U, U, U, U, U, U, U, U, U, U, U, U, U, U, U, U, U, U, U, U, U, U, U, U, U, U, U, U, U, U, U, U, U, U, U, U, U, U, U, U, U, U, U, U, U, U, U, U, U, U, U, U, U, U, U, U, U, U, U, U, U, U, U, U, U, U, U, U, U, U, U, U, U, U, U, U, U, U, U, U, U, U, U, U, U, U, U, U, U, U, U, U, U, U, U, U, U, U, U, U, U, U, U, U, U, U, U, U, U, U, U, U, U, U, .und], []⟩) := by
  exact sem_of_path (ds := [false]) (cs := [(ilt (Int.ofNat i) (Int.ofNat n))]) (by kernel_rfl) (by simp only [h0] <;> rfl)
theorem rb49vm (L : Nat → (St → T (Ex × St)) → St → T (Ex × St)) (n : Nat) (f : Nat → E6) (x y : Int) (i : Nat)  (j : Nat → V) (h0 : ilt (Int.ofNat i) (Int.ofNat n) = true) (h1 : band (ile 0 (Int.ofNat i)) (ilt (Int.ofNat i) (Int.ofNat n)) = true) (h2 : ieq (Int.ofNat n) 0 = false) (h3 : band (ile 0 (itmod (wr IntKind.i64 (iadd (Int.ofNat i) 1)) (Int.ofNat n))) (ilt (itmod (wr IntKind.i64 (iadd (Int.ofNat i) 1)) (Int.ofNat n)) (Int.ofNat n)) = true) (h4 : ieq ((f i)).dst ((f (toN (itmod (wr IntKind.i64 (iadd (Int.ofNat i) 1)) (Int.ofNat n))))).src = false) : ((body49_2v L (st49_2v n f x y i j)).bind fun r => T.leaf (cutR (lp49_2v n f) r)).sem = some (.rt, ⟨[U, (.sl 6 n (fun i => (eV (f i)))), U, U, (iV 41), (iV (Int.ofNat i)), (iV (Int.ofNat n)), (iV x), (iV y), U, U, U, U, U, U, U, U, U, U, U, U, U, U, U, U, U, U, U, U, U, U, U, U, U, U, U, U, U, U, U, U, U, U, U, U, U, U, U, U, U, U, U, U, U, U, U, U, U, U, U, U, U, U, U, U, U, U, U, U, U, U, U, U, U, U, U, U, U, U, U, U, U, U, U, U, U, U, U, U, U, U, U, U, U, U, U, U, U, U, U, U, U, U, U, U, U, U, U, U, U, U, U, U, U, U, U, U, U, U, U, U, U, U, U, U, U, U, U, U, U, U, U, .und], []⟩) := by
  exact sem_of_path (ds := [true, true, false, true, true]) (cs := [(ilt (Int.ofNat i) (Int.ofNat n)), (band (ile 0 (Int.ofNat i)) (ilt (Int.ofNat i) (Int.ofNat n))), (ieq (Int.ofNat n) 0), (band (ile 0 (itmod (wr IntKind.i64 (iadd (Int.ofNat i) 1)) (Int.ofNat n))) (ilt (itmod (wr IntKind.i64 (iadd (Int.ofNat i) 1)) (Int.ofNat n)) (Int.ofNat n))), (bnot (ieq ((f i)).dst ((f (toN (itmod (wr IntKind.i64 (iadd (Int.ofNat i) 1)) (Int.ofNat n))))).src))]) (by kernel_rfl) (by simp only [h1, h3] <;> simp only [h0, h2, h4] <;> rfl)
theorem rb49vn (L : Nat → (St → T (Ex × St)) → St → T (Ex × St)) (n : Nat) (f : Nat → E6) (x y : Int) (i : Nat)  (j : Nat → V) (h0 : ilt (Int.ofNat i) (Int.ofNat n) = true) (h1 : band (ile 0 (Int.ofNat i)) (ilt (Int.ofNat i) (Int.ofNat n)) = true) (h2 : ieq (Int.ofNat n) 0 = false) (h3 : band (ile 0 (itmod (wr IntKind.i64 (iadd (Int.ofNat i) 1)) (Int.ofNat n))) (ilt (itmod (wr IntKind.i64 (iadd (Int.ofNat i) 1)) (Int.ofNat n)) (Int.ofNat n)) = true) (h4 : ieq ((f i)).dst ((f (toN (itmod (wr IntKind.i64 (iadd (Int.ofNat i) 1)) (Int.ofNat n))))).src = true) : ((body49_2v L (st49_2v n f x y i j)).bind fun r => T.leaf (cutR (lp49_2v n f) r)).sem = some (.nm, ⟨[U, (.sl 6 n (fun i => (eV (f i)))), U, U, (iV 0), (iV 0), (iV (Int.ofNat n)), (iV x), (iV y), U, U, U, (iV (wr IntKind.i64 (iadd (Int.ofNat i) 1))), U, U, U, U, U, U, U, U, U, U, U, U, U, U, U, U, U, U, U, U, U, U, U, U, U, U, U, U, U, U, U, U, U, U, U, U, U, U, U, U, U, U, U, U, U, U, U, U, U, U, U, U, U, U, U, U, U, U, U, U, U, U, U, U, U, U, U, U, U, U, U, U, U, U, U, U, U, U, U, U, U, U, U, U, U, U, U, U, U, U, U, U, U, U, U, U, U, U, U, U, U, U, U, U, U, U, U, U, U, U, U, U, U, U, U, U, U, U, U, .und], []⟩) := by
  exact sem_of_path (ds := [true, true, false, true, false]) (cs := [(ilt (Int.ofNat i) (Int.ofNat n)), (band (ile 0 (Int.ofNat i)) (ilt (Int.ofNat i) (Int.ofNat n))), (ieq (Int.ofNat n) 0), (band (ile 0 (itmod (wr IntKind.i64 (iadd (Int.ofNat i) 1)) (Int.ofNat n))) (ilt (itmod (wr IntKind.i64 (iadd (Int.ofNat i) 1)) (Int.ofNat n)) (Int.ofNat n))), (bnot (ieq ((f i)).dst ((f (toN (itmod (wr IntKind.i64 (iadd (Int.ofNat i) 1)) (Int.ofNat n))))).src))]) (by kernel_rfl) (by simp only [h1, h3] <;> simp only [h0, h2, h4] <;> rfl)
def jk49_2v (n : Nat) (f : Nat → E6) (x y : Int) (i : Nat) : Nat → V
  | 0 => .und
  | 2 => .und
  | 3 => .und
  | 9 => .und
  | 10 => .und
  | 11 => .und
  | 13 => .und
  | 14 => .und
  | 15 => .und
  | 16 => .und
  | 17 => .und
  | 18 => .und
  | 19 => .und
  | 20 => .und
  | 21 => .und
  | 22 => .und
  | 23 => .und
  | 24 => .und
  | 25 => .und
  | 26 => .und
  | 27 => .und
  | 28 => .und
  | 29 => .und
  | 30 => .und
  | 31 => .und
  | 32 => .und
  | 33 => .und
  | 34 => .und
  | 35 => .und
  | 36 => .und
  | 37 => .und
  | 38 => .und
  | 39 => .und
  | 40 => .und
  | 41 => .und
  | 42 => .und
  | 43 => .und
  | 44 => .und
  | 45 => .und
  | 46 => .und
  | 47 => .und
  | 48 => .und
  | 49 => .und
  | 50 => .und
  | 51 => .und
  | 52 => .und
  | 53 => .und
  | 54 => .und
  | 55 => .und
  | 56 => .und
  | 57 => .und
  | 58 => .und
  | 59 => .und
  | 60 => .und
  | 61 => .und
  | 62 => .und
  | 63 => .und
  | 64 => .und
  | 65 => .und
  | 66 => .und
  | 67 => .und
  | 68 => .und
  | 69 => .und
  | 70 => .und
  | 71 => .und
  | 72 => .und
  | 73 => .und
  | 74 => .und
  | 75 => .und
  | 76 => .und
  | 77 => .und
  | 78 => .und
  | 79 => .und
  | 80 => .und
  | 81 => .und
  | 82 => .und
  | 83 => .und
  | 84 => .und
  | 85 => .und
  | 86 => .und
  | 87 => .und
  | 88 => .und
  | 89 => .und
  | 90 => .und
  | 91 => .und
  | 92 => .und
  | 93 => .und
  | 94 => .und
  | 95 => .und
  | 96 => .und
  | 97 => .und
  | 98 => .und
  | 99 => .und
  | 100 => .und
  | 101 => .und
  | 102 => .und
  | 103 => .und
  | 104 => .und
  | 105 => .und
  | 106 => .und
  | 107 => .und
  | 108 => .und
  | 109 => .und
  | 110 => .und
  | 111 => .und
  | 112 => .und
  | 113 => .und
  | 114 => .und
  | 115 => .und
  | 116 => .und
  | 117 => .und
  | 118 => .und
  | 119 => .und
  | 120 => .und
  | 121 => .und
  | 122 => .und
  | 123 => .und
  | 124 => .und
  | 125 => .und
  | 126 => .und
  | 127 => .und
  | 128 => .und
  | 129 => .und
  | 130 => .und
  | 131 => .und
  | 132 => .und
  | _ => undefV

def lp49_4v (n : Nat) (f : Nat → E6) : Lp := ⟨[false, true, false, false, true, true, true, false, false, false, false, false, false, true, true, true, false, false, false, false, false, false, false, false, false, false, false, false, false, false, false, false, false, false, false, false, false, false, false, false, false, false, false, false, false, false, false, false, false, false, false, false, false, false, false, false, false, false, false, false, false, false, false, false, false, false, false, false, false, false, false, false, false, false, false, false, false, false, false, false, false, false, false, false, false, false, false, false, false, false, false, false, false, false, false, false, false, false, false, false, false, false, false, false, false, false, false, false, false, false, false, false, false, false, false, false, false, false, false, false, false, false, false, false, false, false, false, false, false, false, false, false, false], 2, [false, true, false, false, true, true, true, false, false, false, false, false, false, true, false, false, false, false, false, false, false, false, false, false, false, false, false, false, false, false, false, false, false, false, false, false, false, false, false, false, false, false, false, false, false, false, false, false, false, false, false, false, false, false, false, false, false, false, false, false, false, false, false, false, false, false, false, false, false, false, false, false, false, false, false, false, false, false, false, false, false, false, false, false, false, false, false, false, false, false, false, false, false, false, false, false, false, false, false, false, false, false, false, false, false, false, false, false, false, false, false, false, false, false, false, false, false, false, false, false, false, false, false, false, false, false, false, false, false, false, false, false, false], 2, n + 1⟩
def st49_4v (n : Nat) (f : Nat → E6) (u v : Nat → Int) (i : Nat) (j : Nat → V) : St := ⟨[j 0, .sl 6 n (fun i => (eV (f i))), j 2, j 3, iV 0, iV 0, iV (Int.ofNat n), j 7, j 8, j 9, j 10, j 11, j 12, .ref 0, .ref 1, iV (Int.ofNat i), j 16, j 17, j 18, j 19, j 20, j 21, j 22, j 23, j 24, j 25, j 26, j 27, j 28, j 29, j 30, j 31, j 32, j 33, j 34, j 35, j 36, j 37, j 38, j 39, j 40, j 41, j 42, j 43, j 44, j 45, j 46, j 47, j 48, j 49, j 50, j 51, j 52, j 53, j 54, j 55, j 56, j 57, j 58, j 59, j 60, j 61, j 62, j 63, j 64, j 65, j 66, j 67, j 68, j 69, j 70, j 71, j 72, j 73, j 74, j 75, j 76, j 77, j 78, j 79, j 80, j 81, j 82, j 83, j 84, j 85, j 86, j 87, j 88, j 89, j 90, j 91, j 92, j 93, j 94, j 95, j 96, j 97, j 98, j 99, j 100, j 101, j 102, j 103, j 104, j 105, j 106, j 107, j 108, j 109, j 110, j 111, j 112, j 113, j 114, j 115, j 116, j 117, j 118, j 119, j 120, j 121, j 122, j 123, j 124, j 125, j 126, j 127, j 128, j 129, j 130, j 131, j 132], [.row 3 1 n (fun k => iV (u k)), .row 3 1 n (fun k => iV (v k))]⟩
def en49_4ve (n : Nat) (f : Nat → E6) (u v : Nat → Int) (i : Nat) : Ex × St := (.ex 4, ⟨[U, .sl 6 n (fun i => (eV (f i))), U, U, iV 0, iV 0, iV (Int.ofNat n), U, U, U, U, U, U, .ref 0, U, U, U, U, U, U, U, U, U, U, U, U, U, U, U, U, U, U, U, U, U, U, U, U, U, U, U, U, U, U, U, U, U, U, U, U, U, U, U, U, U, U, U, U, U, U, U, U, U, U, U, U, U, U, U, U, U, U, U, U, U, U, U, U, U, U, U, U, U, U, U, U, U, U, U, U, U, U, U, U, U, U, U, U, U, U, U, U, U, U, U, U, U, U, U, U, U, U, U, U, U, U, U, U, U, U, U, U, U, U, U, U, U, U, U, U, U, U, .und], [.row 3 1 n (fun k => iV (u k)), .row 3 1 n (fun k => iV (v k))]⟩)
def en49_4vw (n : Nat) (f : Nat → E6) (u v : Nat → Int) (i : Nat) : Ex × St := (.rt, ⟨[U, .sl 6 n (fun i => (eV (f i))), U, U, iV 44, iV (Int.ofNat i), iV (Int.ofNat n), U, U, U, U, U, U, .ref 0, U, U, U, U, U, U, U, U, U, U, U, U, U, U, U, U, U, U, U, U, U, U, U, U, U, U, U, U, U, U, U, U, U, U, U, U, U, U, U, U, U, U, U, U, U, U, U, U, U, U, U, U, U, U, U, U, U, U, U, U, U, U, U, U, U, U, U, U, U, U, U, U, U, U, U, U, U, U, U, U, U, U, U, U, U, U, U, U, U, U, U, U, U, U, U, U, U, U, U, U, U, U, U, U, U, U, U, U, U, U, U, U, U, U, U, U, U, U, .und], [.row 3 1 n (fun k => iV (u k)), .row 3 1 n (fun k => iV (v k))]⟩)
noncomputable def body49_4v (L : Nat → (St → T (Ex × St)) → St → T (Ex × St)) : St → T (Ex × St) := fun st => evalC tab ⟨callT tb49, L, Gl⟩ (loopBody Tryz.f17 4) 4 st
theorem rd49ve (L : Nat → (St → T (Ex × St)) → St → T (Ex × St)) (n : Nat) (f : Nat → E6) (u v : Nat → Int) (i : Nat)  (j : Nat → V) (h0 : ilt (Int.ofNat i) (Int.ofNat n) = false) : ((body49_4v L (st49_4v n f u v i j)).bind fun r => T.leaf (cutR (lp49_4v n f) r)).sem = some ((.ex 4), ⟨[U, (.sl 6 n (fun i => (eV (f i)))), U, U, (iV 0), (iV 0), (iV (Int.ofNat n)), U, U, U, U, U, U, (.ref 0), U, U, U, U, U, U, U, U, U, U, U, U, U, U, U, U, U, U, U, U, U, U, U, U, U, U, U, U, U, U, U, U, U, U, U, U, U, U, U, U, U, U, U, U, U, U, U, U, U, U, U, U, U, U, U, U, U, U, U, U, U, U, U, U, U, U, U, U, U, U, U, U, U, U, U, U, U, U, U, U, U, U, U, U, U, U, U, U, U, U, U, U, U, U, U, U, U, U, U, U, U, U, U, U, U, U, U, U, U, U, U, U, U, U, U, U, U, U, .und], [(.row 3 1 n (fun k => (iV (u k)))), (.row 3 1 n (fun k => (iV (v k))))]⟩) := by
  exact sem_of_path (ds := [false]) (cs := [(ilt (Int.ofNat i) (Int.ofNat n))]) (by kernel_rfl) (by simp only [h0] <;> rfl)
theorem rd49va (L : Nat → (St → T (Ex × St)) → St → T (Ex × St)) (n : Nat) (f : Nat → E6) (u v : Nat → Int) (i : Nat)  (j : Nat → V) (h0 : ilt (Int.ofNat i) (Int.ofNat n) = true) (h1 : band (ile 0 (Int.ofNat i)) (ilt (Int.ofNat i) (Int.ofNat n)) = true) (h2 : ieq ((f i)).src 2 = false) : ((body49_4v L (st49_4v n f u v i j)).bind fun r => T.leaf (cutR (lp49_4v n f) r)).sem = some (.nm, ⟨[U, (.sl 6 n (fun i => (eV (f i)))), U, U, (iV 0), (iV 0), (iV (Int.ofNat n)), U, U, U, U, U, U, (.ref 0), (.ref 1), (iV (wr IntKind.i64 (iadd (Int.ofNat i) 1))), U, U, U, U, U, U, U, U, U, U, U, U, U, U, U, U, U, U, U, U, U, U, U, U, U, U, U, U, U, U, U, U, U, U, U, U, U, U, U, U, U, U, U, U, U, U, U, U, U, U, U, U, U, U, U, U, U, U, U, U, U, U, U, U, U, U, U, U, U, U, U, U, U, U, U, U, U, U, U, U, U, U, U, U, U, U, U, U, U, U, U, U, U, U, U, U, U, U, U, U, U, U, U, U, U, U, U, U, U, U, U, U, U, U, U, U, .und], [(.row 3 1 n (fun k => (iV (u k)))), (.row 3 1 n (fun k => (iV (v k))))]⟩) := by
  exact sem_of_path (ds := [true, true, false, false, false, false, false, false, false, false, false, false]) (cs := [(ilt (Int.ofNat i) (Int.ofNat n)), (band (ile 0 (Int.ofNat i)) (ilt (Int.ofNat i) (Int.ofNat n))), (ieq ((f i)).src 2), (ieq ((f i)).src 2), (ieq ((f i)).src 2), (ieq ((f i)).src 2), (ieq ((f i)).src 2), (ieq ((f i)).src 2), (ieq ((f i)).src 2), (ieq ((f i)).src 2), (ieq ((f i)).src 2), Bool.false]) (by kernel_rfl) (by simp only [h1] <;> simp only [h0, h2] <;> rfl)
theorem rd49vb (L : Nat → (St → T (Ex × St)) → St → T (Ex × St)) (n : Nat) (f : Nat → E6) (u v : Nat → Int) (i : Nat)  (j : Nat → V) (h0 : ilt (Int.ofNat i) (Int.ofNat n) = true) (h1 : band (ile 0 (Int.ofNat i)) (ilt (Int.ofNat i) (Int.ofNat n)) = true) (h2 : ieq ((f i)).src 2 = true) (h15 : nlt i n = true) (h3 : nbeq n n = true) (h4 : smallN n = true) (h5 : ilt 2 (cntK n v (fun i => (bor (bnot Bool.true) (isW (f i)))) (v i)) = false) : ((body49_4v L (st49_4v n f u v i j)).bind fun r => T.leaf (cutR (lp49_4v n f) r)).sem = some (.nm, ⟨[U, (.sl 6 n (fun i => (eV (f i)))), U, U, (iV 0), (iV 0), (iV (Int.ofNat n)), U, U, U, U, U, U, (.ref 0), (.ref 1), (iV (wr IntKind.i64 (iadd (Int.ofNat i) 1))), U, U, U, U, U, U, U, U, U, U, U, U, U, U, U, U, U, U, U, U, U, U, U, U, U, U, U, U, U, U, U, U, U, U, U, U, U, U, U, U, U, U, U, U, U, U, U, U, U, U, U, U, U, U, U, U, U, U, U, U, U, U, U, U, U, U, U, U, U, U, U, U, U, U, U, U, U, U, U, U, U, U, U, U, U, U, U, U, U, U, U, U, U, U, U, U, U, U, U, U, U, U, U, U, U, U, U, U, U, U, U, U, U, U, U, U, .und], [(.row 3 1 n (fun k => (iV (u k)))), (.row 3 1 n (fun k => (iV (v k))))]⟩) := by
  exact sem_of_path (ds := [true, true, true, true, true, true, true, true, true, true, true, true, true, true, true, true, true, false]) (cs := [(ilt (Int.ofNat i) (Int.ofNat n)), (band (ile 0 (Int.ofNat i)) (ilt (Int.ofNat i) (Int.ofNat n))), (ieq ((f i)).src 2), (ieq ((f i)).src 2), (ieq ((f i)).src 2), (ieq ((f i)).src 2), (ieq ((f i)).src 2), (band (ile 0 (Int.ofNat i)) (ilt (Int.ofNat i) (Int.ofNat n))), (ieq ((f i)).src 2), (nlt i n), (ieq ((f i)).src 2), (allN n (fun _ => Bool.true)), (allN n (fun _ => Bool.true)), (nbeq n n), (smallN n), (ieq ((f i)).src 2), (ieq ((f i)).src 2), (ilt 2 (cntK n v (fun i => (bor (bnot Bool.true) (isW (f i)))) (v i)))]) (by kernel_rfl) (by simp only [h1] <;> simp only [h0, h2, h15, h3, h4, h5, allN_true] <;> rfl)
theorem rd49vc (L : Nat → (St → T (Ex × St)) → St → T (Ex × St)) (n : Nat) (f : Nat → E6) (u v : Nat → Int) (i : Nat)  (j : Nat → V) (h0 : ilt (Int.ofNat i) (Int.ofNat n) = true) (h1 : band (ile 0 (Int.ofNat i)) (ilt (Int.ofNat i) (Int.ofNat n)) = true) (h2 : ieq ((f i)).src 2 = true) (h15 : nlt i n = true) (h3 : nbeq n n = true) (h4 : smallN n = true) (h5 : ilt 2 (cntK n v (fun i => (bor (bnot Bool.true) (isW (f i)))) (v i)) = true) : ((body49_4v L (st49_4v n f u v i j)).bind fun r => T.leaf (cutR (lp49_4v n f) r)).sem = some (.rt, ⟨[U, (.sl 6 n (fun i => (eV (f i)))), U, U, (iV 44), (iV (Int.ofNat i)), (iV (Int.ofNat n)), U, U, U, U, U, U, (.ref 0), U, U, U, U, U, U, U, U, U, U, U, U, U, U, U, U, U, U, U, U, U, U, U, U, U, U, U, U, U, U, U, U, U, U, U, U, U, U, U, U, U, U, U, U, U, U, U, U, U, U, U, U, U, U, U, U, U, U, U, U, U, U, U, U, U, U, U, U, U, U, U, U, U, U, U, U, U, U, U, U, U, U, U, U, U, U, U, U, U, U, U, U, U, U, U, U, U, U, U, U, U, U, U, U, U, U, U, U, U, U, U, U, U, U, U, U, U, U, .und], [(.row 3 1 n (fun k => (iV (u k)))), (.row 3 1 n (fun k => (iV (v k))))]⟩) := by
  exact sem_of_path (ds := [true, true, true, true, true, true, true, true, true, true, true, true, true, true, true, true, true, true]) (cs := [(ilt (Int.ofNat i) (Int.ofNat n)), (band (ile 0 (Int.ofNat i)) (ilt (Int.ofNat i) (Int.ofNat n))), (ieq ((f i)).src 2), (ieq ((f i)).src 2), (ieq ((f i)).src 2), (ieq ((f i)).src 2), (ieq ((f i)).src 2), (band (ile 0 (Int.ofNat i)) (ilt (Int.ofNat i) (Int.ofNat n))), (ieq ((f i)).src 2), (nlt i n), (ieq ((f i)).src 2), (allN n (fun _ => Bool.true)), (allN n (fun _ => Bool.true)), (nbeq n n), (smallN n), (ieq ((f i)).src 2), (ieq ((f i)).src 2), (ilt 2 (cntK n v (fun i => (bor (bnot Bool.true) (isW (f i)))) (v i)))]) (by kernel_rfl) (by simp only [h1] <;> simp only [h0, h2, h15, h3, h4, h5, allN_true] <;> rfl)
def jk49_4v (n : Nat) (f : Nat → E6) (x y : Int) (i i2 : Nat) : Nat → V
  | 0 => .und
  | 2 => .und
  | 3 => .und
  | 7 => (iV x)
  | 8 => (iV y)
  | 9 => .und
  | 10 => .und
  | 11 => .und
  | 12 => .und
  | 16 => .und
  | 17 => .und
  | 18 => .und
  | 19 => .und
  | 20 => .und
  | 21 => .und
  | 22 => .und
  | 23 => .und
  | 24 => .und
  | 25 => .und
  | 26 => .und
  | 27 => .und
  | 28 => .und
  | 29 => .und
  | 30 => .und
  | 31 => .und
  | 32 => .und
  | 33 => .und
  | 34 => .und
  | 35 => .und
  | 36 => .und
  | 37 => .und
  | 38 => .und
  | 39 => .und
  | 40 => .und
  | 41 => .und
  | 42 => .und
  | 43 => .und
  | 44 => .und
  | 45 => .und
  | 46 => .und
  | 47 => .und
  | 48 => .und
  | 49 => .und
  | 50 => .und
  | 51 => .und
  | 52 => .und
  | 53 => .und
  | 54 => .und
  | 55 => .und
  | 56 => .und
  | 57 => .und
  | 58 => .und
  | 59 => .und
  | 60 => .und
  | 61 => .und
  | 62 => .und
  | 63 => .und
  | 64 => .und
  | 65 => .und
  | 66 => .und
  | 67 => .und
  | 68 => .und
  | 69 => .und
  | 70 => .und
  | 71 => .und
  | 72 => .und
  | 73 => .und
  | 74 => .und
  | 75 => .und
  | 76 => .und
  | 77 => .und
  | 78 => .und
  | 79 => .und
  | 80 => .und
  | 81 => .und
  | 82 => .und
  | 83 => .und
  | 84 => .und
  | 85 => .und
  | 86 => .und
  | 87 => .und
  | 88 => .und
  | 89 => (iV x)
  | 90 => (bV (ilt x 2))
  | 91 => (iV y)
  | 92 => (bV (ilt y 2))
  | 93 => (.sl 6 n (fun i => (eV (f i))))
  | 94 => (.ref 0)
  | 95 => (.sl 6 n (fun i => (eV (f i))))
  | 96 => (.ref 1)
  | 97 => .und
  | 98 => .und
  | 99 => .und
  | 100 => .und
  | 101 => .und
  | 102 => .und
  | 103 => .und
  | 104 => .und
  | 105 => .und
  | 106 => .und
  | 107 => .und
  | 108 => .und
  | 109 => .und
  | 110 => .und
  | 111 => .und
  | 112 => .und
  | 113 => .und
  | 114 => .und
  | 115 => .und
  | 116 => .und
  | 117 => .und
  | 118 => .und
  | 119 => .und
  | 120 => .und
  | 121 => .und
  | 122 => .und
  | 123 => .und
  | 124 => .und
  | 125 => .und
  | 126 => .und
  | 127 => .und
  | 128 => .und
  | 129 => .und
  | 130 => .und
  | 131 => .und
  | 132 => .und
  | _ => undefV

def lp49_6v (n : Nat) (f : Nat → E6) : Lp := ⟨[false, true, false, false, true, true, true, false, false, false, false, false, false, true, false, false, true, false, false, false, false, false, false, false, false, false, false, false, false, false, false, false, false, false, false, false, false, false, false, false, false, false, false, false, false, false, false, false, false, false, false, false, false, false, false, false, false, false, false, false, false, false, false, false, false, false, false, false, false, false, false, false, false, false, false, false, false, false, false, false, false, false, false, false, false, false, false, false, false, false, false, false, false, false, false, false, false, false, false, false, false, false, false, false, false, false, false, false, false, false, false, false, false, false, false, false, false, false, false, false, false, false, false, false, false, false, false, false, false, false, false, false, false], 2, [false, false, false, false, true, true, false, false, false, false, false, false, false, false, false, false, false, false, false, false, false, false, false, false, false, false, false, false, false, false, false, false, false, false, false, false, false, false, false, false, false, false, false, false, false, false, false, false, false, false, false, false, false, false, false, false, false, false, false, false, false, false, false, false, false, false, false, false, false, false, false, false, false, false, false, false, false, false, false, false, false, false, false, false, false, false, false, false, false, false, false, false, false, false, false, false, false, false, false, false, false, false, false, false, false, false, false, false, false, false, false, false, false, false, false, false, false, false, false, false, false, false, false, false, false, false, false, false, false, false, false, false, false], 0, n + 1⟩
def st49_6v (n : Nat) (f : Nat → E6) (u v : Nat → Int) (i : Nat) (j : Nat → V) : St := ⟨[j 0, .sl 6 n (fun i => (eV (f i))), j 2, j 3, iV 0, iV 0, iV (Int.ofNat n), j 7, j 8, j 9, j 10, j 11, j 12, .ref 0, j 14, j 15, iV (Int.ofNat i), j 17, j 18, j 19, j 20, j 21, j 22, j 23, j 24, j 25, j 26, j 27, j 28, j 29, j 30, j 31, j 32, j 33, j 34, j 35, j 36, j 37, j 38, j 39, j 40, j 41, j 42, j 43, j 44, j 45, j 46, j 47, j 48, j 49, j 50, j 51, j 52, j 53, j 54, j 55, j 56, j 57, j 58, j 59, j 60, j 61, j 62, j 63, j 64, j 65, j 66, j 67, j 68, j 69, j 70, j 71, j 72, j 73, j 74, j 75, j 76, j 77, j 78, j 79, j 80, j 81, j 82, j 83, j 84, j 85, j 86, j 87, j 88, j 89, j 90, j 91, j 92, j 93, j 94, j 95, j 96, j 97, j 98, j 99, j 100, j 101, j 102, j 103, j 104, j 105, j 106, j 107, j 108, j 109, j 110, j 111, j 112, j 113, j 114, j 115, j 116, j 117, j 118, j 119, j 120, j 121, j 122, j 123, j 124, j 125, j 126, j 127, j 128, j 129, j 130, j 131, j 132], [.row 3 1 n (fun k => iV (u k)), .row 3 1 n (fun k => iV (v k))]⟩
def en49_6ve (n : Nat) (f : Nat → E6) (u v : Nat → Int) (i : Nat) : Ex × St := (.ex 6, ⟨[U, U, U, U, iV 0, iV 0, U, U, U, U, U, U, U, U, U, U, U, U, U, U, U, U, U, U, U, U, U, U, U, U, U, U, U, U, U, U, U, U, U, U, U, U, U, U, U, U, U, U, U, U, U, U, U, U, U, U, U, U, U, U, U, U, U, U, U, U, U, U, U, U, U, U, U, U, U, U, U, U, U, U, U, U, U, U, U, U, U, U, U, U, U, U, U, U, U, U, U, U, U, U, U, U, U, U, U, U, U, U, U, U, U, U, U, U, U, U, U, U, U, U, U, U, U, U, U, U, U, U, U, U, U, U, .und], []⟩)
def en49_6vc (n : Nat) (f : Nat → E6) (u v : Nat → Int) (i : Nat) : Ex × St := (.rt, ⟨[U, U, U, U, iV 45, iV (Int.ofNat i), U, U, U, U, U, U, U, U, U, U, U, U, U, U, U, U, U, U, U, U, U, U, U, U, U, U, U, U, U, U, U, U, U, U, U, U, U, U, U, U, U, U, U, U, U, U, U, U, U, U, U, U, U, U, U, U, U, U, U, U, U, U, U, U, U, U, U, U, U, U, U, U, U, U, U, U, U, U, U, U, U, U, U, U, U, U, U, U, U, U, U, U, U, U, U, U, U, U, U, U, U, U, U, U, U, U, U, U, U, U, U, U, U, U, U, U, U, U, U, U, U, U, U, U, U, U, .und], []⟩)
noncomputable def body49_6v (L : Nat → (St → T (Ex × St)) → St → T (Ex × St)) : St → T (Ex × St) := fun st => evalC tab ⟨callT tb49, L, Gl⟩ (loopBody Tryz.f17 6) 6 st
theorem re49ve (L : Nat → (St → T (Ex × St)) → St → T (Ex × St)) (n : Nat) (f : Nat → E6) (u v : Nat → Int) (i : Nat)  (j : Nat → V) (h0 : ilt (Int.ofNat i) (Int.ofNat n) = false) : ((body49_6v L (st49_6v n f u v i j)).bind fun r => T.leaf (cutR (lp49_6v n f) r)).sem = some ((.ex 6), ⟨[U, U, U, U, (iV 0), (iV 0), U, U, U, U, U, U, U, U, U, U, U, U, U, U, U, U, U, U, U, U, U, U, U, U, U, U, U, U, U, U, U, U, U, U, U, U, U, U, U, U, U, U, U, U, U, U, U, U, U, U, U, U, U, U, U, U, U, U, U, U, U, U, U, U, U, U, U, U, U, U, U, U, U, U, U, U, U, U, U, U, U, U, U, U, U, U, U, U, U, U, U, U, U, U, U, U, U, U, U, U, U, U, U, U, U, U, U, U, U, U, U, U, U, U, U, U, U, U, U, U, U, U, U, U, U, U, .und], []⟩) := by
  exact sem_of_path (ds := [false]) (cs := [(ilt (Int.ofNat i) (Int.ofNat n))]) (by kernel_rfl) (by simp only [h0] <;> rfl)
theorem re49vb (L : Nat → (St → T (Ex × St)) → St → T (Ex × St)) (n : Nat) (f : Nat → E6) (u v : Nat → Int) (i : Nat)  (j : Nat → V) (h0 : ilt (Int.ofNat i) (Int.ofNat n) = true) (h1 : band (ile 0 (Int.ofNat i)) (ilt (Int.ofNat i) (Int.ofNat n)) = true) (h14 : nlt i n = true) (h2 : nbeq n n = true) (h3 : smallN n = true) (h4 : ilt 12 (cntK n u (fun i => (bor (bnot Bool.false) (isW (f i)))) (u i)) = false) : ((body49_6v L (st49_6v n f u v i j)).bind fun r => T.leaf (cutR (lp49_6v n f) r)).sem = some (.nm, ⟨[U, (.sl 6 n (fun i => (eV (f i)))), U, U, (iV 0), (iV 0), (iV (Int.ofNat n)), U, U, U, U, U, U, (.ref 0), U, U, (iV (wr IntKind.i64 (iadd (Int.ofNat i) 1))), U, U, U, U, U, U, U, U, U, U, U, U, U, U, U, U, U, U, U, U, U, U, U, U, U, U, U, U, U, U, U, U, U, U, U, U, U, U, U, U, U, U, U, U, U, U, U, U, U, U, U, U, U, U, U, U, U, U, U, U, U, U, U, U, U, U, U, U, U, U, U, U, U, U, U, U, U, U, U, U, U, U, U, U, U, U, U, U, U, U, U, U, U, U, U, U, U, U, U, U, U, U, U, U, U, U, U, U, U, U, U, U, U, U, U, .und], [(.row 3 1 n (fun k => (iV (u k)))), (.row 3 1 n (fun k => (iV (v k))))]⟩) := by
  exact sem_of_path (ds := [true, true, true, true, true, true, true, false]) (cs := [(ilt (Int.ofNat i) (Int.ofNat n)), (band (ile 0 (Int.ofNat i)) (ilt (Int.ofNat i) (Int.ofNat n))), (nlt i n), (allN n (fun _ => Bool.true)), (allN n (fun _ => Bool.true)), (nbeq n n), (smallN n), (ilt 12 (cntK n u (fun i => (bor (bnot Bool.false) (isW (f i)))) (u i)))]) (by kernel_rfl) (by simp only [h1] <;> simp only [h0, h14, h2, h3, h4, allN_true] <;> rfl)
theorem re49vc (L : Nat → (St → T (Ex × St)) → St → T (Ex × St)) (n : Nat) (f : Nat → E6) (u v : Nat → Int) (i : Nat)  (j : Nat → V) (h0 : ilt (Int.ofNat i) (Int.ofNat n) = true) (h1 : band (ile 0 (Int.ofNat i)) (ilt (Int.ofNat i) (Int.ofNat n)) = true) (h14 : nlt i n = true) (h2 : nbeq n n = true) (h3 : smallN n = true) (h4 : ilt 12 (cntK n u (fun i => (bor (bnot Bool.false) (isW (f i)))) (u i)) = true) : ((body49_6v L (st49_6v n f u v i j)).bind fun r => T.leaf (cutR (lp49_6v n f) r)).sem = some (.rt, ⟨[U, U, U, U, (iV 45), (iV (Int.ofNat i)), U, U, U, U, U, U, U, U, U, U, U, U, U, U, U, U, U, U, U, U, U, U, U, U, U, U, U, U, U, U, U, U, U, U, U, U, U, U, U, U, U, U, U, U, U, U, U, U, U, U, U, U, U, U, U, U, U, U, U, U, U, U, U, U, U, U, U, U, U, U, U, U, U, U, U, U, U, U, U, U, U, U, U, U, U, U, U, U, U, U, U, U, U, U, U, U, U, U, U, U, U, U, U, U, U, U, U, U, U, U, U, U, U, U, U, U, U, U, U, U, U, U, U, U, U, U, .und], []⟩) := by
  exact sem_of_path (ds := [true, true, true, true, true, true, true, true]) (cs := [(ilt (Int.ofNat i) (Int.ofNat n)), (band (ile 0 (Int.ofNat i)) (ilt (Int.ofNat i) (Int.ofNat n))), (nlt i n), (allN n (fun _ => Bool.true)), (allN n (fun _ => Bool.true)), (nbeq n n), (smallN n), (ilt 12 (cntK n u (fun i => (bor (bnot Bool.false) (isW (f i)))) (u i)))]) (by kernel_rfl) (by simp only [h1] <;> simp only [h0, h14, h2, h3, h4, allN_true] <;> rfl)
def jk49_6v (n : Nat) (f : Nat → E6) (x y : Int) (i i2 : Nat) (u v : Nat → Int) (i4 : Nat) : Nat → V
  | 0 => .und
  | 2 => .und
  | 3 => .und
  | 7 => .und
  | 8 => .und
  | 9 => .und
  | 10 => .und
  | 11 => .und
  | 12 => .und
  | 14 => .und
  | 15 => .und
  | 17 => .und
  | 18 => .und
  | 19 => .und
  | 20 => .und
  | 21 => .und
  | 22 => .und
  | 23 => .und
  | 24 => .und
  | 25 => .und
  | 26 => .und
  | 27 => .und
  | 28 => .und
  | 29 => .und
  | 30 => .und
  | 31 => .und
  | 32 => .und
  | 33 => .und
  | 34 => .und
  | 35 => .und
  | 36 => .und
  | 37 => .und
  | 38 => .und
  | 39 => .und
  | 40 => .und
  | 41 => .und
  | 42 => .und
  | 43 => .und
  | 44 => .und
  | 45 => .und
  | 46 => .und
  | 47 => .und
  | 48 => .und
  | 49 => .und
  | 50 => .und
  | 51 => .und
  | 52 => .und
  | 53 => .und
  | 54 => .und
  | 55 => .und
  | 56 => .und
  | 57 => .und
  | 58 => .und
  | 59 => .und
  | 60 => .und
  | 61 => .und
  | 62 => .und
  | 63 => .und
  | 64 => .und
  | 65 => .und
  | 66 => .und
  | 67 => .und
  | 68 => .und
  | 69 => .und
  | 70 => .und
  | 71 => .und
  | 72 => .und
  | 73 => .und
  | 74 => .und
  | 75 => .und
  | 76 => .und
  | 77 => .und
  | 78 => .und
  | 79 => .und
  | 80 => .und
  | 81 => .und
  | 82 => .und
  | 83 => .und
  | 84 => .und
  | 85 => .und
  | 86 => .und
  | 87 => .und
  | 88 => .und
  | 89 => .und
  | 90 => .und
  | 91 => .und
  | 92 => .und
  | 93 => .und
  | 94 => .und
  | 95 => .und
  | 96 => .und
  | 97 => .und
  | 98 => .und
  | 99 => .und
  | 100 => .und
  | 101 => .und
  | 102 => .und
  | 103 => .und
  | 104 => .und
  | 105 => .und
  | 106 => .und
  | 107 => .und
  | 108 => .und
  | 109 => .und
  | 110 => .und
  | 111 => .und
  | 112 => .und
  | 113 => .und
  | 114 => .und
  | 115 => .und
  | 116 => .und
  | 117 => .und
  | 118 => .und
  | 119 => .und
  | 120 => .und
  | 121 => .und
  | 122 => .und
  | 123 => .und
  | 124 => .und
  | 125 => .und
  | 126 => .und
  | 127 => .und
  | 128 => .und
  | 129 => .und
  | 130 => .und
  | 131 => .und
  | 132 => .und
  | _ => undefV

theorem wc49vf (L : Nat → (St → T (Ex × St)) → St → T (Ex × St)) (p0 : (St → T (Ex × St)) → St → Bool) (n : Nat) (f : Nat → E6) (x y : Int) (i : Nat) (h0 : ilt (Int.ofNat n) 2 = false) (h1 : ilt 16 (Int.ofNat n) = false) (hp0 : p0 (body49v (onP 0 p0 (en49vf n f x y i) L)) (st49v n f 0 0 0 (jk49v n f )) = true) : (finF (evalF tab ⟨callT tb49, (onP 0 p0 (en49vf n f x y i) L), Gl⟩ Tryz.f17 [iV 2, edgesV n f] [])).sem = some ((.tup [(iV 30), (iV (Int.ofNat i))]), []) := by
  exact sem_of_path (ds := [true, true, true, false, false, false, false, false, true]) (cs := [(bnot (ieq 2 1)), (bnot (ieq 2 1)), (bnot (ieq 2 1)), (bnot (ieq 2 2)), (ilt (Int.ofNat n) 2), (ilt (Int.ofNat n) 2), (ilt (Int.ofNat n) 2), (ilt 16 (Int.ofNat n)), (p0 (body49v (onP 0 p0 (en49vf n f x y i) L)) (st49v n f 0 0 0 (jk49v n f )))]) (by kernel_rfl) (by simp only [hp0] <;> simp only [h0, h1] <;> rfl)

theorem wc49vl (L : Nat → (St → T (Ex × St)) → St → T (Ex × St)) (p0 : (St → T (Ex × St)) → St → Bool) (n : Nat) (f : Nat → E6) (x y : Int) (i : Nat) (h0 : ilt (Int.ofNat n) 2 = false) (h1 : ilt 16 (Int.ofNat n) = false) (hp0 : p0 (body49v (onP 0 p0 (en49vl n f x y i) L)) (st49v n f 0 0 0 (jk49v n f )) = true) : (finF (evalF tab ⟨callT tb49, (onP 0 p0 (en49vl n f x y i) L), Gl⟩ Tryz.f17 [iV 2, edgesV n f] [])).sem = some ((.tup [(iV 5), (iV (Int.ofNat i))]), []) := by
  exact sem_of_path (ds := [true, true, true, false, false, false, false, false, true]) (cs := [(bnot (ieq 2 1)), (bnot (ieq 2 1)), (bnot (ieq 2 1)), (bnot (ieq 2 2)), (ilt (Int.ofNat n) 2), (ilt (Int.ofNat n) 2), (ilt (Int.ofNat n) 2), (ilt 16 (Int.ofNat n)), (p0 (body49v (onP 0 p0 (en49vl n f x y i) L)) (st49v n f 0 0 0 (jk49v n f )))]) (by kernel_rfl) (by simp only [hp0] <;> simp only [h0, h1] <;> rfl)

theorem wc49vm (L : Nat → (St → T (Ex × St)) → St → T (Ex × St)) (p0 : (St → T (Ex × St)) → St → Bool) (p2 : (St → T (Ex × St)) → St → Bool) (n : Nat) (f : Nat → E6) (x y : Int) (i : Nat) (i2 : Nat) (h0 : ilt (Int.ofNat n) 2 = false) (h1 : ilt 16 (Int.ofNat n) = false) (hp0 : p0 (body49v (onP 0 p0 (en49ve n f x y i) (onP 2 p2 (en49_2vm n f x y i2) L))) (st49v n f 0 0 0 (jk49v n f )) = true) (hp2 : p2 (body49_2v (onP 0 p0 (en49ve n f x y i) (onP 2 p2 (en49_2vm n f x y i2) L))) (st49_2v n f x y 0 (jk49_2v n f x y i)) = true) : (finF (evalF tab ⟨callT tb49, (onP 0 p0 (en49ve n f x y i) (onP 2 p2 (en49_2vm n f x y i2) L)), Gl⟩ Tryz.f17 [iV 2, edgesV n f] [])).sem = some ((.tup [(iV 41), (iV (Int.ofNat i2))]), []) := by
  exact sem_of_path (ds := [true, true, true, false, false, false, false, false, true, true]) (cs := [(bnot (ieq 2 1)), (bnot (ieq 2 1)), (bnot (ieq 2 1)), (bnot (ieq 2 2)), (ilt (Int.ofNat n) 2), (ilt (Int.ofNat n) 2), (ilt (Int.ofNat n) 2), (ilt 16 (Int.ofNat n)), (p0 (body49v (onP 0 p0 (en49ve n f x y i) (onP 2 p2 (en49_2vm n f x y i2) L))) (st49v n f 0 0 0 (jk49v n f ))), (p2 (body49_2v (onP 0 p0 (en49ve n f x y i) (onP 2 p2 (en49_2vm n f x y i2) L))) (st49_2v n f x y 0 (jk49_2v n f x y i)))]) (by kernel_rfl) (by simp only [hp0, hp2] <;> simp only [h0, h1] <;> rfl)

theorem wc49vo (L : Nat → (St → T (Ex × St)) → St → T (Ex × St)) (p0 : (St → T (Ex × St)) → St → Bool) (p2 : (St → T (Ex × St)) → St → Bool) (n : Nat) (f : Nat → E6) (x y : Int) (i : Nat) (i2 : Nat) (h0 : ilt (Int.ofNat n) 2 = false) (h1 : ilt 16 (Int.ofNat n) = false) (h2 : ilt x 2 = true) (hp0 : p0 (body49v (onP 0 p0 (en49ve n f x y i) (onP 2 p2 (en49_2ve n f x y i2) L))) (st49v n f 0 0 0 (jk49v n f )) = true) (hp2 : p2 (body49_2v (onP 0 p0 (en49ve n f x y i) (onP 2 p2 (en49_2ve n f x y i2) L))) (st49_2v n f x y 0 (jk49_2v n f x y i)) = true) : (finF (evalF tab ⟨callT tb49, (onP 0 p0 (en49ve n f x y i) (onP 2 p2 (en49_2ve n f x y i2) L)), Gl⟩ Tryz.f17 [iV 2, edgesV n f] [])).sem = some ((.tup [(iV 42), (iV 0)]), []) := by
  exact sem_of_path (ds := [true, true, true, false, false, false, false, false, true, true, true]) (cs := [(bnot (ieq 2 1)), (bnot (ieq 2 1)), (bnot (ieq 2 1)), (bnot (ieq 2 2)), (ilt (Int.ofNat n) 2), (ilt (Int.ofNat n) 2), (ilt (Int.ofNat n) 2), (ilt 16 (Int.ofNat n)), (p0 (body49v (onP 0 p0 (en49ve n f x y i) (onP 2 p2 (en49_2ve n f x y i2) L))) (st49v n f 0 0 0 (jk49v n f ))), (p2 (body49_2v (onP 0 p0 (en49ve n f x y i) (onP 2 p2 (en49_2ve n f x y i2) L))) (st49_2v n f x y 0 (jk49_2v n f x y i))), (ilt x 2)]) (by kernel_rfl) (by simp only [hp0, hp2] <;> simp only [h0, h1, h2] <;> rfl)

theorem wc49vv (L : Nat → (St → T (Ex × St)) → St → T (Ex × St)) (p0 : (St → T (Ex × St)) → St → Bool) (p2 : (St → T (Ex × St)) → St → Bool) (n : Nat) (f : Nat → E6) (x y : Int) (i : Nat) (i2 : Nat) (h0 : ilt (Int.ofNat n) 2 = false) (h1 : ilt 16 (Int.ofNat n) = false) (h2 : ilt x 2 = false) (h3 : ilt y 2 = true) (hp0 : p0 (body49v (onP 0 p0 (en49ve n f x y i) (onP 2 p2 (en49_2ve n f x y i2) L))) (st49v n f 0 0 0 (jk49v n f )) = true) (hp2 : p2 (body49_2v (onP 0 p0 (en49ve n f x y i) (onP 2 p2 (en49_2ve n f x y i2) L))) (st49_2v n f x y 0 (jk49_2v n f x y i)) = true) : (finF (evalF tab ⟨callT tb49, (onP 0 p0 (en49ve n f x y i) (onP 2 p2 (en49_2ve n f x y i2) L)), Gl⟩ Tryz.f17 [iV 2, edgesV n f] [])).sem = some ((.tup [(iV 43), (iV 0)]), []) := by
  exact sem_of_path (ds := [true, true, true, false, false, false, false, false, true, true, false, true]) (cs := [(bnot (ieq 2 1)), (bnot (ieq 2 1)), (bnot (ieq 2 1)), (bnot (ieq 2 2)), (ilt (Int.ofNat n) 2), (ilt (Int.ofNat n) 2), (ilt (Int.ofNat n) 2), (ilt 16 (Int.ofNat n)), (p0 (body49v (onP 0 p0 (en49ve n f x y i) (onP 2 p2 (en49_2ve n f x y i2) L))) (st49v n f 0 0 0 (jk49v n f ))), (p2 (body49_2v (onP 0 p0 (en49ve n f x y i) (onP 2 p2 (en49_2ve n f x y i2) L))) (st49_2v n f x y 0 (jk49_2v n f x y i))), (ilt x 2), (ilt y 2)]) (by kernel_rfl) (by simp only [hp0, hp2] <;> simp only [h0, h1, h2, h3] <;> rfl)

theorem wc49vw (L : Nat → (St → T (Ex × St)) → St → T (Ex × St)) (p0 : (St → T (Ex × St)) → St → Bool) (p2 : (St → T (Ex × St)) → St → Bool) (p4 : (St → T (Ex × St)) → St → Bool) (n : Nat) (f : Nat → E6) (x y : Int) (i : Nat) (i2 i4 : Nat) (h0 : ilt (Int.ofNat n) 2 = false) (h1 : ilt 16 (Int.ofNat n) = false) (h2 : ilt x 2 = false) (h3 : ilt y 2 = false) (h4 : fitN n = true) (hp0 : p0 (body49v (onP 0 p0 (en49ve n f x y i) (onP 2 p2 (en49_2ve n f x y i2) (onP 4 p4 (en49_4vw n f (fun k => partF (fun k => outB (f k)) n k) (fun k => partF (fun k => movB (f k)) n k) i4) L)))) (st49v n f 0 0 0 (jk49v n f )) = true) (hp2 : p2 (body49_2v (onP 0 p0 (en49ve n f x y i) (onP 2 p2 (en49_2ve n f x y i2) (onP 4 p4 (en49_4vw n f (fun k => partF (fun k => outB (f k)) n k) (fun k => partF (fun k => movB (f k)) n k) i4) L)))) (st49_2v n f x y 0 (jk49_2v n f x y i)) = true) (hp4 : p4 (body49_4v (onP 0 p0 (en49ve n f x y i) (onP 2 p2 (en49_2ve n f x y i2) (onP 4 p4 (en49_4vw n f (fun k => partF (fun k => outB (f k)) n k) (fun k => partF (fun k => movB (f k)) n k) i4) L)))) (st49_4v n f (fun k => partF (fun k => outB (f k)) n k) (fun k => partF (fun k => movB (f k)) n k) 0 (jk49_4v n f x y i i2)) = true) : (finF (evalF tab ⟨callT tb49, (onP 0 p0 (en49ve n f x y i) (onP 2 p2 (en49_2ve n f x y i2) (onP 4 p4 (en49_4vw n f (fun k => partF (fun k => outB (f k)) n k) (fun k => partF (fun k => movB (f k)) n k) i4) L))), Gl⟩ Tryz.f17 [iV 2, edgesV n f] [])).sem = some ((.tup [(iV 44), (iV (Int.ofNat i4))]), []) := by
  exact sem_of_path (ds := [true, true, true, false, false, false, false, false, true, true, false, false, true, true, true, true, true]) (cs := [(bnot (ieq 2 1)), (bnot (ieq 2 1)), (bnot (ieq 2 1)), (bnot (ieq 2 2)), (ilt (Int.ofNat n) 2), (ilt (Int.ofNat n) 2), (ilt (Int.ofNat n) 2), (ilt 16 (Int.ofNat n)), (p0 (body49v (onP 0 p0 (en49ve n f x y i) (onP 2 p2 (en49_2ve n f x y i2) (onP 4 p4 (en49_4vw n f (fun k => partF (fun k => outB (f k)) n k) (fun k => partF (fun k => movB (f k)) n k) i4) L)))) (st49v n f 0 0 0 (jk49v n f ))), (p2 (body49_2v (onP 0 p0 (en49ve n f x y i) (onP 2 p2 (en49_2ve n f x y i2) (onP 4 p4 (en49_4vw n f (fun k => partF (fun k => outB (f k)) n k) (fun k => partF (fun k => movB (f k)) n k) i4) L)))) (st49_2v n f x y 0 (jk49_2v n f x y i))), (ilt x 2), (ilt y 2), (allN n (fun _ => Bool.true)), (fitN n), (allN n (fun _ => Bool.true)), (fitN n), (p4 (body49_4v (onP 0 p0 (en49ve n f x y i) (onP 2 p2 (en49_2ve n f x y i2) (onP 4 p4 (en49_4vw n f (fun k => partF (fun k => outB (f k)) n k) (fun k => partF (fun k => movB (f k)) n k) i4) L)))) (st49_4v n f (fun k => partF (fun k => outB (f k)) n k) (fun k => partF (fun k => movB (f k)) n k) 0 (jk49_4v n f x y i i2)))]) (by kernel_rfl) (by simp only [hp0, hp2, hp4] <;> simp only [h0, h1, h2, h3, h4, allN_true] <;> rfl)

theorem wc49vc (L : Nat → (St → T (Ex × St)) → St → T (Ex × St)) (p0 : (St → T (Ex × St)) → St → Bool) (p2 : (St → T (Ex × St)) → St → Bool) (p4 : (St → T (Ex × St)) → St → Bool) (p6 : (St → T (Ex × St)) → St → Bool) (n : Nat) (f : Nat → E6) (x y : Int) (i : Nat) (i2 i4 i6 : Nat) (h0 : ilt (Int.ofNat n) 2 = false) (h1 : ilt 16 (Int.ofNat n) = false) (h2 : ilt x 2 = false) (h3 : ilt y 2 = false) (h4 : fitN n = true) (hp0 : p0 (body49v (onP 0 p0 (en49ve n f x y i) (onP 2 p2 (en49_2ve n f x y i2) (onP 4 p4 (en49_4ve n f (fun k => partF (fun k => outB (f k)) n k) (fun k => partF (fun k => movB (f k)) n k) i4) (onP 6 p6 (en49_6vc n f (fun k => partF (fun k => outB (f k)) n k) (fun k => partF (fun k => movB (f k)) n k) i6) L))))) (st49v n f 0 0 0 (jk49v n f )) = true) (hp2 : p2 (body49_2v (onP 0 p0 (en49ve n f x y i) (onP 2 p2 (en49_2ve n f x y i2) (onP 4 p4 (en49_4ve n f (fun k => partF (fun k => outB (f k)) n k) (fun k => partF (fun k => movB (f k)) n k) i4) (onP 6 p6 (en49_6vc n f (fun k => partF (fun k => outB (f k)) n k) (fun k => partF (fun k => movB (f k)) n k) i6) L))))) (st49_2v n f x y 0 (jk49_2v n f x y i)) = true) (hp4 : p4 (body49_4v (onP 0 p0 (en49ve n f x y i) (onP 2 p2 (en49_2ve n f x y i2) (onP 4 p4 (en49_4ve n f (fun k => partF (fun k => outB (f k)) n k) (fun k => partF (fun k => movB (f k)) n k) i4) (onP 6 p6 (en49_6vc n f (fun k => partF (fun k => outB (f k)) n k) (fun k => partF (fun k => movB (f k)) n k) i6) L))))) (st49_4v n f (fun k => partF (fun k => outB (f k)) n k) (fun k => partF (fun k => movB (f k)) n k) 0 (jk49_4v n f x y i i2)) = true) (hp6 : p6 (body49_6v (onP 0 p0 (en49ve n f x y i) (onP 2 p2 (en49_2ve n f x y i2) (onP 4 p4 (en49_4ve n f (fun k => partF (fun k => outB (f k)) n k) (fun k => partF (fun k => movB (f k)) n k) i4) (onP 6 p6 (en49_6vc n f (fun k => partF (fun k => outB (f k)) n k) (fun k => partF (fun k => movB (f k)) n k) i6) L))))) (st49_6v n f (fun k => partF (fun k => outB (f k)) n k) (fun k => partF (fun k => movB (f k)) n k) 0 (jk49_6v n f x y i i2 (fun k => partF (fun k => outB (f k)) n k) (fun k => partF (fun k => movB (f k)) n k) i4)) = true) : (finF (evalF tab ⟨callT tb49, (onP 0 p0 (en49ve n f x y i) (onP 2 p2 (en49_2ve n f x y i2) (onP 4 p4 (en49_4ve n f (fun k => partF (fun k => outB (f k)) n k) (fun k => partF (fun k => movB (f k)) n k) i4) (onP 6 p6 (en49_6vc n f (fun k => partF (fun k => outB (f k)) n k) (fun k => partF (fun k => movB (f k)) n k) i6) L)))), Gl⟩ Tryz.f17 [iV 2, edgesV n f] [])).sem = some ((.tup [(iV 45), (iV (Int.ofNat i6))]), []) := by
  exact sem_of_path (ds := [true, true, true, false, false, false, false, false, true, true, false, false, true, true, true, true, true, true]) (cs := [(bnot (ieq 2 1)), (bnot (ieq 2 1)), (bnot (ieq 2 1)), (bnot (ieq 2 2)), (ilt (Int.ofNat n) 2), (ilt (Int.ofNat n) 2), (ilt (Int.ofNat n) 2), (ilt 16 (Int.ofNat n)), (p0 (body49v (onP 0 p0 (en49ve n f x y i) (onP 2 p2 (en49_2ve n f x y i2) (onP 4 p4 (en49_4ve n f (fun k => partF (fun k => outB (f k)) n k) (fun k => partF (fun k => movB (f k)) n k) i4) (onP 6 p6 (en49_6vc n f (fun k => partF (fun k => outB (f k)) n k) (fun k => partF (fun k => movB (f k)) n k) i6) L))))) (st49v n f 0 0 0 (jk49v n f ))), (p2 (body49_2v (onP 0 p0 (en49ve n f x y i) (onP 2 p2 (en49_2ve n f x y i2) (onP 4 p4 (en49_4ve n f (fun k => partF (fun k => outB (f k)) n k) (fun k => partF (fun k => movB (f k)) n k) i4) (onP 6 p6 (en49_6vc n f (fun k => partF (fun k => outB (f k)) n k) (fun k => partF (fun k => movB (f k)) n k) i6) L))))) (st49_2v n f x y 0 (jk49_2v n f x y i))), (ilt x 2), (ilt y 2), (allN n (fun _ => Bool.true)), (fitN n), (allN n (fun _ => Bool.true)), (fitN n), (p4 (body49_4v (onP 0 p0 (en49ve n f x y i) (onP 2 p2 (en49_2ve n f x y i2) (onP 4 p4 (en49_4ve n f (fun k => partF (fun k => outB (f k)) n k) (fun k => partF (fun k => movB (f k)) n k) i4) (onP 6 p6 (en49_6vc n f (fun k => partF (fun k => outB (f k)) n k) (fun k => partF (fun k => movB (f k)) n k) i6) L))))) (st49_4v n f (fun k => partF (fun k => outB (f k)) n k) (fun k => partF (fun k => movB (f k)) n k) 0 (jk49_4v n f x y i i2))), (p6 (body49_6v (onP 0 p0 (en49ve n f x y i) (onP 2 p2 (en49_2ve n f x y i2) (onP 4 p4 (en49_4ve n f (fun k => partF (fun k => outB (f k)) n k) (fun k => partF (fun k => movB (f k)) n k) i4) (onP 6 p6 (en49_6vc n f (fun k => partF (fun k => outB (f k)) n k) (fun k => partF (fun k => movB (f k)) n k) i6) L))))) (st49_6v n f (fun k => partF (fun k => outB (f k)) n k) (fun k => partF (fun k => movB (f k)) n k) 0 (jk49_6v n f x y i i2 (fun k => partF (fun k => outB (f k)) n k) (fun k => partF (fun k => movB (f k)) n k) i4)))]) (by kernel_rfl) (by simp only [hp0, hp2, hp4, hp6] <;> simp only [h0, h1, h2, h3, h4, allN_true] <;> rfl)

theorem wc49vz (L : Nat → (St → T (Ex × St)) → St → T (Ex × St)) (p0 : (St → T (Ex × St)) → St → Bool) (p2 : (St → T (Ex × St)) → St → Bool) (p4 : (St → T (Ex × St)) → St → Bool) (p6 : (St → T (Ex × St)) → St → Bool) (n : Nat) (f : Nat → E6) (x y : Int) (i : Nat) (i2 i4 i6 : Nat) (h0 : ilt (Int.ofNat n) 2 = false) (h1 : ilt 16 (Int.ofNat n) = false) (h2 : ilt x 2 = false) (h3 : ilt y 2 = false) (h4 : fitN n = true) (hp0 : p0 (body49v (onP 0 p0 (en49ve n f x y i) (onP 2 p2 (en49_2ve n f x y i2) (onP 4 p4 (en49_4ve n f (fun k => partF (fun k => outB (f k)) n k) (fun k => partF (fun k => movB (f k)) n k) i4) (onP 6 p6 (en49_6ve n f (fun k => partF (fun k => outB (f k)) n k) (fun k => partF (fun k => movB (f k)) n k) i6) L))))) (st49v n f 0 0 0 (jk49v n f )) = true) (hp2 : p2 (body49_2v (onP 0 p0 (en49ve n f x y i) (onP 2 p2 (en49_2ve n f x y i2) (onP 4 p4 (en49_4ve n f (fun k => partF (fun k => outB (f k)) n k) (fun k => partF (fun k => movB (f k)) n k) i4) (onP 6 p6 (en49_6ve n f (fun k => partF (fun k => outB (f k)) n k) (fun k => partF (fun k => movB (f k)) n k) i6) L))))) (st49_2v n f x y 0 (jk49_2v n f x y i)) = true) (hp4 : p4 (body49_4v (onP 0 p0 (en49ve n f x y i) (onP 2 p2 (en49_2ve n f x y i2) (onP 4 p4 (en49_4ve n f (fun k => partF (fun k => outB (f k)) n k) (fun k => partF (fun k => movB (f k)) n k) i4) (onP 6 p6 (en49_6ve n f (fun k => partF (fun k => outB (f k)) n k) (fun k => partF (fun k => movB (f k)) n k) i6) L))))) (st49_4v n f (fun k => partF (fun k => outB (f k)) n k) (fun k => partF (fun k => movB (f k)) n k) 0 (jk49_4v n f x y i i2)) = true) (hp6 : p6 (body49_6v (onP 0 p0 (en49ve n f x y i) (onP 2 p2 (en49_2ve n f x y i2) (onP 4 p4 (en49_4ve n f (fun k => partF (fun k => outB (f k)) n k) (fun k => partF (fun k => movB (f k)) n k) i4) (onP 6 p6 (en49_6ve n f (fun k => partF (fun k => outB (f k)) n k) (fun k => partF (fun k => movB (f k)) n k) i6) L))))) (st49_6v n f (fun k => partF (fun k => outB (f k)) n k) (fun k => partF (fun k => movB (f k)) n k) 0 (jk49_6v n f x y i i2 (fun k => partF (fun k => outB (f k)) n k) (fun k => partF (fun k => movB (f k)) n k) i4)) = true) : (finF (evalF tab ⟨callT tb49, (onP 0 p0 (en49ve n f x y i) (onP 2 p2 (en49_2ve n f x y i2) (onP 4 p4 (en49_4ve n f (fun k => partF (fun k => outB (f k)) n k) (fun k => partF (fun k => movB (f k)) n k) i4) (onP 6 p6 (en49_6ve n f (fun k => partF (fun k => outB (f k)) n k) (fun k => partF (fun k => movB (f k)) n k) i6) L)))), Gl⟩ Tryz.f17 [iV 2, edgesV n f] [])).sem = some ((.tup [(iV 0), (iV 0)]), []) := by
  exact sem_of_path (ds := [true, true, true, false, false, false, false, false, true, true, false, false, true, true, true, true, true, true]) (cs := [(bnot (ieq 2 1)), (bnot (ieq 2 1)), (bnot (ieq 2 1)), (bnot (ieq 2 2)), (ilt (Int.ofNat n) 2), (ilt (Int.ofNat n) 2), (ilt (Int.ofNat n) 2), (ilt 16 (Int.ofNat n)), (p0 (body49v (onP 0 p0 (en49ve n f x y i) (onP 2 p2 (en49_2ve n f x y i2) (onP 4 p4 (en49_4ve n f (fun k => partF (fun k => outB (f k)) n k) (fun k => partF (fun k => movB (f k)) n k) i4) (onP 6 p6 (en49_6ve n f (fun k => partF (fun k => outB (f k)) n k) (fun k => partF (fun k => movB (f k)) n k) i6) L))))) (st49v n f 0 0 0 (jk49v n f ))), (p2 (body49_2v (onP 0 p0 (en49ve n f x y i) (onP 2 p2 (en49_2ve n f x y i2) (onP 4 p4 (en49_4ve n f (fun k => partF (fun k => outB (f k)) n k) (fun k => partF (fun k => movB (f k)) n k) i4) (onP 6 p6 (en49_6ve n f (fun k => partF (fun k => outB (f k)) n k) (fun k => partF (fun k => movB (f k)) n k) i6) L))))) (st49_2v n f x y 0 (jk49_2v n f x y i))), (ilt x 2), (ilt y 2), (allN n (fun _ => Bool.true)), (fitN n), (allN n (fun _ => Bool.true)), (fitN n), (p4 (body49_4v (onP 0 p0 (en49ve n f x y i) (onP 2 p2 (en49_2ve n f x y i2) (onP 4 p4 (en49_4ve n f (fun k => partF (fun k => outB (f k)) n k) (fun k => partF (fun k => movB (f k)) n k) i4) (onP 6 p6 (en49_6ve n f (fun k => partF (fun k => outB (f k)) n k) (fun k => partF (fun k => movB (f k)) n k) i6) L))))) (st49_4v n f (fun k => partF (fun k => outB (f k)) n k) (fun k => partF (fun k => movB (f k)) n k) 0 (jk49_4v n f x y i i2))), (p6 (body49_6v (onP 0 p0 (en49ve n f x y i) (onP 2 p2 (en49_2ve n f x y i2) (onP 4 p4 (en49_4ve n f (fun k => partF (fun k => outB (f k)) n k) (fun k => partF (fun k => movB (f k)) n k) i4) (onP 6 p6 (en49_6ve n f (fun k => partF (fun k => outB (f k)) n k) (fun k => partF (fun k => movB (f k)) n k) i6) L))))) (st49_6v n f (fun k => partF (fun k => outB (f k)) n k) (fun k => partF (fun k => movB (f k)) n k) 0 (jk49_6v n f x y i i2 (fun k => partF (fun k => outB (f k)) n k) (fun k => partF (fun k => movB (f k)) n k) i4)))]) (by kernel_rfl) (by simp only [hp0, hp2, hp4, hp6] <;> simp only [h0, h1, h2, h3, h4, allN_true] <;> rfl)

theorem wc49vs (L : Nat → (St → T (Ex × St)) → St → T (Ex × St)) (n : Nat) (f : Nat → E6) (h0 : ilt (Int.ofNat n) 2 = true) : (finF (evalF tab ⟨callT tb49, L, Gl⟩ Tryz.f17 [iV 2, edgesV n f] [])).sem = some ((.tup [(iV 40), (iV 0)]), []) := by
  exact sem_of_path (ds := [true, true, true, false, true, true, true, true]) (cs := [(bnot (ieq 2 1)), (bnot (ieq 2 1)), (bnot (ieq 2 1)), (bnot (ieq 2 2)), (ilt (Int.ofNat n) 2), (ilt (Int.ofNat n) 2), (ilt (Int.ofNat n) 2), Bool.true]) (by kernel_rfl) (by simp only [h0] <;> rfl)

theorem wc49vt (L : Nat → (St → T (Ex × St)) → St → T (Ex × St)) (n : Nat) (f : Nat → E6) (h0 : ilt (Int.ofNat n) 2 = false) (h1 : ilt 16 (Int.ofNat n) = true) : (finF (evalF tab ⟨callT tb49, L, Gl⟩ Tryz.f17 [iV 2, edgesV n f] [])).sem = some ((.tup [(iV 40), (iV 0)]), []) := by
  exact sem_of_path (ds := [true, true, true, false, false, false, false, true]) (cs := [(bnot (ieq 2 1)), (bnot (ieq 2 1)), (bnot (ieq 2 1)), (bnot (ieq 2 2)), (ilt (Int.ofNat n) 2), (ilt (Int.ofNat n) 2), (ilt (Int.ofNat n) 2), (ilt 16 (Int.ofNat n))]) (by kernel_rfl) (by simp only [h0, h1] <;> rfl)

theorem run49v (L : Nat → (St → T (Ex × St)) → St → T (Ex × St)) (n : Nat) (f : Nat → E6) (hn : n ≤ 4611686018427387904) : ∀ (d i : Nat) (j : Nat → V) (q : Nat), n = i + d → d < q →
    (iterT (body49v L) (lp49v n f) q (st49v n f (Int.ofNat (cntB (fun k => outB (f k)) i)) (Int.ofNat (cntB (fun k => movB (f k)) i)) i j)).sem = some (match firstQ (badL 2 f) d i with
      | none => en49ve n f (Int.ofNat (cntB (fun k => outB (f k)) n)) (Int.ofNat (cntB (fun k => movB (f k)) n)) n
      | some t => match ieq (legF 2 (f t)) 0 with
        | false => en49vf n f (Int.ofNat (cntB (fun k => outB (f k)) t)) (Int.ofNat (cntB (fun k => movB (f k)) t)) t
        | true => en49vl n f (Int.ofNat (cntB (fun k => outB (f k)) t)) (Int.ofNat (cntB (fun k => movB (f k)) t)) t)
  | 0, i, j, q + 1, h, _ => by
    have : n = i := by omega
    subst this
    exact iter_round (ra49ve L n f (Int.ofNat (cntB (fun k => outB (f k)) n)) (Int.ofNat (cntB (fun k => movB (f k)) n)) n j (ofNat_ge (Nat.le_refl _)))
  | d + 1, i, j, q + 1, h, h2 => by
    have hl : i < n := by omega
    have ho := cntB_le (fun k => outB (f k)) i
    have hm := cntB_le (fun k => movB (f k)) i
    cases c1 : ieq (codeF (f i)) 0 with
    | false =>
      have c1' : ieq (legF 2 (f i)) 0 = false := c1
      rw [firstQ_t (show badL 2 f i = true by rw [badL, c1']; rfl)]
      simp only [c1']
      exact iter_round (ra49vf L n f (Int.ofNat (cntB (fun k => outB (f k)) i)) (Int.ofNat (cntB (fun k => movB (f k)) i)) i j (ofNat_lt hl) (ofNat_in hl) c1)
    | true =>
      have c1' : ieq (legF 2 (f i)) 0 = true := c1
      cases c2 : legR 2 (f i) with
      | false =>
        rw [firstQ_t (show badL 2 f i = true by rw [badL, c1', c2]; rfl)]
        simp only [c1']
        exact iter_round (ra49vl L n f (Int.ofNat (cntB (fun k => outB (f k)) i)) (Int.ofNat (cntB (fun k => movB (f k)) i)) i j (ofNat_lt hl) (ofNat_in hl) c1 c2)
      | true =>
        cases c3 : outB (f i) with
        | false =>
          cases c4 : movB (f i) with
          | false =>
            rw [firstQ_f (show badL 2 f i = false by rw [badL, show ieq (legF 2 (f i)) 0 = true from c1, c2]; rfl), iter_round (ra49voo L n f (Int.ofNat (cntB (fun k => outB (f k)) i)) (Int.ofNat (cntB (fun k => movB (f k)) i)) i j (ofNat_lt hl) (ofNat_in hl) c1 c2 c3 c4), goOn_nm, succ_wr hl hn, ← cntB_f (p := (fun k => outB (f k))) c3, ← cntB_f (p := (fun k => movB (f k))) c4]
            exact run49v L n f hn d (i + 1) (fun _ => .und) q (by omega) (by omega)
          | true =>
            rw [firstQ_f (show badL 2 f i = false by rw [badL, show ieq (legF 2 (f i)) 0 = true from c1, c2]; rfl), iter_round (ra49vom L n f (Int.ofNat (cntB (fun k => outB (f k)) i)) (Int.ofNat (cntB (fun k => movB (f k)) i)) i j (ofNat_lt hl) (ofNat_in hl) c1 c2 c3 c4), goOn_nm, succ_wr hl hn, succ_wr (show cntB (fun k => movB (f k)) i < n by omega) hn, ← cntB_f (p := (fun k => outB (f k))) c3, ← cntB_t (p := (fun k => movB (f k))) c4]
            exact run49v L n f hn d (i + 1) (fun _ => .und) q (by omega) (by omega)
        | true =>
          cases c4 : movB (f i) with
          | false =>
            rw [firstQ_f (show badL 2 f i = false by rw [badL, show ieq (legF 2 (f i)) 0 = true from c1, c2]; rfl), iter_round (ra49vxo L n f (Int.ofNat (cntB (fun k => outB (f k)) i)) (Int.ofNat (cntB (fun k => movB (f k)) i)) i j (ofNat_lt hl) (ofNat_in hl) c1 c2 c3 c4), goOn_nm, succ_wr hl hn, succ_wr (show cntB (fun k => outB (f k)) i < n by omega) hn, ← cntB_t (p := (fun k => outB (f k))) c3, ← cntB_f (p := (fun k => movB (f k))) c4]
            exact run49v L n f hn d (i + 1) (fun _ => .und) q (by omega) (by omega)
          | true =>
            rw [firstQ_f (show badL 2 f i = false by rw [badL, show ieq (legF 2 (f i)) 0 = true from c1, c2]; rfl), iter_round (ra49vxm L n f (Int.ofNat (cntB (fun k => outB (f k)) i)) (Int.ofNat (cntB (fun k => movB (f k)) i)) i j (ofNat_lt hl) (ofNat_in hl) c1 c2 c3 c4), goOn_nm, succ_wr hl hn, succ_wr (show cntB (fun k => outB (f k)) i < n by omega) hn, succ_wr (show cntB (fun k => movB (f k)) i < n by omega) hn, ← cntB_t (p := (fun k => outB (f k))) c3, ← cntB_t (p := (fun k => movB (f k))) c4]
            exact run49v L n f hn d (i + 1) (fun _ => .und) q (by omega) (by omega)

theorem run49bv (L : Nat → (St → T (Ex × St)) → St → T (Ex × St)) (n : Nat) (f : Nat → E6) (x y : Int) (hn : n ≤ 4611686018427387904) : ∀ (d i : Nat) (j : Nat → V) (q : Nat), n = i + d → d < q →
    (iterT (body49_2v L) (lp49_2v n f) q (st49_2v n f x y i j)).sem = some (match firstQ (badM n f) d i with
      | none => en49_2ve n f x y 0
      | some t => en49_2vm n f x y t)
  | 0, i, j, q + 1, h, _ => by
    have : n = i := by omega
    subst this
    exact iter_round (rb49ve L n f x y n j (ofNat_ge (Nat.le_refl _)))
  | d + 1, i, j, q + 1, h, h2 => by
    have hl : i < n := by omega
    have e1 := next_mod hl hn
    have hb : band (ile 0 (itmod (wr IntKind.i64 (iadd (Int.ofNat i) 1)) (Int.ofNat n))) (ilt (itmod (wr IntKind.i64 (iadd (Int.ofNat i) 1)) (Int.ofNat n)) (Int.ofNat n)) = true := by
      rw [e1]; exact ofNat_in (Nat.mod_lt _ (by omega))
    have e2 : toN (Int.ofNat ((i + 1) % n)) = (i + 1) % n := rfl
    cases c1 : ieq (f i).dst (f ((i + 1) % n)).src with
    | false =>
      rw [firstQ_t (show badM n f i = true by rw [badM, c1]; rfl)]
      exact iter_round (rb49vm L n f x y i j (ofNat_lt hl) (ofNat_in hl) (ne_0 hl) hb (by rw [e1, e2]; exact c1))
    | true =>
      rw [firstQ_f (show badM n f i = false by rw [badM, c1]; rfl), iter_round (rb49vn L n f x y i j (ofNat_lt hl) (ofNat_in hl) (ne_0 hl) hb (by rw [e1, e2]; exact c1)), goOn_nm, succ_wr hl hn]
      exact run49bv L n f x y hn d (i + 1) (fun _ => .und) q (by omega) (by omega)

theorem run49dv (L : Nat → (St → T (Ex × St)) → St → T (Ex × St)) (n : Nat) (f : Nat → E6) (u v : Nat → Int) (hn : n ≤ 4611686018427387904) : ∀ (d i : Nat) (j : Nat → V) (q : Nat), n = i + d → d < q →
    (iterT (body49_4v L) (lp49_4v n f) q (st49_4v n f u v i j)).sem = some (match firstQ (tooMany n v (fun i => isW (f i)) 2) d i with
      | none => en49_4ve n f u v 0
      | some t => en49_4vw n f u v t)
  | 0, i, j, q + 1, h, _ => by
    have : n = i := by omega
    subst this
    exact iter_round (rd49ve L n f u v n j (ofNat_ge (Nat.le_refl _)))
  | d + 1, i, j, q + 1, h, h2 => by
    have hl : i < n := by omega
    have hs : smallN n = true := decide_eq_true hn
    cases c1 : ieq (f i).src 2 with
    | false =>
      rw [firstQ_f (show tooMany n v (fun i => isW (f i)) 2 i = false by rw [tooMany, isW, c1]; rfl), iter_round (rd49va L n f u v i j (ofNat_lt hl) (ofNat_in hl) c1), goOn_nm, succ_wr hl hn]
      exact run49dv L n f u v hn d (i + 1) (fun _ => .und) q (by omega) (by omega)
    | true =>
      cases c2 : ilt 2 (cntK n v (fun i => (bor (bnot Bool.true) (isW (f i)))) (v i)) with
      | false =>
        rw [firstQ_f (show tooMany n v (fun i => isW (f i)) 2 i = false by rw [tooMany, isW, c1]; exact c2), iter_round (rd49vb L n f u v i j (ofNat_lt hl) (ofNat_in hl) c1 (show nlt i n = true by simpa [nlt] using hl) (Nat.beq_refl n) hs c2), goOn_nm, succ_wr hl hn]
        exact run49dv L n f u v hn d (i + 1) (fun _ => .und) q (by omega) (by omega)
      | true =>
        rw [firstQ_t (show tooMany n v (fun i => isW (f i)) 2 i = true by rw [tooMany, isW, c1]; exact c2)]
        exact iter_round (rd49vc L n f u v i j (ofNat_lt hl) (ofNat_in hl) c1 (show nlt i n = true by simpa [nlt] using hl) (Nat.beq_refl n) hs c2)

theorem run49ev (L : Nat → (St → T (Ex × St)) → St → T (Ex × St)) (n : Nat) (f : Nat → E6) (u v : Nat → Int) (hn : n ≤ 4611686018427387904) : ∀ (d i : Nat) (j : Nat → V) (q : Nat), n = i + d → d < q →
    (iterT (body49_6v L) (lp49_6v n f) q (st49_6v n f u v i j)).sem = some (match firstQ (tooMany n u (fun _ => true) 12) d i with
      | none => en49_6ve n f u v 0
      | some t => en49_6vc n f u v t)
  | 0, i, j, q + 1, h, _ => by
    have : n = i := by omega
    subst this
    exact iter_round (re49ve L n f u v n j (ofNat_ge (Nat.le_refl _)))
  | d + 1, i, j, q + 1, h, h2 => by
    have hl : i < n := by omega
    have hs : smallN n = true := decide_eq_true hn
    cases c2 : ilt 12 (cntK n u (fun i => (bor (bnot Bool.false) (isW (f i)))) (u i)) with
    | false =>
      rw [firstQ_f (show tooMany n u (fun _ => true) 12 i = false from c2), iter_round (re49vb L n f u v i j (ofNat_lt hl) (ofNat_in hl) (show nlt i n = true by simpa [nlt] using hl) (Nat.beq_refl n) hs c2), goOn_nm, succ_wr hl hn]
      exact run49ev L n f u v hn d (i + 1) (fun _ => .und) q (by omega) (by omega)
    | true =>
      rw [firstQ_t (show tooMany n u (fun _ => true) 12 i = true from c2)]
      exact iter_round (re49vc L n f u v i j (ofNat_lt hl) (ofNat_in hl) (show nlt i n = true by simpa [nlt] using hl) (Nat.beq_refl n) hs c2)

def lps49v (n : Nat) (f : Nat → E6) : List (Nat × Lp) := [(0, lp49v n f), (2, lp49_2v n f), (4, lp49_4v n f), (6, lp49_6v n f)]

theorem told49v (n : Nat) (f : Nat → E6) (hF : fitN n = true) :
    (finF (evalF tab (cxOf Gl tb49 (lps49v n f)) Tryz.f17 [iV 2, edgesV n f] [])).sem = some (.tup [iV (chkK 2 n f).1, iV (chkK 2 n f).2], []) := by
  have hL := loopsBy_le (lps49v n f)
  have hn := fit8_small (fitN_8 hF)
  unfold chkK
  cases hA : ilt (Int.ofNat n) 2 with
  | true => exact wc49vs _ n f hA
  | false =>
    cases hB : ilt 16 (Int.ofNat n) with
    | true => exact wc49vt _ n f hA hB
    | false =>
      have h0 := fun L j => run49v L n f hn n 0 j (n + 1) (by omega) (by omega)
      have h2 := fun L j => run49bv L n f (Int.ofNat (cntB (fun k => outB (f k)) n)) (Int.ofNat (cntB (fun k => movB (f k)) n)) hn n 0 j (n + 1) (by omega) (by omega)
      have h4 := fun L j => run49dv L n f (fun k => partF (fun k => outB (f k)) n k) (fun k => partF (fun k => movB (f k)) n k) hn n 0 j (n + 1) (by omega) (by omega)
      have h6 := fun L j => run49ev L n f (fun k => partF (fun k => outB (f k)) n k) (fun k => partF (fun k => movB (f k)) n k) hn n 0 j (n + 1) (by omega) (by omega)
      show _ = some (V.tup [iV (match edgR 2 n f, ieq (edgR 2 n f).1 0 with | r, false => r | _, true => chkS n f).1, iV (match edgR 2 n f, ieq (edgR 2 n f).1 0 with | r, false => r | _, true => chkS n f).2], [])
      unfold edgR
      cases c1 : firstQ (badL 2 f) n 0 with
      | some t =>
        rw [c1] at h0
        cases c2 : ieq (legF 2 (f t)) 0 with
        | false =>
          simp only [c2] at h0 ⊢
          exact told_le (onP_le hL hL) _ (wc49vf _ _ n f (Int.ofNat (cntB (fun k => outB (f k)) t)) (Int.ofNat (cntB (fun k => movB (f k)) t)) t hA hB (isP_true (h0 _ _)))
        | true =>
          simp only [c2] at h0 ⊢
          exact told_le (onP_le hL hL) _ (wc49vl _ _ n f (Int.ofNat (cntB (fun k => outB (f k)) t)) (Int.ofNat (cntB (fun k => movB (f k)) t)) t hA hB (isP_true (h0 _ _)))
      | none =>
        rw [c1] at h0
        cases c2 : firstQ (badM n f) n 0 with
        | some t =>
          rw [c2] at h2
          exact told_le (onP_le (onP_le hL hL) hL) _ (wc49vm _ _ _ n f (Int.ofNat (cntB (fun k => outB (f k)) n)) (Int.ofNat (cntB (fun k => movB (f k)) n)) n t hA hB (isP_true (h0 _ _)) (isP_true (h2 _ _)))
        | none =>
          rw [c2] at h2
          show _ = some (V.tup [iV (chkS n f).1, iV (chkS n f).2], [])
          unfold chkS
          cases c3 : ilt (cntO n f) 2 with
          | true => exact told_le (onP_le (onP_le hL hL) hL) _ (wc49vo _ _ _ n f (Int.ofNat (cntB (fun k => outB (f k)) n)) (Int.ofNat (cntB (fun k => movB (f k)) n)) n 0 hA hB c3 (isP_true (h0 _ _)) (isP_true (h2 _ _)))
          | false =>
            cases c4 : ilt (cntM n f) 2 with
            | true => exact told_le (onP_le (onP_le hL hL) hL) _ (wc49vv _ _ _ n f (Int.ofNat (cntB (fun k => outB (f k)) n)) (Int.ofNat (cntB (fun k => movB (f k)) n)) n 0 hA hB c3 c4 (isP_true (h0 _ _)) (isP_true (h2 _ _)))
            | false =>
              show _ = some (V.tup [iV (chkU n f).1, iV (chkU n f).2], [])
              unfold chkU crR
              cases c5 : firstQ (tooMany n (partF (fun k => movB (f k)) n) (fun i => isW (f i)) 2) n 0 with
              | some t =>
                rw [show (firstQ (tooMany n (fun k => partF (fun k => movB (f k)) n k) (fun i => isW (f i)) 2) n 0) = some t from c5] at h4
                exact told_le (onP_le (onP_le (onP_le hL hL) hL) hL) _ (wc49vw _ _ _ _ n f (Int.ofNat (cntB (fun k => outB (f k)) n)) (Int.ofNat (cntB (fun k => movB (f k)) n)) n 0 t hA hB c3 c4 hF (isP_true (h0 _ _)) (isP_true (h2 _ _)) (isP_true (h4 _ _)))
              | none =>
                rw [show (firstQ (tooMany n (fun k => partF (fun k => movB (f k)) n k) (fun i => isW (f i)) 2) n 0) = none from c5] at h4
                cases c6 : firstQ (tooMany n (partF (fun k => outB (f k)) n) (fun _ => true) 12) n 0 with
                | some t =>
                  rw [show (firstQ (tooMany n (fun k => partF (fun k => outB (f k)) n k) (fun _ => true) 12) n 0) = some t from c6] at h6
                  exact told_le (onP_le (onP_le (onP_le (onP_le hL hL) hL) hL) hL) _ (wc49vc _ _ _ _ _ n f (Int.ofNat (cntB (fun k => outB (f k)) n)) (Int.ofNat (cntB (fun k => movB (f k)) n)) n 0 0 t hA hB c3 c4 hF (isP_true (h0 _ _)) (isP_true (h2 _ _)) (isP_true (h4 _ _)) (isP_true (h6 _ _)))
                | none =>
                  rw [show (firstQ (tooMany n (fun k => partF (fun k => outB (f k)) n k) (fun _ => true) 12) n 0) = none from c6] at h6
                  exact told_le (onP_le (onP_le (onP_le (onP_le hL hL) hL) hL) hL) _ (wc49vz _ _ _ _ _ n f (Int.ofNat (cntB (fun k => outB (f k)) n)) (Int.ofNat (cntB (fun k => movB (f k)) n)) n 0 0 0 hA hB c3 c4 hF (isP_true (h0 _ _)) (isP_true (h2 _ _)) (isP_true (h4 _ _)) (isP_true (h6 _ _)))
theorem wc49a (L : Nat → (St → T (Ex × St)) → St → T (Ex × St)) (a : Int) (n : Nat) (f : Nat → E6) (h0 : ieq a 1 = false) (h1 : ieq a 2 = false) : (finF (evalF tab ⟨callT tb49, L, Gl⟩ Tryz.f17 [iV a, edgesV n f] [])).sem = some ((.tup [(iV 1), (iV 0)]), []) := by
  exact sem_of_path (ds := [true, true, true, true]) (cs := [(bnot (ieq a 1)), (bnot (ieq a 1)), (bnot (ieq a 1)), (bnot (ieq a 2))]) (by kernel_rfl) (by simp only [h0, h1] <;> rfl)

theorem p49 : PureC Tryz.prog Gl 17 chkT := by
  refine pureC_intro tabOK mixed Tryz.func17 (by kernel_rfl) (by kernel_rfl) fun vs v h' h => ?_
  unfold chkT at h
  split at h
  · rename_i a u
    obtain ⟨n, f, ha, h1⟩ := apL_some h
    obtain ⟨hn, hq⟩ := sem_br_fail h1
    have := sem_leaf hq
    simp only [Prod.mk.injEq] at this
    obtain ⟨rfl, rfl⟩ := this
    cases ca : ieq a 1 with
    | true =>
      have h9 := ieq_eq ca
      subst h9
      have hx := cx_ok tb49_ok (lps49x n f)
      exact ⟨_, cxOf Gl tb49 (lps49x n f), _, argI ha, rfl, hx.1, hx.2, told49x n f hn, RowsLE.refl _⟩
    | false =>
      cases cb : ieq a 2 with
      | true =>
        have h9 := ieq_eq cb
        subst h9
        have hx := cx_ok tb49_ok (lps49v n f)
        exact ⟨_, cxOf Gl tb49 (lps49v n f), _, argI ha, rfl, hx.1, hx.2, told49v n f hn, RowsLE.refl _⟩
      | false =>
        have hx := cx_ok tb49_ok []
        refine ⟨_, cxOf Gl tb49 [], _, argI ha, rfl, hx.1, hx.2, ?_, RowsLE.refl _⟩
        unfold chkR
        rw [ca, cb]
        exact wc49a _ a n f ca cb
  · cases h

noncomputable def tb48 : List (Nat × (List V → T (V × List Blk))) := (39, edgT) :: (40, countT) :: (45, partsT) :: (44, crowdT) :: []
theorem tb48_ok : AllPure Tryz.prog Gl tb48 := .cons p86 <| .cons p87 <| .cons p92 <| .cons p91 .nil
def edgE (a : Int) (n : Nat) (f : Nat → E6) : Int := (edgR a n f).1
def edgI (a : Int) (n : Nat) (f : Nat → E6) : Int := (edgR a n f).2
def crI (n : Nat) (l : Nat → Int) (c : Nat → Bool) (q : Int) : Int := (crR n l c q).1
def crB (n : Nat) (l : Nat → Int) (c : Nat → Bool) (q : Int) : Bool := (crR n l c q).2

theorem okP_part (p : Nat → Bool) (n : Nat) (hn : n ≤ 4611686018427387904) : okP n (partF p n) = true := allN_iff.2 fun i hi => by
  unfold partF
  cases decide (i < n) with
  | false => rfl
  | true =>
    cases decide (cntB p i = cntB p n) with
    | true => rfl
    | false =>
      have := cntB_le p i
      exact fit_cnt (by omega)

theorem wc48xs (L : Nat → (St → T (Ex × St)) → St → T (Ex × St)) (n : Nat) (f : Nat → E6) (h0 : ilt (Int.ofNat n) 2 = true) : (finF (evalF tab ⟨callT tb48, L, Gl⟩ Tryz.f20 [iV 1, edgesV n f] [])).sem = some ((.tup [(iV 40), (iV 0)]), []) := by
  exact sem_of_path (ds := [false, false, false, false, true, true, true, true, true]) (cs := [(bnot (ieq 1 1)), (bnot (ieq 1 1)), (bnot (ieq 1 1)), Bool.false, (ilt (Int.ofNat n) 2), (ilt (Int.ofNat n) 2), (ilt (Int.ofNat n) 2), (ilt (Int.ofNat n) 2), Bool.true]) (by kernel_rfl) (by simp only [h0] <;> rfl)

theorem wc48xt (L : Nat → (St → T (Ex × St)) → St → T (Ex × St)) (n : Nat) (f : Nat → E6) (h0 : ilt (Int.ofNat n) 2 = false) (h1 : ilt 16 (Int.ofNat n) = true) : (finF (evalF tab ⟨callT tb48, L, Gl⟩ Tryz.f20 [iV 1, edgesV n f] [])).sem = some ((.tup [(iV 40), (iV 0)]), []) := by
  exact sem_of_path (ds := [false, false, false, false, false, false, false, false, true]) (cs := [(bnot (ieq 1 1)), (bnot (ieq 1 1)), (bnot (ieq 1 1)), Bool.false, (ilt (Int.ofNat n) 2), (ilt (Int.ofNat n) 2), (ilt (Int.ofNat n) 2), (ilt (Int.ofNat n) 2), (ilt 16 (Int.ofNat n))]) (by kernel_rfl) (by simp only [h0, h1] <;> rfl)

theorem wc48xe (L : Nat → (St → T (Ex × St)) → St → T (Ex × St)) (n : Nat) (f : Nat → E6) (h0 : ilt (Int.ofNat n) 2 = false) (h1 : ilt 16 (Int.ofNat n) = false) (h2 : fitN n = true) (h3 : ieq (edgE 1 n f) 0 = false) : (finF (evalF tab ⟨callT tb48, L, Gl⟩ Tryz.f20 [iV 1, edgesV n f] [])).sem = some ((.tup [(iV (edgE 1 n f)), (iV (edgI 1 n f))]), []) := by
  exact sem_of_path (ds := [false, false, false, false, false, false, false, false, false, true, true, true]) (cs := [(bnot (ieq 1 1)), (bnot (ieq 1 1)), (bnot (ieq 1 1)), Bool.false, (ilt (Int.ofNat n) 2), (ilt (Int.ofNat n) 2), (ilt (Int.ofNat n) 2), (ilt (Int.ofNat n) 2), (ilt 16 (Int.ofNat n)), (allN n (fun _ => Bool.true)), (fitN n), (bnot (ieq (edgE 1 n f) 0))]) (by kernel_rfl) (by simp only [h0, h1, h2, h3, allN_true] <;> rfl)

theorem wc48xo (L : Nat → (St → T (Ex × St)) → St → T (Ex × St)) (n : Nat) (f : Nat → E6) (h0 : ilt (Int.ofNat n) 2 = false) (h1 : ilt 16 (Int.ofNat n) = false) (h2 : fitN n = true) (h3 : ieq (edgE 1 n f) 0 = true) (h4 : smallN n = true) (h5 : ilt (cntO n f) 2 = true) : (finF (evalF tab ⟨callT tb48, L, Gl⟩ Tryz.f20 [iV 1, edgesV n f] [])).sem = some ((.tup [(iV 42), (iV 0)]), []) := by
  exact sem_of_path (ds := [false, false, false, false, false, false, false, false, false, true, true, false, true, true, true]) (cs := [(bnot (ieq 1 1)), (bnot (ieq 1 1)), (bnot (ieq 1 1)), Bool.false, (ilt (Int.ofNat n) 2), (ilt (Int.ofNat n) 2), (ilt (Int.ofNat n) 2), (ilt (Int.ofNat n) 2), (ilt 16 (Int.ofNat n)), (allN n (fun _ => Bool.true)), (fitN n), (bnot (ieq (edgE 1 n f) 0)), (allN n (fun _ => Bool.true)), (smallN n), (ilt (cntO n f) 2)]) (by kernel_rfl) (by simp only [h0, h1, h2, h3, h4, h5, allN_true] <;> rfl)

theorem wc48xm (L : Nat → (St → T (Ex × St)) → St → T (Ex × St)) (n : Nat) (f : Nat → E6) (h0 : ilt (Int.ofNat n) 2 = false) (h1 : ilt 16 (Int.ofNat n) = false) (h2 : fitN n = true) (h3 : ieq (edgE 1 n f) 0 = true) (h4 : smallN n = true) (h5 : ilt (cntO n f) 2 = false) (h6 : ilt (cntM n f) 2 = true) : (finF (evalF tab ⟨callT tb48, L, Gl⟩ Tryz.f20 [iV 1, edgesV n f] [])).sem = some ((.tup [(iV 43), (iV 0)]), []) := by
  exact sem_of_path (ds := [false, false, false, false, false, false, false, false, false, true, true, false, true, true, false, true, true, true]) (cs := [(bnot (ieq 1 1)), (bnot (ieq 1 1)), (bnot (ieq 1 1)), Bool.false, (ilt (Int.ofNat n) 2), (ilt (Int.ofNat n) 2), (ilt (Int.ofNat n) 2), (ilt (Int.ofNat n) 2), (ilt 16 (Int.ofNat n)), (allN n (fun _ => Bool.true)), (fitN n), (bnot (ieq (edgE 1 n f) 0)), (allN n (fun _ => Bool.true)), (smallN n), (ilt (cntO n f) 2), (allN n (fun _ => Bool.true)), (smallN n), (ilt (cntM n f) 2)]) (by kernel_rfl) (by simp only [h0, h1, h2, h3, h4, h5, h6, allN_true] <;> rfl)

theorem wc48xw (L : Nat → (St → T (Ex × St)) → St → T (Ex × St)) (n : Nat) (f : Nat → E6) (h0 : ilt (Int.ofNat n) 2 = false) (h1 : ilt 16 (Int.ofNat n) = false) (h2 : fitN n = true) (h3 : ieq (edgE 1 n f) 0 = true) (h4 : smallN n = true) (h5 : ilt (cntO n f) 2 = false) (h6 : ilt (cntM n f) 2 = false) (h7 : mkOK 8 (Int.ofNat n) (Int.ofNat n) = true) (h8 : nbeq n n = true) (h9 : okP n (partF (fun k => (movB (f k))) n) = true) (h10 : crB n (partF (fun k => (movB (f k))) n) (fun i => (isW (f i))) 2 = true) : (finF (evalF tab ⟨callT tb48, L, Gl⟩ Tryz.f20 [iV 1, edgesV n f] [])).sem = some ((.tup [(iV 44), (iV (crI n (partF (fun k => (movB (f k))) n) (fun i => (isW (f i))) 2))]), []) := by
  exact sem_of_path (ds := [false, false, false, false, false, false, false, false, false, true, true, false, true, true, false, true, true, false, true, true, true, true, true, true, true, true]) (cs := [(bnot (ieq 1 1)), (bnot (ieq 1 1)), (bnot (ieq 1 1)), Bool.false, (ilt (Int.ofNat n) 2), (ilt (Int.ofNat n) 2), (ilt (Int.ofNat n) 2), (ilt (Int.ofNat n) 2), (ilt 16 (Int.ofNat n)), (allN n (fun _ => Bool.true)), (fitN n), (bnot (ieq (edgE 1 n f) 0)), (allN n (fun _ => Bool.true)), (smallN n), (ilt (cntO n f) 2), (allN n (fun _ => Bool.true)), (smallN n), (ilt (cntM n f) 2), (allN n (fun _ => Bool.true)), (mkOK 8 (Int.ofNat n) (Int.ofNat n)), (allN n (fun _ => Bool.true)), (allN n (fun _ => Bool.true)), (nbeq n n), (smallN n), (okP n (partF (fun k => (movB (f k))) n)), (crB n (partF (fun k => (movB (f k))) n) (fun i => (isW (f i))) 2)]) (by kernel_rfl) (by simp only [h0, h1, h2, h3, h4, h5, h6, h7, h8, h9, h10, allN_true] <;> rfl)

theorem wc48xc (L : Nat → (St → T (Ex × St)) → St → T (Ex × St)) (n : Nat) (f : Nat → E6) (h0 : ilt (Int.ofNat n) 2 = false) (h1 : ilt 16 (Int.ofNat n) = false) (h2 : fitN n = true) (h3 : ieq (edgE 1 n f) 0 = true) (h4 : smallN n = true) (h5 : ilt (cntO n f) 2 = false) (h6 : ilt (cntM n f) 2 = false) (h7 : mkOK 8 (Int.ofNat n) (Int.ofNat n) = true) (h8 : nbeq n n = true) (h9 : okP n (partF (fun k => (movB (f k))) n) = true) (h10 : crB n (partF (fun k => (movB (f k))) n) (fun i => (isW (f i))) 2 = false) (h11 : okP n (partF (fun k => (outB (f k))) n) = true) (h12 : crB n (partF (fun k => (outB (f k))) n) (fun _ => Bool.true) 12 = true) : (finF (evalF tab ⟨callT tb48, L, Gl⟩ Tryz.f20 [iV 1, edgesV n f] [])).sem = some ((.tup [(iV 45), (iV (crI n (partF (fun k => (outB (f k))) n) (fun _ => Bool.true) 12))]), []) := by
  exact sem_of_path (ds := [false, false, false, false, false, false, false, false, false, true, true, false, true, true, false, true, true, false, true, true, true, true, true, true, true, false, true, true, true, true, true, true]) (cs := [(bnot (ieq 1 1)), (bnot (ieq 1 1)), (bnot (ieq 1 1)), Bool.false, (ilt (Int.ofNat n) 2), (ilt (Int.ofNat n) 2), (ilt (Int.ofNat n) 2), (ilt (Int.ofNat n) 2), (ilt 16 (Int.ofNat n)), (allN n (fun _ => Bool.true)), (fitN n), (bnot (ieq (edgE 1 n f) 0)), (allN n (fun _ => Bool.true)), (smallN n), (ilt (cntO n f) 2), (allN n (fun _ => Bool.true)), (smallN n), (ilt (cntM n f) 2), (allN n (fun _ => Bool.true)), (mkOK 8 (Int.ofNat n) (Int.ofNat n)), (allN n (fun _ => Bool.true)), (allN n (fun _ => Bool.true)), (nbeq n n), (smallN n), (okP n (partF (fun k => (movB (f k))) n)), (crB n (partF (fun k => (movB (f k))) n) (fun i => (isW (f i))) 2), (allN n (fun _ => Bool.true)), (mkOK 8 (Int.ofNat n) (Int.ofNat n)), (allN n (fun _ => Bool.true)), (smallN n), (okP n (partF (fun k => (outB (f k))) n)), (crB n (partF (fun k => (outB (f k))) n) (fun _ => Bool.true) 12)]) (by kernel_rfl) (by simp only [h0, h1, h2, h3, h4, h5, h6, h7, h8, h9, h10, h11, h12, allN_true] <;> rfl)

theorem wc48xz (L : Nat → (St → T (Ex × St)) → St → T (Ex × St)) (n : Nat) (f : Nat → E6) (h0 : ilt (Int.ofNat n) 2 = false) (h1 : ilt 16 (Int.ofNat n) = false) (h2 : fitN n = true) (h3 : ieq (edgE 1 n f) 0 = true) (h4 : smallN n = true) (h5 : ilt (cntO n f) 2 = false) (h6 : ilt (cntM n f) 2 = false) (h7 : mkOK 8 (Int.ofNat n) (Int.ofNat n) = true) (h8 : nbeq n n = true) (h9 : okP n (partF (fun k => (movB (f k))) n) = true) (h10 : crB n (partF (fun k => (movB (f k))) n) (fun i => (isW (f i))) 2 = false) (h11 : okP n (partF (fun k => (outB (f k))) n) = true) (h12 : crB n (partF (fun k => (outB (f k))) n) (fun _ => Bool.true) 12 = false) : (finF (evalF tab ⟨callT tb48, L, Gl⟩ Tryz.f20 [iV 1, edgesV n f] [])).sem = some ((.tup [(iV 0), (iV 0)]), []) := by
  exact sem_of_path (ds := [false, false, false, false, false, false, false, false, false, true, true, false, true, true, false, true, true, false, true, true, true, true, true, true, true, false, true, true, true, true, true, false]) (cs := [(bnot (ieq 1 1)), (bnot (ieq 1 1)), (bnot (ieq 1 1)), Bool.false, (ilt (Int.ofNat n) 2), (ilt (Int.ofNat n) 2), (ilt (Int.ofNat n) 2), (ilt (Int.ofNat n) 2), (ilt 16 (Int.ofNat n)), (allN n (fun _ => Bool.true)), (fitN n), (bnot (ieq (edgE 1 n f) 0)), (allN n (fun _ => Bool.true)), (smallN n), (ilt (cntO n f) 2), (allN n (fun _ => Bool.true)), (smallN n), (ilt (cntM n f) 2), (allN n (fun _ => Bool.true)), (mkOK 8 (Int.ofNat n) (Int.ofNat n)), (allN n (fun _ => Bool.true)), (allN n (fun _ => Bool.true)), (nbeq n n), (smallN n), (okP n (partF (fun k => (movB (f k))) n)), (crB n (partF (fun k => (movB (f k))) n) (fun i => (isW (f i))) 2), (allN n (fun _ => Bool.true)), (mkOK 8 (Int.ofNat n) (Int.ofNat n)), (allN n (fun _ => Bool.true)), (smallN n), (okP n (partF (fun k => (outB (f k))) n)), (crB n (partF (fun k => (outB (f k))) n) (fun _ => Bool.true) 12)]) (by kernel_rfl) (by simp only [h0, h1, h2, h3, h4, h5, h6, h7, h8, h9, h10, h11, h12, allN_true] <;> rfl)
theorem wc48vs (L : Nat → (St → T (Ex × St)) → St → T (Ex × St)) (n : Nat) (f : Nat → E6) (h0 : ilt (Int.ofNat n) 2 = true) : (finF (evalF tab ⟨callT tb48, L, Gl⟩ Tryz.f20 [iV 2, edgesV n f] [])).sem = some ((.tup [(iV 40), (iV 0)]), []) := by
  exact sem_of_path (ds := [true, true, true, false, true, true, true, true, true]) (cs := [(bnot (ieq 2 1)), (bnot (ieq 2 1)), (bnot (ieq 2 1)), (bnot (ieq 2 2)), (ilt (Int.ofNat n) 2), (ilt (Int.ofNat n) 2), (ilt (Int.ofNat n) 2), (ilt (Int.ofNat n) 2), Bool.true]) (by kernel_rfl) (by simp only [h0] <;> rfl)

theorem wc48vt (L : Nat → (St → T (Ex × St)) → St → T (Ex × St)) (n : Nat) (f : Nat → E6) (h0 : ilt (Int.ofNat n) 2 = false) (h1 : ilt 16 (Int.ofNat n) = true) : (finF (evalF tab ⟨callT tb48, L, Gl⟩ Tryz.f20 [iV 2, edgesV n f] [])).sem = some ((.tup [(iV 40), (iV 0)]), []) := by
  exact sem_of_path (ds := [true, true, true, false, false, false, false, false, true]) (cs := [(bnot (ieq 2 1)), (bnot (ieq 2 1)), (bnot (ieq 2 1)), (bnot (ieq 2 2)), (ilt (Int.ofNat n) 2), (ilt (Int.ofNat n) 2), (ilt (Int.ofNat n) 2), (ilt (Int.ofNat n) 2), (ilt 16 (Int.ofNat n))]) (by kernel_rfl) (by simp only [h0, h1] <;> rfl)

theorem wc48ve (L : Nat → (St → T (Ex × St)) → St → T (Ex × St)) (n : Nat) (f : Nat → E6) (h0 : ilt (Int.ofNat n) 2 = false) (h1 : ilt 16 (Int.ofNat n) = false) (h2 : fitN n = true) (h3 : ieq (edgE 2 n f) 0 = false) : (finF (evalF tab ⟨callT tb48, L, Gl⟩ Tryz.f20 [iV 2, edgesV n f] [])).sem = some ((.tup [(iV (edgE 2 n f)), (iV (edgI 2 n f))]), []) := by
  exact sem_of_path (ds := [true, true, true, false, false, false, false, false, false, true, true, true]) (cs := [(bnot (ieq 2 1)), (bnot (ieq 2 1)), (bnot (ieq 2 1)), (bnot (ieq 2 2)), (ilt (Int.ofNat n) 2), (ilt (Int.ofNat n) 2), (ilt (Int.ofNat n) 2), (ilt (Int.ofNat n) 2), (ilt 16 (Int.ofNat n)), (allN n (fun _ => Bool.true)), (fitN n), (bnot (ieq (edgE 2 n f) 0))]) (by kernel_rfl) (by simp only [h0, h1, h2, h3, allN_true] <;> rfl)

theorem wc48vo (L : Nat → (St → T (Ex × St)) → St → T (Ex × St)) (n : Nat) (f : Nat → E6) (h0 : ilt (Int.ofNat n) 2 = false) (h1 : ilt 16 (Int.ofNat n) = false) (h2 : fitN n = true) (h3 : ieq (edgE 2 n f) 0 = true) (h4 : smallN n = true) (h5 : ilt (cntO n f) 2 = true) : (finF (evalF tab ⟨callT tb48, L, Gl⟩ Tryz.f20 [iV 2, edgesV n f] [])).sem = some ((.tup [(iV 42), (iV 0)]), []) := by
  exact sem_of_path (ds := [true, true, true, false, false, false, false, false, false, true, true, false, true, true, true]) (cs := [(bnot (ieq 2 1)), (bnot (ieq 2 1)), (bnot (ieq 2 1)), (bnot (ieq 2 2)), (ilt (Int.ofNat n) 2), (ilt (Int.ofNat n) 2), (ilt (Int.ofNat n) 2), (ilt (Int.ofNat n) 2), (ilt 16 (Int.ofNat n)), (allN n (fun _ => Bool.true)), (fitN n), (bnot (ieq (edgE 2 n f) 0)), (allN n (fun _ => Bool.true)), (smallN n), (ilt (cntO n f) 2)]) (by kernel_rfl) (by simp only [h0, h1, h2, h3, h4, h5, allN_true] <;> rfl)

theorem wc48vm (L : Nat → (St → T (Ex × St)) → St → T (Ex × St)) (n : Nat) (f : Nat → E6) (h0 : ilt (Int.ofNat n) 2 = false) (h1 : ilt 16 (Int.ofNat n) = false) (h2 : fitN n = true) (h3 : ieq (edgE 2 n f) 0 = true) (h4 : smallN n = true) (h5 : ilt (cntO n f) 2 = false) (h6 : ilt (cntM n f) 2 = true) : (finF (evalF tab ⟨callT tb48, L, Gl⟩ Tryz.f20 [iV 2, edgesV n f] [])).sem = some ((.tup [(iV 43), (iV 0)]), []) := by
  exact sem_of_path (ds := [true, true, true, false, false, false, false, false, false, true, true, false, true, true, false, true, true, true]) (cs := [(bnot (ieq 2 1)), (bnot (ieq 2 1)), (bnot (ieq 2 1)), (bnot (ieq 2 2)), (ilt (Int.ofNat n) 2), (ilt (Int.ofNat n) 2), (ilt (Int.ofNat n) 2), (ilt (Int.ofNat n) 2), (ilt 16 (Int.ofNat n)), (allN n (fun _ => Bool.true)), (fitN n), (bnot (ieq (edgE 2 n f) 0)), (allN n (fun _ => Bool.true)), (smallN n), (ilt (cntO n f) 2), (allN n (fun _ => Bool.true)), (smallN n), (ilt (cntM n f) 2)]) (by kernel_rfl) (by simp only [h0, h1, h2, h3, h4, h5, h6, allN_true] <;> rfl)

theorem wc48vw (L : Nat → (St → T (Ex × St)) → St → T (Ex × St)) (n : Nat) (f : Nat → E6) (h0 : ilt (Int.ofNat n) 2 = false) (h1 : ilt 16 (Int.ofNat n) = false) (h2 : fitN n = true) (h3 : ieq (edgE 2 n f) 0 = true) (h4 : smallN n = true) (h5 : ilt (cntO n f) 2 = false) (h6 : ilt (cntM n f) 2 = false) (h7 : mkOK 8 (Int.ofNat n) (Int.ofNat n) = true) (h8 : nbeq n n = true) (h9 : okP n (partF (fun k => (movB (f k))) n) = true) (h10 : crB n (partF (fun k => (movB (f k))) n) (fun i => (isW (f i))) 2 = true) : (finF (evalF tab ⟨callT tb48, L, Gl⟩ Tryz.f20 [iV 2, edgesV n f] [])).sem = some ((.tup [(iV 44), (iV (crI n (partF (fun k => (movB (f k))) n) (fun i => (isW (f i))) 2))]), []) := by
  exact sem_of_path (ds := [true, true, true, false, false, false, false, false, false, true, true, false, true, true, false, true, true, false, true, true, true, true, true, true, true, true]) (cs := [(bnot (ieq 2 1)), (bnot (ieq 2 1)), (bnot (ieq 2 1)), (bnot (ieq 2 2)), (ilt (Int.ofNat n) 2), (ilt (Int.ofNat n) 2), (ilt (Int.ofNat n) 2), (ilt (Int.ofNat n) 2), (ilt 16 (Int.ofNat n)), (allN n (fun _ => Bool.true)), (fitN n), (bnot (ieq (edgE 2 n f) 0)), (allN n (fun _ => Bool.true)), (smallN n), (ilt (cntO n f) 2), (allN n (fun _ => Bool.true)), (smallN n), (ilt (cntM n f) 2), (allN n (fun _ => Bool.true)), (mkOK 8 (Int.ofNat n) (Int.ofNat n)), (allN n (fun _ => Bool.true)), (allN n (fun _ => Bool.true)), (nbeq n n), (smallN n), (okP n (partF (fun k => (movB (f k))) n)), (crB n (partF (fun k => (movB (f k))) n) (fun i => (isW (f i))) 2)]) (by kernel_rfl) (by simp only [h0, h1, h2, h3, h4, h5, h6, h7, h8, h9, h10, allN_true] <;> rfl)

theorem wc48vc (L : Nat → (St → T (Ex × St)) → St → T (Ex × St)) (n : Nat) (f : Nat → E6) (h0 : ilt (Int.ofNat n) 2 = false) (h1 : ilt 16 (Int.ofNat n) = false) (h2 : fitN n = true) (h3 : ieq (edgE 2 n f) 0 = true) (h4 : smallN n = true) (h5 : ilt (cntO n f) 2 = false) (h6 : ilt (cntM n f) 2 = false) (h7 : mkOK 8 (Int.ofNat n) (Int.ofNat n) = true) (h8 : nbeq n n = true) (h9 : okP n (partF (fun k => (movB (f k))) n) = true) (h10 : crB n (partF (fun k => (movB (f k))) n) (fun i => (isW (f i))) 2 = false) (h11 : okP n (partF (fun k => (outB (f k))) n) = true) (h12 : crB n (partF (fun k => (outB (f k))) n) (fun _ => Bool.true) 12 = true) : (finF (evalF tab ⟨callT tb48, L, Gl⟩ Tryz.f20 [iV 2, edgesV n f] [])).sem = some ((.tup [(iV 45), (iV (crI n (partF (fun k => (outB (f k))) n) (fun _ => Bool.true) 12))]), []) := by
  exact sem_of_path (ds := [true, true, true, false, false, false, false, false, false, true, true, false, true, true, false, true, true, false, true, true, true, true, true, true, true, false, true, true, true, true, true, true]) (cs := [(bnot (ieq 2 1)), (bnot (ieq 2 1)), (bnot (ieq 2 1)), (bnot (ieq 2 2)), (ilt (Int.ofNat n) 2), (ilt (Int.ofNat n) 2), (ilt (Int.ofNat n) 2), (ilt (Int.ofNat n) 2), (ilt 16 (Int.ofNat n)), (allN n (fun _ => Bool.true)), (fitN n), (bnot (ieq (edgE 2 n f) 0)), (allN n (fun _ => Bool.true)), (smallN n), (ilt (cntO n f) 2), (allN n (fun _ => Bool.true)), (smallN n), (ilt (cntM n f) 2), (allN n (fun _ => Bool.true)), (mkOK 8 (Int.ofNat n) (Int.ofNat n)), (allN n (fun _ => Bool.true)), (allN n (fun _ => Bool.true)), (nbeq n n), (smallN n), (okP n (partF (fun k => (movB (f k))) n)), (crB n (partF (fun k => (movB (f k))) n) (fun i => (isW (f i))) 2), (allN n (fun _ => Bool.true)), (mkOK 8 (Int.ofNat n) (Int.ofNat n)), (allN n (fun _ => Bool.true)), (smallN n), (okP n (partF (fun k => (outB (f k))) n)), (crB n (partF (fun k => (outB (f k))) n) (fun _ => Bool.true) 12)]) (by kernel_rfl) (by simp only [h0, h1, h2, h3, h4, h5, h6, h7, h8, h9, h10, h11, h12, allN_true] <;> rfl)

theorem wc48vz (L : Nat → (St → T (Ex × St)) → St → T (Ex × St)) (n : Nat) (f : Nat → E6) (h0 : ilt (Int.ofNat n) 2 = false) (h1 : ilt 16 (Int.ofNat n) = false) (h2 : fitN n = true) (h3 : ieq (edgE 2 n f) 0 = true) (h4 : smallN n = true) (h5 : ilt (cntO n f) 2 = false) (h6 : ilt (cntM n f) 2 = false) (h7 : mkOK 8 (Int.ofNat n) (Int.ofNat n) = true) (h8 : nbeq n n = true) (h9 : okP n (partF (fun k => (movB (f k))) n) = true) (h10 : crB n (partF (fun k => (movB (f k))) n) (fun i => (isW (f i))) 2 = false) (h11 : okP n (partF (fun k => (outB (f k))) n) = true) (h12 : crB n (partF (fun k => (outB (f k))) n) (fun _ => Bool.true) 12 = false) : (finF (evalF tab ⟨callT tb48, L, Gl⟩ Tryz.f20 [iV 2, edgesV n f] [])).sem = some ((.tup [(iV 0), (iV 0)]), []) := by
  exact sem_of_path (ds := [true, true, true, false, false, false, false, false, false, true, true, false, true, true, false, true, true, false, true, true, true, true, true, true, true, false, true, true, true, true, true, false]) (cs := [(bnot (ieq 2 1)), (bnot (ieq 2 1)), (bnot (ieq 2 1)), (bnot (ieq 2 2)), (ilt (Int.ofNat n) 2), (ilt (Int.ofNat n) 2), (ilt (Int.ofNat n) 2), (ilt (Int.ofNat n) 2), (ilt 16 (Int.ofNat n)), (allN n (fun _ => Bool.true)), (fitN n), (bnot (ieq (edgE 2 n f) 0)), (allN n (fun _ => Bool.true)), (smallN n), (ilt (cntO n f) 2), (allN n (fun _ => Bool.true)), (smallN n), (ilt (cntM n f) 2), (allN n (fun _ => Bool.true)), (mkOK 8 (Int.ofNat n) (Int.ofNat n)), (allN n (fun _ => Bool.true)), (allN n (fun _ => Bool.true)), (nbeq n n), (smallN n), (okP n (partF (fun k => (movB (f k))) n)), (crB n (partF (fun k => (movB (f k))) n) (fun i => (isW (f i))) 2), (allN n (fun _ => Bool.true)), (mkOK 8 (Int.ofNat n) (Int.ofNat n)), (allN n (fun _ => Bool.true)), (smallN n), (okP n (partF (fun k => (outB (f k))) n)), (crB n (partF (fun k => (outB (f k))) n) (fun _ => Bool.true) 12)]) (by kernel_rfl) (by simp only [h0, h1, h2, h3, h4, h5, h6, h7, h8, h9, h10, h11, h12, allN_true] <;> rfl)
theorem wc48a (L : Nat → (St → T (Ex × St)) → St → T (Ex × St)) (a : Int) (n : Nat) (f : Nat → E6) (h0 : ieq a 1 = false) (h1 : ieq a 2 = false) : (finF (evalF tab ⟨callT tb48, L, Gl⟩ Tryz.f20 [iV a, edgesV n f] [])).sem = some ((.tup [(iV 1), (iV 0)]), []) := by
  exact sem_of_path (ds := [true, true, true, true]) (cs := [(bnot (ieq a 1)), (bnot (ieq a 1)), (bnot (ieq a 1)), (bnot (ieq a 2))]) (by kernel_rfl) (by simp only [h0, h1] <;> rfl)

theorem told48x (n : Nat) (f : Nat → E6) (hF : fitN n = true) :
    (finF (evalF tab (cxOf Gl tb48 []) Tryz.f20 [iV 1, edgesV n f] [])).sem = some (.tup [iV (chkK 1 n f).1, iV (chkK 1 n f).2], []) := by
  have hn := fit8_small (fitN_8 hF)
  have hs : smallN n = true := decide_eq_true hn
  have hk : mkOK 8 (Int.ofNat n) (Int.ofNat n) = true := by
    have := fitN_small hF
    simp only [mkOK, Bool.and_eq_true, decide_eq_true_eq, Int.ofNat_eq_natCast]
    omega
  unfold chkK
  cases hA : ilt (Int.ofNat n) 2 with
  | true => exact wc48xs _ n f hA
  | false =>
    cases hB : ilt 16 (Int.ofNat n) with
    | true => exact wc48xt _ n f hA hB
    | false =>
      show _ = some (V.tup [iV (match edgR 1 n f, ieq (edgR 1 n f).1 0 with | r, false => r | _, true => chkS n f).1, iV (match edgR 1 n f, ieq (edgR 1 n f).1 0 with | r, false => r | _, true => chkS n f).2], [])
      cases c1 : ieq (edgR 1 n f).1 0 with
      | false => exact wc48xe _ n f hA hB hF c1
      | true =>
        show _ = some (V.tup [iV (chkS n f).1, iV (chkS n f).2], [])
        unfold chkS
        cases c3 : ilt (cntO n f) 2 with
        | true => exact wc48xo _ n f hA hB hF c1 hs c3
        | false =>
          cases c4 : ilt (cntM n f) 2 with
          | true => exact wc48xm _ n f hA hB hF c1 hs c3 c4
          | false =>
            show _ = some (V.tup [iV (chkU n f).1, iV (chkU n f).2], [])
            unfold chkU
            cases c5 : crB n (partF (fun k => movB (f k)) n) (fun i => isW (f i)) 2 with
            | true =>
              rw [show crR n (partF (fun k => movB (f k)) n) (fun i => isW (f i)) 2 = (crI n (partF (fun k => movB (f k)) n) (fun i => isW (f i)) 2, true) from Prod.ext rfl c5]
              exact wc48xw _ n f hA hB hF c1 hs c3 c4 hk (Nat.beq_refl n) (okP_part _ n hn) c5
            | false =>
              rw [show crR n (partF (fun k => movB (f k)) n) (fun i => isW (f i)) 2 = (crI n (partF (fun k => movB (f k)) n) (fun i => isW (f i)) 2, false) from Prod.ext rfl c5]
              cases c6 : crB n (partF (fun k => outB (f k)) n) (fun _ => true) 12 with
              | true =>
                rw [show crR n (partF (fun k => outB (f k)) n) (fun _ => true) 12 = (crI n (partF (fun k => outB (f k)) n) (fun _ => true) 12, true) from Prod.ext rfl c6]
                exact wc48xc _ n f hA hB hF c1 hs c3 c4 hk (Nat.beq_refl n) (okP_part _ n hn) c5 (okP_part _ n hn) c6
              | false =>
                rw [show crR n (partF (fun k => outB (f k)) n) (fun _ => true) 12 = (crI n (partF (fun k => outB (f k)) n) (fun _ => true) 12, false) from Prod.ext rfl c6]
                exact wc48xz _ n f hA hB hF c1 hs c3 c4 hk (Nat.beq_refl n) (okP_part _ n hn) c5 (okP_part _ n hn) c6

theorem told48v (n : Nat) (f : Nat → E6) (hF : fitN n = true) :
    (finF (evalF tab (cxOf Gl tb48 []) Tryz.f20 [iV 2, edgesV n f] [])).sem = some (.tup [iV (chkK 2 n f).1, iV (chkK 2 n f).2], []) := by
  have hn := fit8_small (fitN_8 hF)
  have hs : smallN n = true := decide_eq_true hn
  have hk : mkOK 8 (Int.ofNat n) (Int.ofNat n) = true := by
    have := fitN_small hF
    simp only [mkOK, Bool.and_eq_true, decide_eq_true_eq, Int.ofNat_eq_natCast]
    omega
  unfold chkK
  cases hA : ilt (Int.ofNat n) 2 with
  | true => exact wc48vs _ n f hA
  | false =>
    cases hB : ilt 16 (Int.ofNat n) with
    | true => exact wc48vt _ n f hA hB
    | false =>
      show _ = some (V.tup [iV (match edgR 2 n f, ieq (edgR 2 n f).1 0 with | r, false => r | _, true => chkS n f).1, iV (match edgR 2 n f, ieq (edgR 2 n f).1 0 with | r, false => r | _, true => chkS n f).2], [])
      cases c1 : ieq (edgR 2 n f).1 0 with
      | false => exact wc48ve _ n f hA hB hF c1
      | true =>
        show _ = some (V.tup [iV (chkS n f).1, iV (chkS n f).2], [])
        unfold chkS
        cases c3 : ilt (cntO n f) 2 with
        | true => exact wc48vo _ n f hA hB hF c1 hs c3
        | false =>
          cases c4 : ilt (cntM n f) 2 with
          | true => exact wc48vm _ n f hA hB hF c1 hs c3 c4
          | false =>
            show _ = some (V.tup [iV (chkU n f).1, iV (chkU n f).2], [])
            unfold chkU
            cases c5 : crB n (partF (fun k => movB (f k)) n) (fun i => isW (f i)) 2 with
            | true =>
              rw [show crR n (partF (fun k => movB (f k)) n) (fun i => isW (f i)) 2 = (crI n (partF (fun k => movB (f k)) n) (fun i => isW (f i)) 2, true) from Prod.ext rfl c5]
              exact wc48vw _ n f hA hB hF c1 hs c3 c4 hk (Nat.beq_refl n) (okP_part _ n hn) c5
            | false =>
              rw [show crR n (partF (fun k => movB (f k)) n) (fun i => isW (f i)) 2 = (crI n (partF (fun k => movB (f k)) n) (fun i => isW (f i)) 2, false) from Prod.ext rfl c5]
              cases c6 : crB n (partF (fun k => outB (f k)) n) (fun _ => true) 12 with
              | true =>
                rw [show crR n (partF (fun k => outB (f k)) n) (fun _ => true) 12 = (crI n (partF (fun k => outB (f k)) n) (fun _ => true) 12, true) from Prod.ext rfl c6]
                exact wc48vc _ n f hA hB hF c1 hs c3 c4 hk (Nat.beq_refl n) (okP_part _ n hn) c5 (okP_part _ n hn) c6
              | false =>
                rw [show crR n (partF (fun k => outB (f k)) n) (fun _ => true) 12 = (crI n (partF (fun k => outB (f k)) n) (fun _ => true) 12, false) from Prod.ext rfl c6]
                exact wc48vz _ n f hA hB hF c1 hs c3 c4 hk (Nat.beq_refl n) (okP_part _ n hn) c5 (okP_part _ n hn) c6

theorem p48 : PureC Tryz.prog Gl 20 chkT := by
  refine pureC_intro tabOK mixed Tryz.func20 (by kernel_rfl) (by kernel_rfl) fun vs v h' h => ?_
  unfold chkT at h
  split at h
  · rename_i a u
    obtain ⟨n, f, ha, h1⟩ := apL_some h
    obtain ⟨hn, hq⟩ := sem_br_fail h1
    have := sem_leaf hq
    simp only [Prod.mk.injEq] at this
    obtain ⟨rfl, rfl⟩ := this
    cases ca : ieq a 1 with
    | true =>
      have h9 := ieq_eq ca
      subst h9
      have hx := cx_ok tb48_ok []
      exact ⟨_, cxOf Gl tb48 [], _, argI ha, rfl, hx.1, hx.2, told48x n f hn, RowsLE.refl _⟩
    | false =>
      cases cb : ieq a 2 with
      | true =>
        have h9 := ieq_eq cb
        subst h9
        have hx := cx_ok tb48_ok []
        exact ⟨_, cxOf Gl tb48 [], _, argI ha, rfl, hx.1, hx.2, told48v n f hn, RowsLE.refl _⟩
      | false =>
        have hx := cx_ok tb48_ok []
        refine ⟨_, cxOf Gl tb48 [], _, argI ha, rfl, hx.1, hx.2, ?_, RowsLE.refl _⟩
        unfold chkR
        rw [ca, cb]
        exact wc48a _ a n f ca cb
  · cases h

end Go.Proofs.YtkcbdemfmjciiaaGreatDoor.Ed




