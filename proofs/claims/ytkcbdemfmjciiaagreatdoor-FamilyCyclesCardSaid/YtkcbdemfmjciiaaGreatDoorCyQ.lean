/-
  Why one of some edges is not to be there; how many events have one number. No conditions.
-/
import Derived.Test.YtkcbdemfmjciiaaGreatDoorCyP
namespace Go.Proofs.YtkcbdemfmjciiaaGreatDoor.Ed
open Go.Sy


def badL (a : Int) (f : Nat → E6) (i : Nat) : Bool := bnot (band (ieq (legF a (f i)) 0) (legR a (f i)))
def badM (n : Nat) (f : Nat → E6) (i : Nat) : Bool := bnot (ieq (f i).dst (f ((i + 1) % n)).src)

noncomputable def tb86 : List (Nat × (List V → T (V × List Blk))) := (78, ap2 gI toE fun a e => out (legP a e)) :: []
theorem tb86_ok : AllPure Tryz.prog Gl tb86 := .cons p32 .nil

theorem next_mod {i n : Nat} (h : i < n) (hn : n ≤ 4611686018427387904) : itmod (wr IntKind.i64 (iadd (Int.ofNat i) 1)) (Int.ofNat n) = Int.ofNat ((i + 1) % n) := by rw [succ_wr h hn, mod_nat]
theorem ne_0 {i n : Nat} (h : i < n) : ieq (Int.ofNat n) 0 = false := by rw [show (0 : Int) = Int.ofNat 0 from rfl, ieq_nat, decide_eq_false (by omega)]

def lp86 (a : Int) (n : Nat) (f : Nat → E6) : Lp := ⟨[true, true, false, false, true, true, false, false, false, false, false, false, true, true, true, false, false, false, false, false, false, false, false, false, false, false, false, false, false, false, false, false, false, false, false, false, false, false, false, false, false, false, false, false, false, false, false, false, false, false, false, false, false], 0, [false, true, false, false, true, true, false, false, false, false, false, false, false, false, false, false, false, false, false, false, false, false, false, false, false, false, false, false, false, false, false, false, false, false, false, false, false, false, false, false, false, false, false, false, false, false, false, false, false, false, false, false, false], 0, n + 1⟩
def st86 (a : Int) (n : Nat) (f : Nat → E6) (i : Nat) (j : Nat → V) : St := ⟨[iV a, .sl 6 n (fun i => (eV (f i))), j 2, j 3, iV 0, iV 0, j 6, j 7, j 8, j 9, j 10, j 11, .sl 6 n (fun i => (eV (f i))), iV (Int.ofNat n), iV (Int.ofNat i), j 15, j 16, j 17, j 18, j 19, j 20, j 21, j 22, j 23, j 24, j 25, j 26, j 27, j 28, j 29, j 30, j 31, j 32, j 33, j 34, j 35, j 36, j 37, j 38, j 39, j 40, j 41, j 42, j 43, j 44, j 45, j 46, j 47, j 48, j 49, j 50, j 51, j 52], []⟩
def en86e (a : Int) (n : Nat) (f : Nat → E6) (i : Nat) : Ex × St := (.ex 0, ⟨[.und, .sl 6 n (fun i => (eV (f i))), .und, .und, iV 0, iV 0, .und, .und, .und, .und, .und, .und, .und, .und, .und, .und, .und, .und, .und, .und, .und, .und, .und, .und, .und, .und, .und, .und, .und, .und, .und, .und, .und, .und, .und, .und, .und, .und, .und, .und, .und, .und, .und, .und, .und, .und, .und, .und, .und, .und, .und, .und, .und], []⟩)
def en86f (a : Int) (n : Nat) (f : Nat → E6) (i : Nat) : Ex × St := (.rt, ⟨[.und, .sl 6 n (fun i => (eV (f i))), .und, .und, iV 30, iV (Int.ofNat i), .und, .und, .und, .und, .und, .und, .und, .und, .und, .und, .und, .und, .und, .und, .und, .und, .und, .und, .und, .und, .und, .und, .und, .und, .und, .und, .und, .und, .und, .und, .und, .und, .und, .und, .und, .und, .und, .und, .und, .und, .und, .und, .und, .und, .und, .und, .und], []⟩)
def en86l (a : Int) (n : Nat) (f : Nat → E6) (i : Nat) : Ex × St := (.rt, ⟨[.und, .sl 6 n (fun i => (eV (f i))), .und, .und, iV 5, iV (Int.ofNat i), .und, .und, .und, .und, .und, .und, .und, .und, .und, .und, .und, .und, .und, .und, .und, .und, .und, .und, .und, .und, .und, .und, .und, .und, .und, .und, .und, .und, .und, .und, .und, .und, .und, .und, .und, .und, .und, .und, .und, .und, .und, .und, .und, .und, .und, .und, .und], []⟩)
noncomputable def body86 (L : Nat → (St → T (Ex × St)) → St → T (Ex × St)) : St → T (Ex × St) := fun st => evalC tab ⟨callT tb86, L, Gl⟩ (loopBody Tryz.f39 0) 0 st
theorem rc86e (L : Nat → (St → T (Ex × St)) → St → T (Ex × St)) (a : Int) (n : Nat) (f : Nat → E6) (i : Nat)  (j : Nat → V) (h0 : ilt (Int.ofNat i) (Int.ofNat n) = false) : ((body86 L (st86 a n f i j)).bind fun r => T.leaf (cutR (lp86 a n f) r)).sem = some ((.ex 0), ⟨[.und, (.sl 6 n (fun i => (eV (f i)))), .und, .und, (iV 0), (iV 0), .und, .und, .und, .und, .und, .und, .und, .und, .und, .und, .und, .und, .und, .und, .und, .und, .und, .und, .und, .und, .und, .und, .und, .und, .und, .und, .und, .und, .und, .und, .und, .und, .und, .und, .und, .und, .und, .und, .und, .und, .und, .und, .und, .und, .und, .und, .und], []⟩) := by
  exact sem_of_path (ds := [false]) (cs := [(ilt (Int.ofNat i) (Int.ofNat n))]) (by kernel_rfl) (by simp only [h0] <;> rfl)
theorem rc86f (L : Nat → (St → T (Ex × St)) → St → T (Ex × St)) (a : Int) (n : Nat) (f : Nat → E6) (i : Nat)  (j : Nat → V) (h0 : ilt (Int.ofNat i) (Int.ofNat n) = true) (h1 : band (ile 0 (Int.ofNat i)) (ilt (Int.ofNat i) (Int.ofNat n)) = true) (h2 : ieq (legF a (f i)) 0 = false) : ((body86 L (st86 a n f i j)).bind fun r => T.leaf (cutR (lp86 a n f) r)).sem = some (.rt, ⟨[.und, (.sl 6 n (fun i => (eV (f i)))), .und, .und, (iV 30), (iV (Int.ofNat i)), .und, .und, .und, .und, .und, .und, .und, .und, .und, .und, .und, .und, .und, .und, .und, .und, .und, .und, .und, .und, .und, .und, .und, .und, .und, .und, .und, .und, .und, .und, .und, .und, .und, .und, .und, .und, .und, .und, .und, .und, .und, .und, .und, .und, .und, .und, .und], []⟩) := by
  exact sem_of_path (ds := [true, true, true]) (cs := [(ilt (Int.ofNat i) (Int.ofNat n)), (band (ile 0 (Int.ofNat i)) (ilt (Int.ofNat i) (Int.ofNat n))), (bnot (ieq (legF a (f i)) 0))]) (by kernel_rfl) (by simp only [h1] <;> simp only [h0, h2] <;> rfl)
theorem rc86l (L : Nat → (St → T (Ex × St)) → St → T (Ex × St)) (a : Int) (n : Nat) (f : Nat → E6) (i : Nat)  (j : Nat → V) (h0 : ilt (Int.ofNat i) (Int.ofNat n) = true) (h1 : band (ile 0 (Int.ofNat i)) (ilt (Int.ofNat i) (Int.ofNat n)) = true) (h2 : ieq (legF a (f i)) 0 = true) (h3 : legR a (f i) = false) : ((body86 L (st86 a n f i j)).bind fun r => T.leaf (cutR (lp86 a n f) r)).sem = some (.rt, ⟨[.und, (.sl 6 n (fun i => (eV (f i)))), .und, .und, (iV 5), (iV (Int.ofNat i)), .und, .und, .und, .und, .und, .und, .und, .und, .und, .und, .und, .und, .und, .und, .und, .und, .und, .und, .und, .und, .und, .und, .und, .und, .und, .und, .und, .und, .und, .und, .und, .und, .und, .und, .und, .und, .und, .und, .und, .und, .und, .und, .und, .und, .und, .und, .und], []⟩) := by
  exact sem_of_path (ds := [true, true, false, true]) (cs := [(ilt (Int.ofNat i) (Int.ofNat n)), (band (ile 0 (Int.ofNat i)) (ilt (Int.ofNat i) (Int.ofNat n))), (bnot (ieq (legF a (f i)) 0)), (bnot (legR a (f i)))]) (by kernel_rfl) (by simp only [h1] <;> simp only [h0, h2, h3] <;> rfl)
theorem rc86n (L : Nat → (St → T (Ex × St)) → St → T (Ex × St)) (a : Int) (n : Nat) (f : Nat → E6) (i : Nat)  (j : Nat → V) (h0 : ilt (Int.ofNat i) (Int.ofNat n) = true) (h1 : band (ile 0 (Int.ofNat i)) (ilt (Int.ofNat i) (Int.ofNat n)) = true) (h2 : ieq (legF a (f i)) 0 = true) (h3 : legR a (f i) = true) : ((body86 L (st86 a n f i j)).bind fun r => T.leaf (cutR (lp86 a n f) r)).sem = some (.nm, ⟨[(iV a), (.sl 6 n (fun i => (eV (f i)))), .und, .und, (iV 0), (iV 0), .und, .und, .und, .und, .und, .und, (.sl 6 n (fun i => (eV (f i)))), (iV (Int.ofNat n)), (iV (wr IntKind.i64 (iadd (Int.ofNat i) 1))), .und, .und, .und, .und, .und, .und, .und, .und, .und, .und, .und, .und, .und, .und, .und, .und, .und, .und, .und, .und, .und, .und, .und, .und, .und, .und, .und, .und, .und, .und, .und, .und, .und, .und, .und, .und, .und, .und], []⟩) := by
  exact sem_of_path (ds := [true, true, false, false]) (cs := [(ilt (Int.ofNat i) (Int.ofNat n)), (band (ile 0 (Int.ofNat i)) (ilt (Int.ofNat i) (Int.ofNat n))), (bnot (ieq (legF a (f i)) 0)), (bnot (legR a (f i)))]) (by kernel_rfl) (by simp only [h1] <;> simp only [h0, h2, h3] <;> rfl)
def jk86 (a : Int) (n : Nat) (f : Nat → E6)  : Nat → V
  | _ => undefV

def lp86_2 (a : Int) (n : Nat) (f : Nat → E6) : Lp := ⟨[false, true, false, false, true, true, false, false, false, false, false, false, false, false, false, false, false, false, false, false, false, false, false, false, false, false, false, false, false, false, false, false, true, true, true, false, false, false, false, false, false, false, false, false, false, false, false, false, false, false, false, false, false], 0, [false, false, false, false, true, true, false, false, false, false, false, false, false, false, false, false, false, false, false, false, false, false, false, false, false, false, false, false, false, false, false, false, false, false, false, false, false, false, false, false, false, false, false, false, false, false, false, false, false, false, false, false, false], 0, n + 1⟩
def st86_2 (a : Int) (n : Nat) (f : Nat → E6) (i : Nat) (j : Nat → V) : St := ⟨[j 0, .sl 6 n (fun i => (eV (f i))), j 2, j 3, iV 0, iV 0, j 6, j 7, j 8, j 9, j 10, j 11, j 12, j 13, j 14, j 15, j 16, j 17, j 18, j 19, j 20, j 21, j 22, j 23, j 24, j 25, j 26, j 27, j 28, j 29, j 30, j 31, .sl 6 n (fun i => (eV (f i))), iV (Int.ofNat n), iV (Int.ofNat i), j 35, j 36, j 37, j 38, j 39, j 40, j 41, j 42, j 43, j 44, j 45, j 46, j 47, j 48, j 49, j 50, j 51, j 52], []⟩
def en86_2e (a : Int) (n : Nat) (f : Nat → E6) (i : Nat) : Ex × St := (.ex 2, ⟨[.und, .und, .und, .und, iV 0, iV 0, .und, .und, .und, .und, .und, .und, .und, .und, .und, .und, .und, .und, .und, .und, .und, .und, .und, .und, .und, .und, .und, .und, .und, .und, .und, .und, .und, .und, .und, .und, .und, .und, .und, .und, .und, .und, .und, .und, .und, .und, .und, .und, .und, .und, .und, .und, .und], []⟩)
def en86_2m (a : Int) (n : Nat) (f : Nat → E6) (i : Nat) : Ex × St := (.rt, ⟨[.und, .und, .und, .und, iV 41, iV (Int.ofNat i), .und, .und, .und, .und, .und, .und, .und, .und, .und, .und, .und, .und, .und, .und, .und, .und, .und, .und, .und, .und, .und, .und, .und, .und, .und, .und, .und, .und, .und, .und, .und, .und, .und, .und, .und, .und, .und, .und, .und, .und, .und, .und, .und, .und, .und, .und, .und], []⟩)
noncomputable def body86_2 (L : Nat → (St → T (Ex × St)) → St → T (Ex × St)) : St → T (Ex × St) := fun st => evalC tab ⟨callT tb86, L, Gl⟩ (loopBody Tryz.f39 2) 2 st
theorem rd86e (L : Nat → (St → T (Ex × St)) → St → T (Ex × St)) (a : Int) (n : Nat) (f : Nat → E6) (i : Nat)  (j : Nat → V) (h0 : ilt (Int.ofNat i) (Int.ofNat n) = false) : ((body86_2 L (st86_2 a n f i j)).bind fun r => T.leaf (cutR (lp86_2 a n f) r)).sem = some ((.ex 2), ⟨[.und, .und, .und, .und, (iV 0), (iV 0), .und, .und, .und, .und, .und, .und, .und, .und, .und, .und, .und, .und, .und, .und, .und, .und, .und, .und, .und, .und, .und, .und, .und, .und, .und, .und, .und, .und, .und, .und, .und, .und, .und, .und, .und, .und, .und, .und, .und, .und, .und, .und, .und, .und, .und, .und, .und], []⟩) := by
  exact sem_of_path (ds := [false]) (cs := [(ilt (Int.ofNat i) (Int.ofNat n))]) (by kernel_rfl) (by simp only [h0] <;> rfl)
theorem rd86m (L : Nat → (St → T (Ex × St)) → St → T (Ex × St)) (a : Int) (n : Nat) (f : Nat → E6) (i : Nat)  (j : Nat → V) (h0 : ilt (Int.ofNat i) (Int.ofNat n) = true) (h1 : band (ile 0 (Int.ofNat i)) (ilt (Int.ofNat i) (Int.ofNat n)) = true) (h2 : ieq (Int.ofNat n) 0 = false) (h3 : band (ile 0 (itmod (wr IntKind.i64 (iadd (Int.ofNat i) 1)) (Int.ofNat n))) (ilt (itmod (wr IntKind.i64 (iadd (Int.ofNat i) 1)) (Int.ofNat n)) (Int.ofNat n)) = true) (h4 : ieq ((f i)).dst ((f (toN (itmod (wr IntKind.i64 (iadd (Int.ofNat i) 1)) (Int.ofNat n))))).src = false) : ((body86_2 L (st86_2 a n f i j)).bind fun r => T.leaf (cutR (lp86_2 a n f) r)).sem = some (.rt, ⟨[.und, .und, .und, .und, (iV 41), (iV (Int.ofNat i)), .und, .und, .und, .und, .und, .und, .und, .und, .und, .und, .und, .und, .und, .und, .und, .und, .und, .und, .und, .und, .und, .und, .und, .und, .und, .und, .und, .und, .und, .und, .und, .und, .und, .und, .und, .und, .und, .und, .und, .und, .und, .und, .und, .und, .und, .und, .und], []⟩) := by
  exact sem_of_path (ds := [true, true, false, true, true]) (cs := [(ilt (Int.ofNat i) (Int.ofNat n)), (band (ile 0 (Int.ofNat i)) (ilt (Int.ofNat i) (Int.ofNat n))), (ieq (Int.ofNat n) 0), (band (ile 0 (itmod (wr IntKind.i64 (iadd (Int.ofNat i) 1)) (Int.ofNat n))) (ilt (itmod (wr IntKind.i64 (iadd (Int.ofNat i) 1)) (Int.ofNat n)) (Int.ofNat n))), (bnot (ieq ((f i)).dst ((f (toN (itmod (wr IntKind.i64 (iadd (Int.ofNat i) 1)) (Int.ofNat n))))).src))]) (by kernel_rfl) (by simp only [h1, h3] <;> simp only [h0, h2, h4] <;> rfl)
theorem rd86n (L : Nat → (St → T (Ex × St)) → St → T (Ex × St)) (a : Int) (n : Nat) (f : Nat → E6) (i : Nat)  (j : Nat → V) (h0 : ilt (Int.ofNat i) (Int.ofNat n) = true) (h1 : band (ile 0 (Int.ofNat i)) (ilt (Int.ofNat i) (Int.ofNat n)) = true) (h2 : ieq (Int.ofNat n) 0 = false) (h3 : band (ile 0 (itmod (wr IntKind.i64 (iadd (Int.ofNat i) 1)) (Int.ofNat n))) (ilt (itmod (wr IntKind.i64 (iadd (Int.ofNat i) 1)) (Int.ofNat n)) (Int.ofNat n)) = true) (h4 : ieq ((f i)).dst ((f (toN (itmod (wr IntKind.i64 (iadd (Int.ofNat i) 1)) (Int.ofNat n))))).src = true) : ((body86_2 L (st86_2 a n f i j)).bind fun r => T.leaf (cutR (lp86_2 a n f) r)).sem = some (.nm, ⟨[.und, (.sl 6 n (fun i => (eV (f i)))), .und, .und, (iV 0), (iV 0), .und, .und, .und, .und, .und, .und, .und, .und, .und, .und, .und, .und, .und, .und, .und, .und, .und, .und, .und, .und, .und, .und, .und, .und, .und, .und, (.sl 6 n (fun i => (eV (f i)))), (iV (Int.ofNat n)), (iV (wr IntKind.i64 (iadd (Int.ofNat i) 1))), .und, .und, .und, .und, .und, .und, .und, .und, .und, .und, .und, .und, .und, .und, .und, .und, .und, .und], []⟩) := by
  exact sem_of_path (ds := [true, true, false, true, false]) (cs := [(ilt (Int.ofNat i) (Int.ofNat n)), (band (ile 0 (Int.ofNat i)) (ilt (Int.ofNat i) (Int.ofNat n))), (ieq (Int.ofNat n) 0), (band (ile 0 (itmod (wr IntKind.i64 (iadd (Int.ofNat i) 1)) (Int.ofNat n))) (ilt (itmod (wr IntKind.i64 (iadd (Int.ofNat i) 1)) (Int.ofNat n)) (Int.ofNat n))), (bnot (ieq ((f i)).dst ((f (toN (itmod (wr IntKind.i64 (iadd (Int.ofNat i) 1)) (Int.ofNat n))))).src))]) (by kernel_rfl) (by simp only [h1, h3] <;> simp only [h0, h2, h4] <;> rfl)
def jk86_2 (a : Int) (n : Nat) (f : Nat → E6) (i : Nat) : Nat → V
  | 0 => .und
  | 2 => .und
  | 3 => .und
  | 6 => .und
  | 7 => .und
  | 8 => .und
  | 9 => .und
  | 10 => .und
  | 11 => .und
  | 12 => .und
  | 13 => .und
  | 14 => .und
  | 15 => .und
  | 16 => .und
  | 17 => .und
  | 18 => .und
  | 19 => .und
  | 20 => .und
  | 21 => .und
  | 22 => .und
  | 23 => .und
  | 24 => .und
  | 25 => .und
  | 26 => .und
  | 27 => .und
  | 28 => .und
  | 29 => .und
  | 30 => .und
  | 31 => .und
  | 35 => .und
  | 36 => .und
  | 37 => .und
  | 38 => .und
  | 39 => .und
  | 40 => .und
  | 41 => .und
  | 42 => .und
  | 43 => .und
  | 44 => .und
  | 45 => .und
  | 46 => .und
  | 47 => .und
  | 48 => .und
  | 49 => .und
  | 50 => .und
  | 51 => .und
  | 52 => .und
  | _ => undefV

theorem wc86f (L : Nat → (St → T (Ex × St)) → St → T (Ex × St)) (p0 : (St → T (Ex × St)) → St → Bool) (a : Int) (n : Nat) (f : Nat → E6) (i : Nat)  (hp0 : p0 (body86 (onP 0 p0 (en86f a n f i) L)) (st86 a n f 0 (jk86 a n f )) = true) : (finF (evalF tab ⟨callT tb86, (onP 0 p0 (en86f a n f i) L), Gl⟩ Tryz.f39 [iV a, edgesV n f] [])).sem = some ((.tup [(iV 30), (iV (Int.ofNat i))]), []) := by
  exact sem_of_path (ds := [true]) (cs := [(p0 (body86 (onP 0 p0 (en86f a n f i) L)) (st86 a n f 0 (jk86 a n f )))]) (by kernel_rfl) (by simp only [hp0] <;> rfl)

theorem wc86l (L : Nat → (St → T (Ex × St)) → St → T (Ex × St)) (p0 : (St → T (Ex × St)) → St → Bool) (a : Int) (n : Nat) (f : Nat → E6) (i : Nat)  (hp0 : p0 (body86 (onP 0 p0 (en86l a n f i) L)) (st86 a n f 0 (jk86 a n f )) = true) : (finF (evalF tab ⟨callT tb86, (onP 0 p0 (en86l a n f i) L), Gl⟩ Tryz.f39 [iV a, edgesV n f] [])).sem = some ((.tup [(iV 5), (iV (Int.ofNat i))]), []) := by
  exact sem_of_path (ds := [true]) (cs := [(p0 (body86 (onP 0 p0 (en86l a n f i) L)) (st86 a n f 0 (jk86 a n f )))]) (by kernel_rfl) (by simp only [hp0] <;> rfl)

theorem wc86m (L : Nat → (St → T (Ex × St)) → St → T (Ex × St)) (p0 : (St → T (Ex × St)) → St → Bool) (p2 : (St → T (Ex × St)) → St → Bool) (a : Int) (n : Nat) (f : Nat → E6) (i j : Nat)  (hp0 : p0 (body86 (onP 0 p0 (en86e a n f i) (onP 2 p2 (en86_2m a n f j) L))) (st86 a n f 0 (jk86 a n f )) = true) (hp2 : p2 (body86_2 (onP 0 p0 (en86e a n f i) (onP 2 p2 (en86_2m a n f j) L))) (st86_2 a n f 0 (jk86_2 a n f i)) = true) : (finF (evalF tab ⟨callT tb86, (onP 0 p0 (en86e a n f i) (onP 2 p2 (en86_2m a n f j) L)), Gl⟩ Tryz.f39 [iV a, edgesV n f] [])).sem = some ((.tup [(iV 41), (iV (Int.ofNat j))]), []) := by
  exact sem_of_path (ds := [true, true]) (cs := [(p0 (body86 (onP 0 p0 (en86e a n f i) (onP 2 p2 (en86_2m a n f j) L))) (st86 a n f 0 (jk86 a n f ))), (p2 (body86_2 (onP 0 p0 (en86e a n f i) (onP 2 p2 (en86_2m a n f j) L))) (st86_2 a n f 0 (jk86_2 a n f i)))]) (by kernel_rfl) (by simp only [hp0, hp2] <;> rfl)

theorem wc86z (L : Nat → (St → T (Ex × St)) → St → T (Ex × St)) (p0 : (St → T (Ex × St)) → St → Bool) (p2 : (St → T (Ex × St)) → St → Bool) (a : Int) (n : Nat) (f : Nat → E6) (i j : Nat)  (hp0 : p0 (body86 (onP 0 p0 (en86e a n f i) (onP 2 p2 (en86_2e a n f j) L))) (st86 a n f 0 (jk86 a n f )) = true) (hp2 : p2 (body86_2 (onP 0 p0 (en86e a n f i) (onP 2 p2 (en86_2e a n f j) L))) (st86_2 a n f 0 (jk86_2 a n f i)) = true) : (finF (evalF tab ⟨callT tb86, (onP 0 p0 (en86e a n f i) (onP 2 p2 (en86_2e a n f j) L)), Gl⟩ Tryz.f39 [iV a, edgesV n f] [])).sem = some ((.tup [(iV 0), (iV 0)]), []) := by
  exact sem_of_path (ds := [true, true]) (cs := [(p0 (body86 (onP 0 p0 (en86e a n f i) (onP 2 p2 (en86_2e a n f j) L))) (st86 a n f 0 (jk86 a n f ))), (p2 (body86_2 (onP 0 p0 (en86e a n f i) (onP 2 p2 (en86_2e a n f j) L))) (st86_2 a n f 0 (jk86_2 a n f i)))]) (by kernel_rfl) (by simp only [hp0, hp2] <;> rfl)

theorem run86 (L : Nat → (St → T (Ex × St)) → St → T (Ex × St)) (a : Int) (n : Nat) (f : Nat → E6) (hn : n ≤ 4611686018427387904) : ∀ (d i : Nat) (j : Nat → V) (q : Nat), n = i + d → d < q →
    (iterT (body86 L) (lp86 a n f) q (st86 a n f i j)).sem = some (match firstQ (badL a f) d i with
      | none => en86e a n f 0
      | some t => match ieq (legF a (f t)) 0 with
        | false => en86f a n f t
        | true => en86l a n f t)
  | 0, i, j, q + 1, h, _ => by
    have : n = i := by omega
    subst this
    exact iter_round (rc86e L a n f n j (ofNat_ge (Nat.le_refl _)))
  | d + 1, i, j, q + 1, h, h2 => by
    have hl : i < n := by omega
    cases c1 : ieq (legF a (f i)) 0 with
    | false =>
      rw [firstQ_t (show badL a f i = true by rw [badL, c1]; rfl)]
      simp only [c1]
      exact iter_round (rc86f L a n f i j (ofNat_lt hl) (ofNat_in hl) c1)
    | true =>
      cases c2 : legR a (f i) with
      | false =>
        rw [firstQ_t (show badL a f i = true by rw [badL, c1, c2]; rfl)]
        simp only [c1]
        exact iter_round (rc86l L a n f i j (ofNat_lt hl) (ofNat_in hl) c1 c2)
      | true =>
        rw [firstQ_f (show badL a f i = false by rw [badL, c1, c2]; rfl), iter_round (rc86n L a n f i j (ofNat_lt hl) (ofNat_in hl) c1 c2), goOn_nm, succ_wr hl hn]
        exact run86 L a n f hn d (i + 1) (fun _ => .und) q (by omega) (by omega)

theorem run86m (L : Nat → (St → T (Ex × St)) → St → T (Ex × St)) (a : Int) (n : Nat) (f : Nat → E6) (hn : n ≤ 4611686018427387904) : ∀ (d i : Nat) (j : Nat → V) (q : Nat), n = i + d → d < q →
    (iterT (body86_2 L) (lp86_2 a n f) q (st86_2 a n f i j)).sem = some (match firstQ (badM n f) d i with
      | none => en86_2e a n f 0
      | some t => en86_2m a n f t)
  | 0, i, j, q + 1, h, _ => by
    have : n = i := by omega
    subst this
    exact iter_round (rd86e L a n f n j (ofNat_ge (Nat.le_refl _)))
  | d + 1, i, j, q + 1, h, h2 => by
    have hl : i < n := by omega
    have e1 := next_mod hl hn
    have hb : band (ile 0 (itmod (wr IntKind.i64 (iadd (Int.ofNat i) 1)) (Int.ofNat n))) (ilt (itmod (wr IntKind.i64 (iadd (Int.ofNat i) 1)) (Int.ofNat n)) (Int.ofNat n)) = true := by
      rw [e1]; exact ofNat_in (Nat.mod_lt _ (by omega))
    have e2 : toN (Int.ofNat ((i + 1) % n)) = (i + 1) % n := rfl
    cases c1 : ieq (f i).dst (f ((i + 1) % n)).src with
    | false =>
      rw [firstQ_t (show badM n f i = true by rw [badM, c1]; rfl)]
      exact iter_round (rd86m L a n f i j (ofNat_lt hl) (ofNat_in hl) (ne_0 hl) hb (by rw [e1, e2]; exact c1))
    | true =>
      rw [firstQ_f (show badM n f i = false by rw [badM, c1]; rfl), iter_round (rd86n L a n f i j (ofNat_lt hl) (ofNat_in hl) (ne_0 hl) hb (by rw [e1, e2]; exact c1)), goOn_nm, succ_wr hl hn]
      exact run86m L a n f hn d (i + 1) (fun _ => .und) q (by omega) (by omega)

/-- Why one of some edges is not to be there, and where. -/
def edgR (a : Int) (n : Nat) (f : Nat → E6) : Int × Int :=
  match firstQ (badL a f) n 0 with
  | some t => match ieq (legF a (f t)) 0 with
    | false => (30, Int.ofNat t)
    | true => (5, Int.ofNat t)
  | none => match firstQ (badM n f) n 0 with
    | some t => (41, Int.ofNat t)
    | none => (0, 0)

def edgT : List V → T (V × List Blk)
  | [.val (.int .i64 a), v] => apL v fun n f => .br (fitN n) (out (.tup [iV (edgR a n f).1, iV (edgR a n f).2])) .fail
  | _ => .fail

theorem argI {a : Int} {v u : V} (h : ∀ (S : Nat → Prop) (w : World) (c : Value), VR S w v noK c → VR S w u noK c) : ArgLE [.val (.int .i64 a), v] [iV a, u] := fun S w cs hv => by
  obtain ⟨c, l, rfl, q1, q2⟩ := hv
  obtain ⟨c2, l2, rfl, q3, q4⟩ := q2
  exact ⟨c, _, rfl, q1, c2, l2, rfl, h S w c2 q3, q4⟩

theorem p86 : PureC Tryz.prog Gl 39 edgT := by
  refine pureC_intro tabOK mixed Tryz.func39 (by kernel_rfl) (by kernel_rfl) fun vs v h' h => ?_
  unfold edgT at h
  split at h
  · rename_i a u
    obtain ⟨n, f, ha, h1⟩ := apL_some h
    obtain ⟨hn, hq⟩ := sem_br_fail h1
    have := sem_leaf hq
    simp only [Prod.mk.injEq] at this
    obtain ⟨rfl, rfl⟩ := this
    have hn := fit8_small (fitN_8 hn)
    have hx := cx_ok tb86_ok [(0, lp86 a n f), (2, lp86_2 a n f)]
    have hL := loopsBy_le [(0, lp86 a n f), (2, lp86_2 a n f)]
    have h0 := fun L j => run86 L a n f hn n 0 j (n + 1) (by omega) (by omega)
    have h2 := fun L j => run86m L a n f hn n 0 j (n + 1) (by omega) (by omega)
    refine ⟨_, cxOf Gl tb86 [(0, lp86 a n f), (2, lp86_2 a n f)], _, argI ha, rfl, hx.1, hx.2, ?_, RowsLE.refl _⟩
    unfold edgR
    cases c1 : firstQ (badL a f) n 0 with
    | some t =>
      rw [c1] at h0
      cases c2 : ieq (legF a (f t)) 0 with
      | false =>
        simp only [c2] at h0 ⊢
        exact told_le (onP_le hL hL) _ (wc86f _ _ a n f t (isP_true (h0 _ _)))
      | true =>
        simp only [c2] at h0 ⊢
        exact told_le (onP_le hL hL) _ (wc86l _ _ a n f t (isP_true (h0 _ _)))
    | none =>
      rw [c1] at h0
      cases c2 : firstQ (badM n f) n 0 with
      | some t =>
        rw [c2] at h2
        exact told_le (onP_le (onP_le hL hL) hL) _ (wc86m _ _ _ a n f 0 t (isP_true (h0 _ _)) (isP_true (h2 _ _)))
      | none =>
        rw [c2] at h2
        exact told_le (onP_le (onP_le hL hL) hL) _ (wc86z _ _ _ a n f 0 0 (isP_true (h0 _ _)) (isP_true (h2 _ _)))
  · cases h

/-! ### How many events have one number -/

def lp96 (n : Nat) (f : Nat → E6) (m : Nat) (l : Nat → Int) (k : Int) (w : Bool) : Lp := ⟨[true, true, true, true, false, false, false, false, false, true, true, false, false, false, false, false, false, false, false, false, false, false, false, false, false, false, false, false, false, false, false, false, false, false, false, false, false, false], 0, [false, false, false, false, false, false, false, false, false, true, false, false, false, false, false, false, false, false, false, false, false, false, false, false, false, false, false, false, false, false, false, false, false, false, false, false, false, false], 0, n + 1⟩
def st96 (n : Nat) (f : Nat → E6) (m : Nat) (l : Nat → Int) (k : Int) (w : Bool) (c : Int) (i : Nat) (j : Nat → V) : St := ⟨[.sl 6 n (fun i => (eV (f i))), .sl 1 m (fun k => iV (l k)), iV k, bV w, j 4, j 5, j 6, j 7, j 8, iV c, iV (Int.ofNat i), j 11, j 12, j 13, j 14, j 15, j 16, j 17, j 18, j 19, j 20, j 21, j 22, j 23, j 24, j 25, j 26, j 27, j 28, j 29, j 30, j 31, j 32, j 33, j 34, j 35, j 36, j 37], []⟩
def en96e (n : Nat) (f : Nat → E6) (m : Nat) (l : Nat → Int) (k : Int) (w : Bool) (c : Int) (i : Nat) : Ex × St := (.ex 0, ⟨[.und, .und, .und, .und, .und, .und, .und, .und, .und, iV c, .und, .und, .und, .und, .und, .und, .und, .und, .und, .und, .und, .und, .und, .und, .und, .und, .und, .und, .und, .und, .und, .und, .und, .und, .und, .und, .und, .und], []⟩)
noncomputable def body96 (L : Nat → (St → T (Ex × St)) → St → T (Ex × St)) : St → T (Ex × St) := fun st => evalC tab ⟨callT tb0, L, Gl⟩ (loopBody Tryz.f36 0) 0 st
theorem rc96e (L : Nat → (St → T (Ex × St)) → St → T (Ex × St)) (n : Nat) (f : Nat → E6) (m : Nat) (l : Nat → Int) (k : Int) (w : Bool) (c : Int) (i : Nat)  (j : Nat → V) (h0 : ilt (Int.ofNat i) (Int.ofNat n) = false) : ((body96 L (st96 n f m l k w c i j)).bind fun r => T.leaf (cutR (lp96 n f m l k w) r)).sem = some ((.ex 0), ⟨[.und, .und, .und, .und, .und, .und, .und, .und, .und, (iV c), .und, .und, .und, .und, .und, .und, .und, .und, .und, .und, .und, .und, .und, .und, .und, .und, .und, .und, .und, .und, .und, .und, .und, .und, .und, .und, .und, .und], []⟩) := by
  exact sem_of_path (ds := [false]) (cs := [(ilt (Int.ofNat i) (Int.ofNat n))]) (by kernel_rfl) (by simp only [h0] <;> rfl)
theorem rc96a (L : Nat → (St → T (Ex × St)) → St → T (Ex × St)) (n : Nat) (f : Nat → E6) (m : Nat) (l : Nat → Int) (k : Int) (w : Bool) (c : Int) (i : Nat)  (j : Nat → V) (h0 : ilt (Int.ofNat i) (Int.ofNat n) = true) (h1 : band (ile 0 (Int.ofNat i)) (ilt (Int.ofNat i) (Int.ofNat m)) = true) (h2 : ieq (l i) k = false) : ((body96 L (st96 n f m l k w c i j)).bind fun r => T.leaf (cutR (lp96 n f m l k w) r)).sem = some (.nm, ⟨[(.sl 6 n (fun i => (eV (f i)))), (.sl 1 m (fun k => (iV (l k)))), (iV k), (bV w), .und, .und, .und, .und, .und, (iV c), (iV (wr IntKind.i64 (iadd (Int.ofNat i) 1))), .und, .und, .und, .und, .und, .und, .und, .und, .und, .und, .und, .und, .und, .und, .und, .und, .und, .und, .und, .und, .und, .und, .und, .und, .und, .und, .und], []⟩) := by
  exact sem_of_path (ds := [true, true, false, false, false, false, false, false]) (cs := [(ilt (Int.ofNat i) (Int.ofNat n)), (band (ile 0 (Int.ofNat i)) (ilt (Int.ofNat i) (Int.ofNat m))), (ieq (l i) k), (ieq (l i) k), (ieq (l i) k), (ieq (l i) k), (ieq (l i) k), Bool.false]) (by kernel_rfl) (by simp only [h1] <;> simp only [h0, h2] <;> rfl)
theorem rc96b_p (L : Nat → (St → T (Ex × St)) → St → T (Ex × St)) (n : Nat) (f : Nat → E6) (m : Nat) (l : Nat → Int) (k : Int) (w : Bool) (c : Int) (i : Nat)  (j : Nat → V) : ((body96 L (st96 n f m l k w c i j)).bind fun r => T.leaf (cutR (lp96 n f m l k w) r)).path [true, true, true, true, true, true, true, true, true, true, true, true, true, true, true] = some ([(ilt (Int.ofNat i) (Int.ofNat n)), (band (ile 0 (Int.ofNat i)) (ilt (Int.ofNat i) (Int.ofNat m))), (ieq (l i) k), (ieq (l i) k), (ieq (l i) k), (bnot w), (bnot w), (bnot w), (bnot w), (bnot w), (bnot w), (ieq (l i) k), (bnot w), (ieq (l i) k), Bool.true], (.nm, ⟨[(.sl 6 n (fun i => (eV (f i)))), (.sl 1 m (fun k => (iV (l k)))), (iV k), (bV w), .und, .und, .und, .und, .und, (iV (wr IntKind.i64 (iadd c 1))), (iV (wr IntKind.i64 (iadd (Int.ofNat i) 1))), .und, .und, .und, .und, .und, .und, .und, .und, .und, .und, .und, .und, .und, .und, .und, .und, .und, .und, .und, .und, .und, .und, .und, .und, .und, .und, .und], []⟩)) := by kernel_rfl
theorem rc96b (L : Nat → (St → T (Ex × St)) → St → T (Ex × St)) (n : Nat) (f : Nat → E6) (m : Nat) (l : Nat → Int) (k : Int) (w : Bool) (c : Int) (i : Nat)  (j : Nat → V) (h0 : ilt (Int.ofNat i) (Int.ofNat n) = true) (h1 : band (ile 0 (Int.ofNat i)) (ilt (Int.ofNat i) (Int.ofNat m)) = true) (h2 : ieq (l i) k = true) (h3 : w = false) : ((body96 L (st96 n f m l k w c i j)).bind fun r => T.leaf (cutR (lp96 n f m l k w) r)).sem = some (.nm, ⟨[(.sl 6 n (fun i => (eV (f i)))), (.sl 1 m (fun k => (iV (l k)))), (iV k), (bV w), .und, .und, .und, .und, .und, (iV (wr IntKind.i64 (iadd c 1))), (iV (wr IntKind.i64 (iadd (Int.ofNat i) 1))), .und, .und, .und, .und, .und, .und, .und, .und, .und, .und, .und, .und, .und, .und, .und, .und, .und, .und, .und, .und, .und, .und, .und, .und, .und, .und, .und], []⟩) := by
  subst h3; exact sem_of_path (rc96b_p L n f m l k false c i j) (by simp only [h1] <;> simp only [h0, h2] <;> rfl)
theorem rc96c_p (L : Nat → (St → T (Ex × St)) → St → T (Ex × St)) (n : Nat) (f : Nat → E6) (m : Nat) (l : Nat → Int) (k : Int) (w : Bool) (c : Int) (i : Nat)  (j : Nat → V) : ((body96 L (st96 n f m l k w c i j)).bind fun r => T.leaf (cutR (lp96 n f m l k w) r)).path [true, true, true, true, true, false, false, false, true, false, false, false, true, false, true, true] = some ([(ilt (Int.ofNat i) (Int.ofNat n)), (band (ile 0 (Int.ofNat i)) (ilt (Int.ofNat i) (Int.ofNat m))), (ieq (l i) k), (ieq (l i) k), (ieq (l i) k), (bnot w), (bnot w), (bnot w), (band (ile 0 (Int.ofNat i)) (ilt (Int.ofNat i) (Int.ofNat n))), (bnot w), (bnot w), (bnot w), (ieq (l i) k), (bnot w), (ieq (l i) k), (ieq ((f i)).src 2)], (.nm, ⟨[(.sl 6 n (fun i => (eV (f i)))), (.sl 1 m (fun k => (iV (l k)))), (iV k), (bV w), .und, .und, .und, .und, .und, (iV (wr IntKind.i64 (iadd c 1))), (iV (wr IntKind.i64 (iadd (Int.ofNat i) 1))), .und, .und, .und, .und, .und, .und, .und, .und, .und, .und, .und, .und, .und, .und, .und, .und, .und, .und, .und, .und, .und, .und, .und, .und, .und, .und, .und], []⟩)) := by kernel_rfl
theorem rc96c (L : Nat → (St → T (Ex × St)) → St → T (Ex × St)) (n : Nat) (f : Nat → E6) (m : Nat) (l : Nat → Int) (k : Int) (w : Bool) (c : Int) (i : Nat)  (j : Nat → V) (h0 : ilt (Int.ofNat i) (Int.ofNat n) = true) (h1 : band (ile 0 (Int.ofNat i)) (ilt (Int.ofNat i) (Int.ofNat m)) = true) (h2 : ieq (l i) k = true) (h3 : w = true) (h4 : band (ile 0 (Int.ofNat i)) (ilt (Int.ofNat i) (Int.ofNat n)) = true) (h5 : ieq ((f i)).src 2 = true) : ((body96 L (st96 n f m l k w c i j)).bind fun r => T.leaf (cutR (lp96 n f m l k w) r)).sem = some (.nm, ⟨[(.sl 6 n (fun i => (eV (f i)))), (.sl 1 m (fun k => (iV (l k)))), (iV k), (bV w), .und, .und, .und, .und, .und, (iV (wr IntKind.i64 (iadd c 1))), (iV (wr IntKind.i64 (iadd (Int.ofNat i) 1))), .und, .und, .und, .und, .und, .und, .und, .und, .und, .und, .und, .und, .und, .und, .und, .und, .und, .und, .und, .und, .und, .und, .und, .und, .und, .und, .und], []⟩) := by
  subst h3; exact sem_of_path (rc96c_p L n f m l k true c i j) (by simp only [h1, h4] <;> simp only [h0, h2, h5] <;> rfl)
theorem rc96d_p (L : Nat → (St → T (Ex × St)) → St → T (Ex × St)) (n : Nat) (f : Nat → E6) (m : Nat) (l : Nat → Int) (k : Int) (w : Bool) (c : Int) (i : Nat)  (j : Nat → V) : ((body96 L (st96 n f m l k w c i j)).bind fun r => T.leaf (cutR (lp96 n f m l k w) r)).path [true, true, true, true, true, false, false, false, true, false, false, false, true, false, true, false] = some ([(ilt (Int.ofNat i) (Int.ofNat n)), (band (ile 0 (Int.ofNat i)) (ilt (Int.ofNat i) (Int.ofNat m))), (ieq (l i) k), (ieq (l i) k), (ieq (l i) k), (bnot w), (bnot w), (bnot w), (band (ile 0 (Int.ofNat i)) (ilt (Int.ofNat i) (Int.ofNat n))), (bnot w), (bnot w), (bnot w), (ieq (l i) k), (bnot w), (ieq (l i) k), (ieq ((f i)).src 2)], (.nm, ⟨[(.sl 6 n (fun i => (eV (f i)))), (.sl 1 m (fun k => (iV (l k)))), (iV k), (bV w), .und, .und, .und, .und, .und, (iV c), (iV (wr IntKind.i64 (iadd (Int.ofNat i) 1))), .und, .und, .und, .und, .und, .und, .und, .und, .und, .und, .und, .und, .und, .und, .und, .und, .und, .und, .und, .und, .und, .und, .und, .und, .und, .und, .und], []⟩)) := by kernel_rfl
theorem rc96d (L : Nat → (St → T (Ex × St)) → St → T (Ex × St)) (n : Nat) (f : Nat → E6) (m : Nat) (l : Nat → Int) (k : Int) (w : Bool) (c : Int) (i : Nat)  (j : Nat → V) (h0 : ilt (Int.ofNat i) (Int.ofNat n) = true) (h1 : band (ile 0 (Int.ofNat i)) (ilt (Int.ofNat i) (Int.ofNat m)) = true) (h2 : ieq (l i) k = true) (h3 : w = true) (h4 : band (ile 0 (Int.ofNat i)) (ilt (Int.ofNat i) (Int.ofNat n)) = true) (h5 : ieq ((f i)).src 2 = false) : ((body96 L (st96 n f m l k w c i j)).bind fun r => T.leaf (cutR (lp96 n f m l k w) r)).sem = some (.nm, ⟨[(.sl 6 n (fun i => (eV (f i)))), (.sl 1 m (fun k => (iV (l k)))), (iV k), (bV w), .und, .und, .und, .und, .und, (iV c), (iV (wr IntKind.i64 (iadd (Int.ofNat i) 1))), .und, .und, .und, .und, .und, .und, .und, .und, .und, .und, .und, .und, .und, .und, .und, .und, .und, .und, .und, .und, .und, .und, .und, .und, .und, .und, .und], []⟩) := by
  subst h3; exact sem_of_path (rc96d_p L n f m l k true c i j) (by simp only [h1, h4] <;> simp only [h0, h2, h5] <;> rfl)
def jk96 (n : Nat) (f : Nat → E6) (m : Nat) (l : Nat → Int) (k : Int) (w : Bool)  : Nat → V
  | 8 => (iV 0)
  | _ => undefV

theorem wc96 (L : Nat → (St → T (Ex × St)) → St → T (Ex × St)) (p0 : (St → T (Ex × St)) → St → Bool) (n : Nat) (f : Nat → E6) (m : Nat) (l : Nat → Int) (k : Int) (w : Bool) (c : Int) (i : Nat)  (hp0 : p0 (body96 (onP 0 p0 (en96e n f m l k w c i) L)) (st96 n f m l k w 0 0 (jk96 n f m l k w )) = true) : (finF (evalF tab ⟨callT tb0, (onP 0 p0 (en96e n f m l k w c i) L), Gl⟩ Tryz.f36 [edgesV n f, intsV m l, iV k, bV w] [])).sem = some ((iV c), []) := by
  exact sem_of_path (ds := [true]) (cs := [(p0 (body96 (onP 0 p0 (en96e n f m l k w c i) L)) (st96 n f m l k w 0 0 (jk96 n f m l k w )))]) (by kernel_rfl) (by simp only [hp0] <;> rfl)

def isW (e : E6) : Bool := ieq e.src 2
/-- How many of those that count have this number. -/
def cntP (l : Nat → Int) (c : Nat → Bool) (k : Int) (i : Nat) : Bool := band (ieq (l i) k) (c i)
def cntK (n : Nat) (l : Nat → Int) (c : Nat → Bool) (k : Int) : Int := Int.ofNat (cntB (cntP l c k) n)
def ofW (w : Bool) (f : Nat → E6) (i : Nat) : Bool := bor (bnot w) (isW (f i))

theorem run96 (L : Nat → (St → T (Ex × St)) → St → T (Ex × St)) (n : Nat) (f : Nat → E6) (l : Nat → Int) (k : Int) (w : Bool) (hn : n ≤ 4611686018427387904) : ∀ (d i : Nat) (j : Nat → V) (q : Nat), n = i + d → d < q →
    (iterT (body96 L) (lp96 n f n l k w) q (st96 n f n l k w (Int.ofNat (cntB (cntP l (ofW w f) k) i)) i j)).sem = some (en96e n f n l k w (Int.ofNat (cntB (cntP l (ofW w f) k) n)) n)
  | 0, i, j, q + 1, h, _ => by
    have : n = i := by omega
    subst this
    exact iter_round (rc96e L n f n l k w (Int.ofNat (cntB (cntP l (ofW w f) k) n)) n j (ofNat_ge (Nat.le_refl _)))
  | d + 1, i, j, q + 1, h, h2 => by
    have hl : i < n := by omega
    have hc := cntB_le (cntP l (ofW w f) k) i
    have yes : cntP l (ofW w f) k i = true → wr .i64 (iadd (Int.ofNat (cntB (cntP l (ofW w f) k) i)) 1) = Int.ofNat (cntB (cntP l (ofW w f) k) (i + 1)) := fun h3 => by
      rw [succ_wr (show cntB (cntP l (ofW w f) k) i < n by omega) hn, cntB_t h3]
    have no : cntP l (ofW w f) k i = false → Int.ofNat (cntB (cntP l (ofW w f) k) i) = Int.ofNat (cntB (cntP l (ofW w f) k) (i + 1)) := fun h3 => by rw [cntB_f h3]
    cases c1 : ieq (l i) k with
    | false =>
      rw [iter_round (rc96a L n f n l k w (Int.ofNat (cntB (cntP l (ofW w f) k) i)) i j (ofNat_lt hl) (ofNat_in hl) c1), goOn_nm, succ_wr hl hn, no (by rw [cntP, c1]; rfl)]
      exact run96 L n f l k w hn d (i + 1) (fun _ => .und) q (by omega) (by omega)
    | true =>
      cases c2 : w with
      | false =>
        subst c2
        rw [iter_round (rc96b L n f n l k false (Int.ofNat (cntB (cntP l (ofW false f) k) i)) i j (ofNat_lt hl) (ofNat_in hl) c1 rfl), goOn_nm, succ_wr hl hn, yes (by rw [cntP, c1]; rfl)]
        exact run96 L n f l k false hn d (i + 1) (fun _ => .und) q (by omega) (by omega)
      | true =>
        subst c2
        cases c3 : ieq (f i).src 2 with
        | true =>
          rw [iter_round (rc96c L n f n l k true (Int.ofNat (cntB (cntP l (ofW true f) k) i)) i j (ofNat_lt hl) (ofNat_in hl) c1 rfl (ofNat_in hl) c3), goOn_nm, succ_wr hl hn, yes (by rw [cntP, c1, ofW, isW, c3]; rfl)]
          exact run96 L n f l k true hn d (i + 1) (fun _ => .und) q (by omega) (by omega)
        | false =>
          rw [iter_round (rc96d L n f n l k true (Int.ofNat (cntB (cntP l (ofW true f) k) i)) i j (ofNat_lt hl) (ofNat_in hl) c1 rfl (ofNat_in hl) c3), goOn_nm, succ_wr hl hn, no (by rw [cntP, c1, ofW, isW, c3]; rfl)]
          exact run96 L n f l k true hn d (i + 1) (fun _ => .und) q (by omega) (by omega)

def cntKT : List V → T (V × List Blk)
  | [v, u, .val (.int .i64 k), .val (.bool w)] => apL v fun n f => apI u fun m l => .br (nbeq n m) (.br (smallN n) (out (iV (cntK n l (fun i => bor (bnot w) (isW (f i))) k))) .fail) .fail
  | _ => .fail

theorem p96 : PureC Tryz.prog Gl 36 cntKT := by
  refine pureC_intro tabOK mixed Tryz.func36 (by kernel_rfl) (by kernel_rfl) fun vs v h' h => ?_
  unfold cntKT at h
  split at h
  · rename_i v1 u1 k w
    obtain ⟨n, f, ha, h1⟩ := apL_some h
    obtain ⟨m, l, hb, h2⟩ := apI_some h1
    obtain ⟨hm, h3⟩ := sem_br_fail h2
    obtain ⟨hn, hq⟩ := sem_br_fail h3
    have hm : n = m := Nat.eq_of_beq_eq_true hm
    subst hm
    have := sem_leaf hq
    simp only [Prod.mk.injEq] at this
    obtain ⟨rfl, rfl⟩ := this
    have hn : n ≤ 4611686018427387904 := of_decide_eq_true hn
    have hA : ArgLE [v1, u1, .val (.int .i64 k), .val (.bool w)] [edgesV n f, intsV n l, iV k, bV w] := fun S w' cs hv => by
      obtain ⟨c, l1, rfl, q1, c2, l2, rfl, q2, q3⟩ := hv
      exact ⟨c, _, rfl, ha S w' c q1, c2, l2, rfl, hb S w' c2 q2, q3⟩
    have hx := cx_ok tb0_ok [(0, lp96 n f n l k w)]
    have hL := loopsBy_le [(0, lp96 n f n l k w)]
    exact ⟨_, cxOf Gl tb0 [(0, lp96 n f n l k w)], _, hA, rfl, hx.1, hx.2, told_le (onP_le hL hL) _ (wc96 _ _ n f n l k w _ n (isP_true (run96 _ n f l k w hn n 0 _ (n + 1) (by omega) (by omega)))), RowsLE.refl _⟩
  · cases h

end Go.Proofs.YtkcbdemfmjciiaaGreatDoor.Ed




