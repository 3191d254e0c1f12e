/-
  The document's parts, threads, locations: the part of each edge. No conditions.
-/
import Derived.Test.YtkcbdemfmjciiaaGreatDoorCyO
namespace Go.Proofs.YtkcbdemfmjciiaaGreatDoor.Ed
open Go.Sy

def lp109 (n : Nat) (p : Nat → Bool) : Lp := ⟨[true, false, false, true, true, true, false, false, false, false, false, false, false, false, false, false, false, false, false, false, false, false, false, false, false, false, false, false, false, false, false, false, false, false, false, false, false, false, false, false, false, false, false, false, false, false, false, false, false, false, false, false, false, false, false, false, false], 2, [true, false, false, true, true, false, false, false, false, false, false, false, false, false, false, false, false, false, false, false, false, false, false, false, false, false, false, false, false, false, false, false, false, false, false, false, false, false, false, false, false, false, false, false, false, false, false, false, false, false, false, false, false, false, false, false, false], 2, n + 1⟩
def st109 (n : Nat) (p : Nat → Bool) (s : Int) (i : Nat) (h : Nat → Int) (j : Nat → V) : St := ⟨[.sl 1 n (fun k => bV (p k)), j 1, j 2, .ref 1, iV s, iV (Int.ofNat i), j 6, j 7, j 8, j 9, j 10, j 11, j 12, j 13, j 14, j 15, j 16, j 17, j 18, j 19, j 20, j 21, j 22, j 23, j 24, j 25, j 26, j 27, j 28, j 29, j 30, j 31, j 32, j 33, j 34, j 35, j 36, j 37, j 38, j 39, j 40, j 41, j 42, j 43, j 44, j 45, j 46, j 47, j 48, j 49, j 50, j 51, j 52, j 53, j 54, j 55, j 56], [.row 3 1 0 (fun _ => .und), .row 3 1 i (fun k => iV (h k))]⟩
def en109a (n : Nat) (p : Nat → Bool) (s : Int) (i : Nat) (h : Nat → Int) : Ex × St := (.ex 0, ⟨[.sl 1 n (fun k => bV (p k)), .und, .und, .ref 1, iV s, .und, .und, .und, .und, .und, .und, .und, .und, .und, .und, .und, .und, .und, .und, .und, .und, .und, .und, .und, .und, .und, .und, .und, .und, .und, .und, .und, .und, .und, .und, .und, .und, .und, .und, .und, .und, .und, .und, .und, .und, .und, .und, .und, .und, .und, .und, .und, .und, .und, .und, .und, .und], [.row 3 1 0 (fun _ => .und), .row 3 1 i (fun k => iV (h k))]⟩)
noncomputable def body109 (L : Nat → (St → T (Ex × St)) → St → T (Ex × St)) : St → T (Ex × St) := fun st => evalC tab ⟨callT tb0, L, Gl⟩ (loopBody Tryz.f70 0) 0 st
theorem rc109a (L : Nat → (St → T (Ex × St)) → St → T (Ex × St)) (n : Nat) (p : Nat → Bool) (s : Int) (i : Nat) (h : Nat → Int)  (j : Nat → V) (h0 : ilt (Int.ofNat i) (Int.ofNat n) = false) : ((body109 L (st109 n p s i h j)).bind fun r => T.leaf (cutR (lp109 n p) r)).sem = some ((.ex 0), ⟨[(.sl 1 n (fun k => (bV (p k)))), .und, .und, (.ref 1), (iV s), .und, .und, .und, .und, .und, .und, .und, .und, .und, .und, .und, .und, .und, .und, .und, .und, .und, .und, .und, .und, .und, .und, .und, .und, .und, .und, .und, .und, .und, .und, .und, .und, .und, .und, .und, .und, .und, .und, .und, .und, .und, .und, .und, .und, .und, .und, .und, .und, .und, .und, .und, .und], [(.row 3 1 0 (fun _ => .und)), (.row 3 1 i (fun k => (iV (h k))))]⟩) := by
  exact sem_of_path (ds := [false]) (cs := [(ilt (Int.ofNat i) (Int.ofNat n))]) (by kernel_rfl) (by simp only [h0] <;> rfl)
theorem rc109t (L : Nat → (St → T (Ex × St)) → St → T (Ex × St)) (n : Nat) (p : Nat → Bool) (s : Int) (i : Nat) (h : Nat → Int)  (j : Nat → V) (h0 : ilt (Int.ofNat i) (Int.ofNat n) = true) (h2 : apOK i 1 8 = true) (h1 : band (ile 0 (Int.ofNat i)) (ilt (Int.ofNat i) (Int.ofNat n)) = true) (h3 : p i = true) : ((body109 L (st109 n p s i h j)).bind fun r => T.leaf (cutR (lp109 n p) r)).sem = some (.nm, ⟨[(.sl 1 n (fun k => (bV (p k)))), .und, .und, (.ref 1), (iV (wr IntKind.i64 (iadd s 1))), (iV (wr IntKind.i64 (iadd (Int.ofNat i) 1))), .und, .und, .und, .und, .und, .und, .und, .und, .und, .und, .und, .und, .und, .und, .und, .und, .und, .und, .und, .und, .und, .und, .und, .und, .und, .und, .und, .und, .und, .und, .und, .und, .und, .und, .und, .und, .und, .und, .und, .und, .und, .und, .und, .und, .und, .und, .und, .und, .und, .und, .und], [(.row 3 1 0 (fun _ => .und)), (.row 3 1 (nadd i 1) (pushGet i (fun k => (iV (h k))) (iV s)))]⟩) := by
  exact sem_of_path (ds := [true, true, true, true]) (cs := [(ilt (Int.ofNat i) (Int.ofNat n)), (apOK i 1 8), (band (ile 0 (Int.ofNat i)) (ilt (Int.ofNat i) (Int.ofNat n))), (p i)]) (by kernel_rfl) (by simp only [h1] <;> simp only [h0, h2, h3] <;> rfl)
theorem rc109f (L : Nat → (St → T (Ex × St)) → St → T (Ex × St)) (n : Nat) (p : Nat → Bool) (s : Int) (i : Nat) (h : Nat → Int)  (j : Nat → V) (h0 : ilt (Int.ofNat i) (Int.ofNat n) = true) (h2 : apOK i 1 8 = true) (h1 : band (ile 0 (Int.ofNat i)) (ilt (Int.ofNat i) (Int.ofNat n)) = true) (h3 : p i = false) : ((body109 L (st109 n p s i h j)).bind fun r => T.leaf (cutR (lp109 n p) r)).sem = some (.nm, ⟨[(.sl 1 n (fun k => (bV (p k)))), .und, .und, (.ref 1), (iV s), (iV (wr IntKind.i64 (iadd (Int.ofNat i) 1))), .und, .und, .und, .und, .und, .und, .und, .und, .und, .und, .und, .und, .und, .und, .und, .und, .und, .und, .und, .und, .und, .und, .und, .und, .und, .und, .und, .und, .und, .und, .und, .und, .und, .und, .und, .und, .und, .und, .und, .und, .und, .und, .und, .und, .und, .und, .und, .und, .und, .und, .und], [(.row 3 1 0 (fun _ => .und)), (.row 3 1 (nadd i 1) (pushGet i (fun k => (iV (h k))) (iV s)))]⟩) := by
  exact sem_of_path (ds := [true, true, true, false]) (cs := [(ilt (Int.ofNat i) (Int.ofNat n)), (apOK i 1 8), (band (ile 0 (Int.ofNat i)) (ilt (Int.ofNat i) (Int.ofNat n))), (p i)]) (by kernel_rfl) (by simp only [h1] <;> simp only [h0, h2, h3] <;> rfl)

def ent109 (n : Nat) (p : Nat → Bool)  : St := ⟨[(.sl 1 n (fun k => (bV (p k)))), undefV, (.ref 0), (.ref 1), (iV 0), (iV 0), undefV, undefV, undefV, undefV, undefV, undefV, undefV, undefV, undefV, undefV, undefV, undefV, undefV, undefV, undefV, undefV, undefV, undefV, undefV, undefV, undefV, undefV, undefV, undefV, undefV, undefV, undefV, undefV, undefV, undefV, undefV, undefV, undefV, undefV, undefV, undefV, undefV, undefV, undefV, undefV, undefV, undefV, undefV, undefV, undefV, undefV, undefV, undefV, undefV, undefV, undefV], [(.row 3 1 0 (fun _ => .und)), (.row 3 1 0 (fun _ => .und))]⟩

def lp109_2 (n : Nat) (p : Nat → Bool) : Lp := ⟨[true, false, false, true, false, false, false, true, false, false, false, false, false, false, false, false, false, false, false, false, false, false, false, false, false, false, false, false, false, false, false, false, false, false, false, false, false, false, false, false, false, false, false, false, false, false, false, false, false, false, false, false, false, false, false, false, false], 2, [false, false, false, true, false, false, false, false, false, false, false, false, false, false, false, false, false, false, false, false, false, false, false, false, false, false, false, false, false, false, false, false, false, false, false, false, false, false, false, false, false, false, false, false, false, false, false, false, false, false, false, false, false, false, false, false, false], 2, n + 1⟩
def st109_2 (n : Nat) (p : Nat → Bool) (d : Int) (g : Nat → Int) (j : Nat → V) : St := ⟨[.sl 1 n (fun k => bV (p k)), j 1, j 2, .ref 1, j 4, j 5, j 6, iV d, j 8, j 9, j 10, j 11, j 12, j 13, j 14, j 15, j 16, j 17, j 18, j 19, j 20, j 21, j 22, j 23, j 24, j 25, j 26, j 27, j 28, j 29, j 30, j 31, j 32, j 33, j 34, j 35, j 36, j 37, j 38, j 39, j 40, j 41, j 42, j 43, j 44, j 45, j 46, j 47, j 48, j 49, j 50, j 51, j 52, j 53, j 54, j 55, j 56], [.row 3 1 0 (fun _ => .und), .row 3 1 n (fun k => iV (g k))]⟩
def en109_2a (n : Nat) (p : Nat → Bool) (d : Int) (g : Nat → Int) : Ex × St := (.ex 2, ⟨[.und, .und, .und, .ref 1, .und, .und, .und, .und, .und, .und, .und, .und, .und, .und, .und, .und, .und, .und, .und, .und, .und, .und, .und, .und, .und, .und, .und, .und, .und, .und, .und, .und, .und, .und, .und, .und, .und, .und, .und, .und, .und, .und, .und, .und, .und, .und, .und, .und, .und, .und, .und, .und, .und, .und, .und, .und, .und], [.row 3 1 0 (fun _ => .und), .row 3 1 n (fun k => iV (g k))]⟩)
noncomputable def body109_2 (L : Nat → (St → T (Ex × St)) → St → T (Ex × St)) : St → T (Ex × St) := fun st => evalC tab ⟨callT tb0, L, Gl⟩ (loopBody Tryz.f70 2) 2 st
theorem rd109a (L : Nat → (St → T (Ex × St)) → St → T (Ex × St)) (n : Nat) (p : Nat → Bool) (d : Int) (g : Nat → Int)  (j : Nat → V) (h0 : ile 0 d = false) : ((body109_2 L (st109_2 n p d g j)).bind fun r => T.leaf (cutR (lp109_2 n p) r)).sem = some ((.ex 2), ⟨[.und, .und, .und, (.ref 1), .und, .und, .und, .und, .und, .und, .und, .und, .und, .und, .und, .und, .und, .und, .und, .und, .und, .und, .und, .und, .und, .und, .und, .und, .und, .und, .und, .und, .und, .und, .und, .und, .und, .und, .und, .und, .und, .und, .und, .und, .und, .und, .und, .und, .und, .und, .und, .und, .und, .und, .und, .und, .und], [(.row 3 1 0 (fun _ => .und)), (.row 3 1 n (fun k => (iV (g k))))]⟩) := by
  exact sem_of_path (ds := [false, false, false, false, false, false, false]) (cs := [(ile 0 d), (ile 0 d), (ile 0 d), (ile 0 d), (ile 0 d), (ile 0 d), Bool.false]) (by kernel_rfl) (by simp only [h0] <;> rfl)
theorem rd109b (L : Nat → (St → T (Ex × St)) → St → T (Ex × St)) (n : Nat) (p : Nat → Bool) (d : Int) (g : Nat → Int)  (j : Nat → V) (h0 : ile 0 d = true) (h1 : band (ile 0 d) (ilt d (Int.ofNat n)) = true) (h3 : p (toN d) = true) : ((body109_2 L (st109_2 n p d g j)).bind fun r => T.leaf (cutR (lp109_2 n p) r)).sem = some ((.ex 2), ⟨[.und, .und, .und, (.ref 1), .und, .und, .und, .und, .und, .und, .und, .und, .und, .und, .und, .und, .und, .und, .und, .und, .und, .und, .und, .und, .und, .und, .und, .und, .und, .und, .und, .und, .und, .und, .und, .und, .und, .und, .und, .und, .und, .und, .und, .und, .und, .und, .und, .und, .und, .und, .und, .und, .und, .und, .und, .und, .und], [(.row 3 1 0 (fun _ => .und)), (.row 3 1 n (fun k => (iV (g k))))]⟩) := by
  exact sem_of_path (ds := [true, true, true, true, true, true, true, false]) (cs := [(ile 0 d), (ile 0 d), (ile 0 d), (band (ile 0 d) (ilt d (Int.ofNat n))), (ile 0 d), (ile 0 d), (ile 0 d), (bnot (p (toN d)))]) (by kernel_rfl) (by simp only [h1] <;> simp only [h0, h3] <;> rfl)
theorem rd109n (L : Nat → (St → T (Ex × St)) → St → T (Ex × St)) (n : Nat) (p : Nat → Bool) (d : Int) (g : Nat → Int)  (j : Nat → V) (h0 : ile 0 d = true) (h1 : band (ile 0 d) (ilt d (Int.ofNat n)) = true) (h3 : p (toN d) = false) (h2 : nlt (toN d) n = true) : ((body109_2 L (st109_2 n p d g j)).bind fun r => T.leaf (cutR (lp109_2 n p) r)).sem = some (.nm, ⟨[(.sl 1 n (fun k => (bV (p k)))), .und, .und, (.ref 1), .und, .und, .und, (iV (wr IntKind.i64 (isub d 1))), .und, .und, .und, .und, .und, .und, .und, .und, .und, .und, .und, .und, .und, .und, .und, .und, .und, .und, .und, .und, .und, .und, .und, .und, .und, .und, .und, .und, .und, .und, .und, .und, .und, .und, .und, .und, .und, .und, .und, .und, .und, .und, .und, .und, .und, .und, .und, .und, .und], [(.row 3 1 0 (fun _ => .und)), (.row 3 1 n (setGet (fun k => (iV (g k))) (toN d) (iV 0)))]⟩) := by
  exact sem_of_path (ds := [true, true, true, true, true, true, true, true, true, true]) (cs := [(ile 0 d), (ile 0 d), (ile 0 d), (band (ile 0 d) (ilt d (Int.ofNat n))), (ile 0 d), (ile 0 d), (ile 0 d), (bnot (p (toN d))), (band (ile 0 d) (ilt d (Int.ofNat n))), (nlt (toN d) n)]) (by kernel_rfl) (by simp only [h1] <;> simp only [h0, h3, h2] <;> rfl)
def jk109_2 (n : Nat) (p : Nat → Bool) (s : Int) (g : Nat → Int) : Nat → V
  | 1 => .und
  | 2 => .und
  | 4 => (iV s)
  | 5 => .und
  | 6 => (iV (Int.ofNat n))
  | 8 => .und
  | 9 => .und
  | 10 => .und
  | 11 => .und
  | 12 => .und
  | 13 => .und
  | 14 => .und
  | 15 => .und
  | 16 => .und
  | 17 => .und
  | 18 => .und
  | 19 => .und
  | 20 => .und
  | 21 => .und
  | 22 => .und
  | 23 => .und
  | 24 => (.sl 1 n (fun k => (bV (p k))))
  | 25 => (iV (Int.ofNat n))
  | 26 => (iV (Int.ofNat n))
  | 27 => (bV (ilt 0 (Int.ofNat n)))
  | 28 => (bV (ilt 0 (Int.ofNat n)))
  | 29 => (iV s)
  | 30 => (bV (ilt 0 s))
  | 31 => (bV (ilt 0 s))
  | 32 => (bV (ilt 0 s))
  | 33 => (.sl 1 n (fun k => (bV (p k))))
  | 34 => (iV (Int.ofNat n))
  | 35 => (iV (wr IntKind.i64 (isub (Int.ofNat n) 1)))
  | 36 => (.pp (bV (p (toN (wr IntKind.i64 (isub (Int.ofNat n) 1))))))
  | 37 => (bV (p (toN (wr IntKind.i64 (isub (Int.ofNat n) 1)))))
  | 38 => (bV (bnot (p (toN (wr IntKind.i64 (isub (Int.ofNat n) 1))))))
  | 39 => (bV (bnot (p (toN (wr IntKind.i64 (isub (Int.ofNat n) 1))))))
  | 40 => (iV (Int.ofNat n))
  | 41 => (iV (wr IntKind.i64 (isub (Int.ofNat n) 1)))
  | 42 => .und
  | 43 => .und
  | 44 => .und
  | 45 => .und
  | 46 => .und
  | 47 => .und
  | 48 => .und
  | 49 => .und
  | 50 => .und
  | 51 => .und
  | 52 => .und
  | 53 => .und
  | 54 => .und
  | 55 => .und
  | 56 => .und
  | _ => undefV

theorem wc109a (L : Nat → (St → T (Ex × St)) → St → T (Ex × St)) (p0 : (St → T (Ex × St)) → St → Bool) (n : Nat) (p : Nat → Bool) (s : Int) (g : Nat → Int) (h0 : ilt 0 (Int.ofNat n) = false) (hp0 : p0 (body109 (onP 0 p0 (en109a n p s n g) L)) (ent109 n p) = true) : (finF (evalF tab ⟨callT tb0, (onP 0 p0 (en109a n p s n g) L), Gl⟩ Tryz.f70 [.sl 1 n (fun k => bV (p k))] [])).sem = some ((.ref 0), [(.row 3 1 n (fun k => (iV (g k))))]) := by
  exact sem_of_path (ds := [true, false, false, false, false, false, false, false, false, false, false, false]) (cs := [(p0 (body109 (onP 0 p0 (en109a n p s n g) L)) (ent109 n p)), (ilt 0 (Int.ofNat n)), (ilt 0 (Int.ofNat n)), (ilt 0 (Int.ofNat n)), Bool.false, Bool.false, Bool.false, Bool.false, Bool.false, Bool.false, Bool.false, Bool.false]) (by kernel_rfl) (by simp only [hp0] <;> simp only [h0] <;> rfl)

theorem wc109b (L : Nat → (St → T (Ex × St)) → St → T (Ex × St)) (p0 : (St → T (Ex × St)) → St → Bool) (n : Nat) (p : Nat → Bool) (s : Int) (g : Nat → Int) (h0 : ilt 0 (Int.ofNat n) = true) (h1 : ilt 0 s = false) (hp0 : p0 (body109 (onP 0 p0 (en109a n p s n g) L)) (ent109 n p) = true) : (finF (evalF tab ⟨callT tb0, (onP 0 p0 (en109a n p s n g) L), Gl⟩ Tryz.f70 [.sl 1 n (fun k => bV (p k))] [])).sem = some ((.ref 0), [(.row 3 1 n (fun k => (iV (g k))))]) := by
  exact sem_of_path (ds := [true, true, true, true, false, false, false, false, false, false, false, false]) (cs := [(p0 (body109 (onP 0 p0 (en109a n p s n g) L)) (ent109 n p)), (ilt 0 (Int.ofNat n)), (ilt 0 (Int.ofNat n)), (ilt 0 (Int.ofNat n)), (ilt 0 s), (ilt 0 s), (ilt 0 s), (ilt 0 s), (ilt 0 s), (ilt 0 s), (ilt 0 s), Bool.false]) (by kernel_rfl) (by simp only [hp0] <;> simp only [h0, h1] <;> rfl)

theorem wc109c (L : Nat → (St → T (Ex × St)) → St → T (Ex × St)) (p0 : (St → T (Ex × St)) → St → Bool) (n : Nat) (p : Nat → Bool) (s : Int) (g : Nat → Int) (h0 : ilt 0 (Int.ofNat n) = true) (h1 : ilt 0 s = true) (h2 : band (ile 0 (wr IntKind.i64 (isub (Int.ofNat n) 1))) (ilt (wr IntKind.i64 (isub (Int.ofNat n) 1)) (Int.ofNat n)) = true) (h3 : p (toN (wr IntKind.i64 (isub (Int.ofNat n) 1))) = true) (hp0 : p0 (body109 (onP 0 p0 (en109a n p s n g) L)) (ent109 n p) = true) : (finF (evalF tab ⟨callT tb0, (onP 0 p0 (en109a n p s n g) L), Gl⟩ Tryz.f70 [.sl 1 n (fun k => bV (p k))] [])).sem = some ((.ref 0), [(.row 3 1 n (fun k => (iV (g k))))]) := by
  exact sem_of_path (ds := [true, true, true, true, true, true, true, true, true, true, true, true, false]) (cs := [(p0 (body109 (onP 0 p0 (en109a n p s n g) L)) (ent109 n p)), (ilt 0 (Int.ofNat n)), (ilt 0 (Int.ofNat n)), (ilt 0 (Int.ofNat n)), (ilt 0 s), (ilt 0 s), (ilt 0 s), (ilt 0 s), (band (ile 0 (wr IntKind.i64 (isub (Int.ofNat n) 1))) (ilt (wr IntKind.i64 (isub (Int.ofNat n) 1)) (Int.ofNat n))), (ilt 0 s), (ilt 0 s), (ilt 0 s), (bnot (p (toN (wr IntKind.i64 (isub (Int.ofNat n) 1)))))]) (by kernel_rfl) (by simp only [hp0] <;> simp only [h2] <;> simp only [h0, h1, h3] <;> rfl)

theorem wc109d (L : Nat → (St → T (Ex × St)) → St → T (Ex × St)) (p0 : (St → T (Ex × St)) → St → Bool) (p2 : (St → T (Ex × St)) → St → Bool) (n : Nat) (p : Nat → Bool) (s : Int) (g : Nat → Int) (d : Int) (u : Nat → Int) (h0 : ilt 0 (Int.ofNat n) = true) (h1 : ilt 0 s = true) (h2 : band (ile 0 (wr IntKind.i64 (isub (Int.ofNat n) 1))) (ilt (wr IntKind.i64 (isub (Int.ofNat n) 1)) (Int.ofNat n)) = true) (h3 : p (toN (wr IntKind.i64 (isub (Int.ofNat n) 1))) = false) (hp0 : p0 (body109 (onP 0 p0 (en109a n p s n g) (onP 2 p2 (en109_2a n p d u) L))) (ent109 n p) = true) (hp2 : p2 (body109_2 (onP 0 p0 (en109a n p s n g) (onP 2 p2 (en109_2a n p d u) L))) (st109_2 n p (wr IntKind.i64 (isub (Int.ofNat n) 1)) g (jk109_2 n p s g)) = true) : (finF (evalF tab ⟨callT tb0, (onP 0 p0 (en109a n p s n g) (onP 2 p2 (en109_2a n p d u) L)), Gl⟩ Tryz.f70 [.sl 1 n (fun k => bV (p k))] [])).sem = some ((.ref 0), [(.row 3 1 n (fun k => (iV (u k))))]) := by
  exact sem_of_path (ds := [true, true, true, true, true, true, true, true, true, true, true, true, true, true]) (cs := [(p0 (body109 (onP 0 p0 (en109a n p s n g) (onP 2 p2 (en109_2a n p d u) L))) (ent109 n p)), (ilt 0 (Int.ofNat n)), (ilt 0 (Int.ofNat n)), (ilt 0 (Int.ofNat n)), (ilt 0 s), (ilt 0 s), (ilt 0 s), (ilt 0 s), (band (ile 0 (wr IntKind.i64 (isub (Int.ofNat n) 1))) (ilt (wr IntKind.i64 (isub (Int.ofNat n) 1)) (Int.ofNat n))), (ilt 0 s), (ilt 0 s), (ilt 0 s), (bnot (p (toN (wr IntKind.i64 (isub (Int.ofNat n) 1))))), (p2 (body109_2 (onP 0 p0 (en109a n p s n g) (onP 2 p2 (en109_2a n p d u) L))) (st109_2 n p (wr IntKind.i64 (isub (Int.ofNat n) 1)) g (jk109_2 n p s g)))]) (by kernel_rfl) (by simp only [hp0, hp2] <;> simp only [h2] <;> simp only [h0, h1, h3] <;> rfl)

theorem push_row (p : Nat → Bool) (i : Nat) : pushGet i (fun k => iV (rowA p i k)) (iV (Int.ofNat (cntB p i))) = fun k => iV (rowA p (i + 1) k) := by
  funext k
  rw [pushGet_eq, show Nat.beq k i = decide (k = i) by rw [Bool.eq_iff_iff]; simp]
  unfold rowA
  by_cases h : k = i
  · subst h; simp
  · by_cases h2 : k < i
    · have : k < i + 1 := by omega
      simp [h, h2, this]
    · have : ¬ k < i + 1 := by omega
      simp [h, h2, this]

theorem cntB_t {p : Nat → Bool} {i : Nat} (h : p i = true) : cntB p (i + 1) = cntB p i + 1 := by rw [cntB, h]
theorem cntB_f {p : Nat → Bool} {i : Nat} (h : p i = false) : cntB p (i + 1) = cntB p i := by rw [cntB, h]

theorem run109 (L : Nat → (St → T (Ex × St)) → St → T (Ex × St)) (n : Nat) (p : Nat → Bool) (h8 : n * 8 ≤ 140737488355328) : ∀ (e i : Nat) (j : Nat → V) (q : Nat), n = i + e → e < q →
    (iterT (body109 L) (lp109 n p) q (st109 n p (Int.ofNat (cntB p i)) i (rowA p i) j)).sem = some (en109a n p (Int.ofNat (cntB p n)) n (rowA p n))
  | 0, i, j, q + 1, h, _ => by
    have : n = i := by omega
    subst this
    exact iter_round (rc109a L n p _ _ _ j (ofNat_ge (Nat.le_refl _)))
  | e + 1, i, j, q + 1, h, h2 => by
    have hc := cntB_le p i
    have hl : i < n := by omega
    have ha : apOK i 1 8 = true := ap_ok (by omega)
    cases hp : p i with
    | true =>
      rw [iter_round (rc109t L n p (Int.ofNat (cntB p i)) i (rowA p i) j (ofNat_lt hl) ha (ofNat_in hl) hp), goOn_nm, succ_wr hl (by omega), succ_wr (show cntB p i < n by omega) (by omega), ← cntB_t hp, push_row p i]
      exact run109 L n p h8 e (i + 1) (fun _ => .und) q (by omega) (by omega)
    | false =>
      rw [iter_round (rc109f L n p (Int.ofNat (cntB p i)) i (rowA p i) j (ofNat_lt hl) ha (ofNat_in hl) hp), goOn_nm, succ_wr hl (by omega), push_row p i, ← cntB_f hp]
      exact run109 L n p h8 e (i + 1) (fun _ => .und) q (by omega) (by omega)

theorem run109d (L : Nat → (St → T (Ex × St)) → St → T (Ex × St)) (n : Nat) (p : Nat → Bool) (hn : n ≤ 4611686018427387904) (hs : 0 < cntB p n) : ∀ (D : Nat) (j : Nat → V) (q : Nat), D ≤ n → D < q → (∀ k, D ≤ k → k < n → cntB p k = cntB p n) →
    (iterT (body109_2 L) (lp109_2 n p) q (st109_2 n p (dn D) (rowA p D) j)).sem = some (en109_2a n p 0 (partF p n))
  | 0, j, q + 1, h, _, hb => by
    rw [← part_eq p n 0 h (fun k hk => absurd hk (Nat.not_lt_zero _)) hb]
    exact iter_round (rd109a L n p (dn 0) (rowA p 0) j rfl)
  | D + 1, j, q + 1, h, h2, hb => by
    have hD : D < n := by omega
    have hk : nlt D n = true := by simpa [nlt] using hD
    cases hp : p D with
    | false =>
      have he : cntB p D = cntB p n := by
        rw [← cntB_f hp]
        by_cases h5 : D + 1 = n
        · rw [h5]
        · exact hb (D + 1) (Nat.le_refl _) (by omega)
      rw [show dn (D + 1) = Int.ofNat D from rfl, iter_round (rd109n L n p (Int.ofNat D) (rowA p (D + 1)) j (ofNat_0 D) (ofNat_in hD) hp hk), goOn_nm, dn_wr (show D ≤ n by omega) hn, setI_eq, show toN (Int.ofNat D) = D from rfl, updI_back]
      exact run109d L n p hn hs D (fun _ => .und) q (by omega) (by omega) fun k h3 h4 => by
        by_cases h5 : k = D
        · subst h5; exact he
        · exact hb k (by omega) h4
    | true =>
      have h6 : cntB p D < cntB p n := by
        have := cntB_mono p (show D + 1 ≤ n by omega)
        rw [cntB_t hp] at this
        omega
      rw [← part_eq p n (D + 1) h (fun k hk => by have := cntB_mono p (show k ≤ D by omega); omega) hb]
      rw [show dn (D + 1) = Int.ofNat D from rfl]
      exact iter_round (rd109b L n p (Int.ofNat D) (rowA p (D + 1)) j (ofNat_0 D) (ofNat_in hD) hp)

def zs109 : List (Nat × List (Nat × V)) := [(0, [(1, iV 0)])]
def lps109 (n : Nat) (p : Nat → Bool) : List (Nat × Lp) := [(0, lp109 n p), (2, lp109_2 n p)]
def sameParts : List V → T (V × List Blk)
  | [v] => apB v fun n p => .br (fit8 n) (.leaf (.ref 0, [.row 3 1 n fun k => iV (partF p n k)])) .fail
  | _ => .fail

theorem fill109 (n : Nat) (p : Nat → Bool) : fillS (ent109 n p) [(1, iV 0)] = st109 n p 0 0 (fun _ => 0) (fun i => nth (ent109 n p).t i) := by kernel_rfl

theorem told109 (n : Nat) (p : Nat → Bool) (h8 : fit8 n = true) :
    (finF (evalF tab (cxZ Gl tb0 zs109 (lps109 n p)) Tryz.f70 [boolsV n p] [])).sem = some (.ref 0, [.row 3 1 n fun k => iV (partF p n k)]) := by
  have h8' : n * 8 ≤ 140737488355328 := of_decide_eq_true h8
  have hn : n ≤ 4611686018427387904 := by omega
  have hL := loopsZ_le zs109 (lps109 n p)
  have h0 : ∀ L, (loopsZ zs109 (lps109 n p) 0 (body109 L) (ent109 n p)).sem = some (en109a n p (Int.ofNat (cntB p n)) n (rowA p n)) := fun L => by
    show (iterT (body109 L) (lp109 n p) (n + 1) (fillS (ent109 n p) [(1, iV 0)])).sem = _
    rw [fill109, ← rowA_0 p]
    exact run109 L n p h8' n 0 _ (n + 1) (by omega) (by omega)
  cases n with
  | zero =>
    rw [← part_z p 0 rfl]
    exact told_le (onP_le hL hL) _ (wc109a _ _ 0 p _ _ rfl (isP_true (h0 _)))
  | succ m =>
    have c0 : ilt 0 (Int.ofNat (m + 1)) = true := by rw [show (0 : Int) = Int.ofNat 0 from rfl, ilt_nat]; simp
    have e1 : wr IntKind.i64 (isub (Int.ofNat (m + 1)) 1) = Int.ofNat m := dn_wr (Nat.le_refl _) hn
    have e2 : toN (Int.ofNat m) = m := rfl
    cases hs : ilt 0 (Int.ofNat (cntB p (m + 1))) with
    | false =>
      have hz : cntB p (m + 1) = 0 := by simpa [ilt] using hs
      have hw := told_le (onP_le hL hL) _ (wc109b _ _ (m + 1) p _ _ c0 hs (isP_true (h0 _)))
      rw [← part_z p (m + 1) hz]
      exact hw
    | true =>
      have hz : 0 < cntB p (m + 1) := by simpa [ilt] using hs
      have hb : band (ile 0 (wr IntKind.i64 (isub (Int.ofNat (m + 1)) 1))) (ilt (wr IntKind.i64 (isub (Int.ofNat (m + 1)) 1)) (Int.ofNat (m + 1))) = true := by rw [e1]; exact ofNat_in (Nat.lt_succ_self m)
      cases hp : p m with
      | true =>
        have hw := told_le (onP_le hL hL) _ (wc109c _ _ (m + 1) p _ _ c0 hs hb (by rw [e1, e2]; exact hp) (isP_true (h0 _)))
        rw [← part_eq p (m + 1) (m + 1) (Nat.le_refl _) (fun k hk => by have := cntB_mono p (show k ≤ m by omega); rw [cntB_t hp]; omega) (fun k h1 h2 => by omega)]
        exact hw
      | false =>
        have h2 := fun L j => run109d L (m + 1) p hn hz (m + 1) j (m + 2) (Nat.le_refl _) (by omega) (fun k h1 h2 => by omega)
        rw [show dn (m + 1) = Int.ofNat m from rfl, ← e1] at h2
        exact told_le (onP_le (onP_le hL hL) hL) _ (wc109d _ _ _ (m + 1) p _ (rowA p (m + 1)) 0 (partF p (m + 1)) c0 hs hb (by rw [e1, e2]; exact hp) (isP_true (h0 _)) (isP_true (h2 _ _)))

theorem p109 : PureC Tryz.prog Gl 70 sameParts := by
  refine pureC_intro tabOK mixed Tryz.func70 (by kernel_rfl) (by kernel_rfl) fun vs v h' h => ?_
  unfold sameParts at h
  split at h
  · rename_i u
    obtain ⟨n, p, ha, h1⟩ := apB_some h
    obtain ⟨h8, hq⟩ := sem_br_fail h1
    have := sem_leaf hq
    simp only [Prod.mk.injEq] at this
    obtain ⟨rfl, rfl⟩ := this
    have hA : ArgLE [u] [boolsV n p] := fun S w cs hv => by
      obtain ⟨c, l, rfl, q1, q2⟩ := hv
      exact ⟨c, l, rfl, ha S w c q1, q2⟩
    have hx := cxZ_ok tb0_ok zs109 (lps109 n p)
    exact ⟨_, cxZ Gl tb0 zs109 (lps109 n p), _, hA, rfl, hx.1, hx.2, told109 n p h8, RowsLE.refl _⟩
  · cases h

/-! ### Of each edge: is it one that cuts? -/

theorem rowsBare_iV {n : Nat} : rowsBare [.row 3 1 n (fun _ => iV 0)] = true := by
  simp [rowsBare, bare, iV]

noncomputable def tb94 : List (Nat × (List V → T (V × List Blk))) := (32, edgeT fun e => bV (outB e)) :: (33, edgeT fun e => bV (movB e)) :: (70, sameParts) :: []
theorem tb94_ok : AllPure Tryz.prog Gl tb94 := .cons p60 <| .cons p61 <| .cons p109 .nil

def rowQ (p : Nat → Bool) (i k : Nat) : Bool := decide (k < i) && p k

theorem rowQ_0 (p : Nat → Bool) : rowQ p 0 = fun _ => false := by
  funext k
  simp [rowQ]

theorem push_rowQ (p : Nat → Bool) (i : Nat) : pushGet i (fun k => bV (rowQ p i k)) (bV (p i)) = fun k => bV (rowQ p (i + 1) k) := by
  funext k
  rw [pushGet_eq, show Nat.beq k i = decide (k = i) by rw [Bool.eq_iff_iff]; simp]
  unfold rowQ
  by_cases h : k = i
  · subst h; simp
  · by_cases h2 : k < i
    · have : k < i + 1 := by omega
      simp [h, h2, this]
    · have : ¬ k < i + 1 := by omega
      simp [h, h2, this]

theorem cntB_congr {p q : Nat → Bool} : ∀ k, (∀ i, i < k → q i = p i) → cntB q k = cntB p k
  | 0, _ => rfl
  | k + 1, h => by
    rw [cntB, cntB, h k (Nat.lt_succ_self k), cntB_congr k fun i hi => h i (by omega)]

theorem partF_rowQ (p : Nat → Bool) (n : Nat) : partF (rowQ p n) n = partF p n := by
  have hq : ∀ i, i < n → rowQ p n i = p i := fun i hi => by simp [rowQ, hi]
  funext k
  unfold partF
  by_cases h : k < n
  · rw [cntB_congr k fun i hi => hq i (by omega), cntB_congr n hq]
  · simp [h]

theorem fitN_small {n : Nat} (h : fitN n = true) : n * 8 ≤ 140737488355328 := of_decide_eq_true (fitN_8 h)
def lp94 (n : Nat) (f : Nat → E6) : Lp := ⟨[true, false, false, true, true, false, false, false, false, false, false, false, false, false, false, false, false, false, false, false, false], 2, [false, false, false, true, false, false, false, false, false, false, false, false, false, false, false, false, false, false, false, false, false], 2, n + 1⟩
def st94 (n : Nat) (f : Nat → E6) (i : Nat) (h : Nat → Bool) (j : Nat → V) : St := ⟨[.sl 6 n (fun i => (eV (f i))), j 1, j 2, .ref 1, iV (Int.ofNat i), j 5, j 6, j 7, j 8, j 9, j 10, j 11, j 12, j 13, j 14, j 15, j 16, j 17, j 18, j 19, j 20], [.row 3 1 0 (fun _ => .und), .row 4 1 i (fun k => bV (h k))]⟩
def en94a (n : Nat) (f : Nat → E6) (i : Nat) (h : Nat → Bool) : Ex × St := (.ex 0, ⟨[.und, .und, .und, .ref 1, .und, .und, .und, .und, .und, .und, .und, .und, .und, .und, .und, .und, .und, .und, .und, .und, .und], [.row 3 1 0 (fun _ => .und), .row 4 1 i (fun k => bV (h k))]⟩)
noncomputable def body94 (L : Nat → (St → T (Ex × St)) → St → T (Ex × St)) : St → T (Ex × St) := fun st => evalC tab ⟨callT tb94, L, Gl⟩ (loopBody Tryz.f34 0) 0 st
theorem rc94a (L : Nat → (St → T (Ex × St)) → St → T (Ex × St)) (n : Nat) (f : Nat → E6) (i : Nat) (h : Nat → Bool)  (j : Nat → V) (h0 : ilt (Int.ofNat i) (Int.ofNat n) = false) : ((body94 L (st94 n f i h j)).bind fun r => T.leaf (cutR (lp94 n f) r)).sem = some ((.ex 0), ⟨[.und, .und, .und, (.ref 1), .und, .und, .und, .und, .und, .und, .und, .und, .und, .und, .und, .und, .und, .und, .und, .und, .und], [(.row 3 1 0 (fun _ => .und)), (.row 4 1 i (fun k => (bV (h k))))]⟩) := by
  exact sem_of_path (ds := [false]) (cs := [(ilt (Int.ofNat i) (Int.ofNat n))]) (by kernel_rfl) (by simp only [h0] <;> rfl)
theorem rc94n (L : Nat → (St → T (Ex × St)) → St → T (Ex × St)) (n : Nat) (f : Nat → E6) (i : Nat) (h : Nat → Bool)  (j : Nat → V) (h0 : ilt (Int.ofNat i) (Int.ofNat n) = true) (h1 : band (ile 0 (Int.ofNat i)) (ilt (Int.ofNat i) (Int.ofNat n)) = true) (h2 : apOK i 1 1 = true) : ((body94 L (st94 n f i h j)).bind fun r => T.leaf (cutR (lp94 n f) r)).sem = some (.nm, ⟨[(.sl 6 n (fun i => (eV (f i)))), .und, .und, (.ref 1), (iV (wr IntKind.i64 (iadd (Int.ofNat i) 1))), .und, .und, .und, .und, .und, .und, .und, .und, .und, .und, .und, .und, .und, .und, .und, .und], [(.row 3 1 0 (fun _ => .und)), (.row 4 1 (nadd i 1) (pushGet i (fun k => (bV (h k))) (bV (outB (f i)))))]⟩) := by
  exact sem_of_path (ds := [true, true, true]) (cs := [(ilt (Int.ofNat i) (Int.ofNat n)), (band (ile 0 (Int.ofNat i)) (ilt (Int.ofNat i) (Int.ofNat n))), (apOK i 1 1)]) (by kernel_rfl) (by simp only [h1] <;> simp only [h0, h2] <;> rfl)

def ent94 (n : Nat) (f : Nat → E6)  : St := ⟨[(.sl 6 n (fun i => (eV (f i)))), undefV, (.ref 0), (.ref 1), (iV 0), undefV, undefV, undefV, undefV, undefV, undefV, undefV, undefV, undefV, undefV, undefV, undefV, undefV, undefV, undefV, undefV], [(.row 3 1 0 (fun _ => .und)), (.row 4 1 0 (fun _ => .und))]⟩

theorem wc94 (L : Nat → (St → T (Ex × St)) → St → T (Ex × St)) (p0 : (St → T (Ex × St)) → St → Bool) (n : Nat) (f : Nat → E6) (q : Nat → Bool) (h0 : fit8 n = true) (h10 : rowsBare [.row 3 1 n (fun _ => iV 0)] = true) (hp0 : p0 (body94 (onP 0 p0 (en94a n f n q) L)) (ent94 n f) = true) : (finF (evalF tab ⟨callT tb94, (onP 0 p0 (en94a n f n q) L), Gl⟩ Tryz.f34 [edgesV n f] [])).sem = some ((.ref 0), [(.row 3 1 n (fun k => (iV (partF q n k))))]) := by
  exact sem_of_path (ds := [true, true, true, true]) (cs := [(p0 (body94 (onP 0 p0 (en94a n f n q) L)) (ent94 n f)), (allN n (fun _ => Bool.true)), (fit8 n), (rowsBare [.row 3 1 n (fun _ => iV 0)])]) (by kernel_rfl) (by simp only [hp0] <;> simp only [h0, h10, allN_true, rowsBare_iV] <;> rfl)

theorem run94 (L : Nat → (St → T (Ex × St)) → St → T (Ex × St)) (n : Nat) (f : Nat → E6) (h8 : n * 8 ≤ 140737488355328) : ∀ (e i : Nat) (j : Nat → V) (q : Nat), n = i + e → e < q →
    (iterT (body94 L) (lp94 n f) q (st94 n f i (rowQ (fun k => outB (f k)) i) j)).sem = some (en94a n f n (rowQ (fun k => outB (f k)) n))
  | 0, i, j, q + 1, h, _ => by
    have : n = i := by omega
    subst this
    exact iter_round (rc94a L n f _ _ j (ofNat_ge (Nat.le_refl _)))
  | e + 1, i, j, q + 1, h, h2 => by
    have hl : i < n := by omega
    have ha : apOK i 1 1 = true := ap_ok (by omega)
    rw [iter_round (rc94n L n f i (rowQ (fun k => outB (f k)) i) j (ofNat_lt hl) (ofNat_in hl) ha), goOn_nm, succ_wr hl (by omega)]
    have := push_rowQ (fun k => outB (f k)) i
    rw [this]
    exact run94 L n f h8 e (i + 1) (fun _ => .und) q (by omega) (by omega)

def zs94 : List (Nat × List (Nat × V)) := [(0, [(1, bV false)])]
theorem fill94 (n : Nat) (f : Nat → E6) : fillS (ent94 n f) [(1, bV false)] = st94 n f 0 (fun _ => false) (fun i => nth (ent94 n f).t i) := by kernel_rfl
def part94T : List V → T (V × List Blk) := apL1 fun n f => .br (fitN n) (.leaf (.ref 0, [.row 3 1 n fun k => iV (partF (fun k => outB (f k)) n k)])) .fail

theorem p94 : PureC Tryz.prog Gl 34 part94T := by
  refine pureC_intro tabOK mixed Tryz.func34 (by kernel_rfl) (by kernel_rfl) fun vs v h' h => ?_
  obtain ⟨n, f, ha, h1⟩ := apL1_some h
  obtain ⟨hn, hq⟩ := sem_br_fail h1
  have := sem_leaf hq
  simp only [Prod.mk.injEq] at this
  obtain ⟨rfl, rfl⟩ := this
  have hx := cxZ_ok tb94_ok zs94 [(0, lp94 n f)]
  have hL := loopsZ_le zs94 [(0, lp94 n f)]
  have h0 : ∀ L, (loopsZ zs94 [(0, lp94 n f)] 0 (body94 L) (ent94 n f)).sem = some (en94a n f n (rowQ (fun k => outB (f k)) n)) := fun L => by
    show (iterT (body94 L) (lp94 n f) (n + 1) (fillS (ent94 n f) [(1, bV false)])).sem = _
    rw [fill94, ← rowQ_0 (fun k => outB (f k))]
    exact run94 L n f (fitN_small hn) n 0 _ (n + 1) (by omega) (by omega)
  have hw := told_le (onP_le hL hL) _ (wc94 _ _ n f _ (fitN_8 hn) rowsBare_iV (isP_true (h0 _)))
  rw [partF_rowQ (fun k => outB (f k)) n] at hw
  exact ⟨_, cxZ Gl tb94 zs94 [(0, lp94 n f)], _, ha, rfl, hx.1, hx.2, hw, RowsLE.refl _⟩
def lp95 (n : Nat) (f : Nat → E6) : Lp := ⟨[true, false, false, true, true, false, false, false, false, false, false, false, false, false, false, false, false, false, false, false, false], 2, [false, false, false, true, false, false, false, false, false, false, false, false, false, false, false, false, false, false, false, false, false], 2, n + 1⟩
def st95 (n : Nat) (f : Nat → E6) (i : Nat) (h : Nat → Bool) (j : Nat → V) : St := ⟨[.sl 6 n (fun i => (eV (f i))), j 1, j 2, .ref 1, iV (Int.ofNat i), j 5, j 6, j 7, j 8, j 9, j 10, j 11, j 12, j 13, j 14, j 15, j 16, j 17, j 18, j 19, j 20], [.row 3 1 0 (fun _ => .und), .row 4 1 i (fun k => bV (h k))]⟩
def en95a (n : Nat) (f : Nat → E6) (i : Nat) (h : Nat → Bool) : Ex × St := (.ex 0, ⟨[.und, .und, .und, .ref 1, .und, .und, .und, .und, .und, .und, .und, .und, .und, .und, .und, .und, .und, .und, .und, .und, .und], [.row 3 1 0 (fun _ => .und), .row 4 1 i (fun k => bV (h k))]⟩)
noncomputable def body95 (L : Nat → (St → T (Ex × St)) → St → T (Ex × St)) : St → T (Ex × St) := fun st => evalC tab ⟨callT tb94, L, Gl⟩ (loopBody Tryz.f35 0) 0 st
theorem rc95a (L : Nat → (St → T (Ex × St)) → St → T (Ex × St)) (n : Nat) (f : Nat → E6) (i : Nat) (h : Nat → Bool)  (j : Nat → V) (h0 : ilt (Int.ofNat i) (Int.ofNat n) = false) : ((body95 L (st95 n f i h j)).bind fun r => T.leaf (cutR (lp95 n f) r)).sem = some ((.ex 0), ⟨[.und, .und, .und, (.ref 1), .und, .und, .und, .und, .und, .und, .und, .und, .und, .und, .und, .und, .und, .und, .und, .und, .und], [(.row 3 1 0 (fun _ => .und)), (.row 4 1 i (fun k => (bV (h k))))]⟩) := by
  exact sem_of_path (ds := [false]) (cs := [(ilt (Int.ofNat i) (Int.ofNat n))]) (by kernel_rfl) (by simp only [h0] <;> rfl)
theorem rc95n (L : Nat → (St → T (Ex × St)) → St → T (Ex × St)) (n : Nat) (f : Nat → E6) (i : Nat) (h : Nat → Bool)  (j : Nat → V) (h0 : ilt (Int.ofNat i) (Int.ofNat n) = true) (h1 : band (ile 0 (Int.ofNat i)) (ilt (Int.ofNat i) (Int.ofNat n)) = true) (h2 : apOK i 1 1 = true) : ((body95 L (st95 n f i h j)).bind fun r => T.leaf (cutR (lp95 n f) r)).sem = some (.nm, ⟨[(.sl 6 n (fun i => (eV (f i)))), .und, .und, (.ref 1), (iV (wr IntKind.i64 (iadd (Int.ofNat i) 1))), .und, .und, .und, .und, .und, .und, .und, .und, .und, .und, .und, .und, .und, .und, .und, .und], [(.row 3 1 0 (fun _ => .und)), (.row 4 1 (nadd i 1) (pushGet i (fun k => (bV (h k))) (bV (movB (f i)))))]⟩) := by
  exact sem_of_path (ds := [true, true, true]) (cs := [(ilt (Int.ofNat i) (Int.ofNat n)), (band (ile 0 (Int.ofNat i)) (ilt (Int.ofNat i) (Int.ofNat n))), (apOK i 1 1)]) (by kernel_rfl) (by simp only [h1] <;> simp only [h0, h2] <;> rfl)

def ent95 (n : Nat) (f : Nat → E6)  : St := ⟨[(.sl 6 n (fun i => (eV (f i)))), undefV, (.ref 0), (.ref 1), (iV 0), undefV, undefV, undefV, undefV, undefV, undefV, undefV, undefV, undefV, undefV, undefV, undefV, undefV, undefV, undefV, undefV], [(.row 3 1 0 (fun _ => .und)), (.row 4 1 0 (fun _ => .und))]⟩

theorem wc95 (L : Nat → (St → T (Ex × St)) → St → T (Ex × St)) (p0 : (St → T (Ex × St)) → St → Bool) (n : Nat) (f : Nat → E6) (q : Nat → Bool) (h0 : fit8 n = true) (h10 : rowsBare [.row 3 1 n (fun _ => iV 0)] = true) (hp0 : p0 (body95 (onP 0 p0 (en95a n f n q) L)) (ent95 n f) = true) : (finF (evalF tab ⟨callT tb94, (onP 0 p0 (en95a n f n q) L), Gl⟩ Tryz.f35 [edgesV n f] [])).sem = some ((.ref 0), [(.row 3 1 n (fun k => (iV (partF q n k))))]) := by
  exact sem_of_path (ds := [true, true, true, true]) (cs := [(p0 (body95 (onP 0 p0 (en95a n f n q) L)) (ent95 n f)), (allN n (fun _ => Bool.true)), (fit8 n), (rowsBare [.row 3 1 n (fun _ => iV 0)])]) (by kernel_rfl) (by simp only [hp0] <;> simp only [h0, h10, allN_true, rowsBare_iV] <;> rfl)

theorem run95 (L : Nat → (St → T (Ex × St)) → St → T (Ex × St)) (n : Nat) (f : Nat → E6) (h8 : n * 8 ≤ 140737488355328) : ∀ (e i : Nat) (j : Nat → V) (q : Nat), n = i + e → e < q →
    (iterT (body95 L) (lp95 n f) q (st95 n f i (rowQ (fun k => movB (f k)) i) j)).sem = some (en95a n f n (rowQ (fun k => movB (f k)) n))
  | 0, i, j, q + 1, h, _ => by
    have : n = i := by omega
    subst this
    exact iter_round (rc95a L n f _ _ j (ofNat_ge (Nat.le_refl _)))
  | e + 1, i, j, q + 1, h, h2 => by
    have hl : i < n := by omega
    have ha : apOK i 1 1 = true := ap_ok (by omega)
    rw [iter_round (rc95n L n f i (rowQ (fun k => movB (f k)) i) j (ofNat_lt hl) (ofNat_in hl) ha), goOn_nm, succ_wr hl (by omega)]
    have := push_rowQ (fun k => movB (f k)) i
    rw [this]
    exact run95 L n f h8 e (i + 1) (fun _ => .und) q (by omega) (by omega)

def zs95 : List (Nat × List (Nat × V)) := [(0, [(1, bV false)])]
theorem fill95 (n : Nat) (f : Nat → E6) : fillS (ent95 n f) [(1, bV false)] = st95 n f 0 (fun _ => false) (fun i => nth (ent95 n f).t i) := by kernel_rfl
def part95T : List V → T (V × List Blk) := apL1 fun n f => .br (fitN n) (.leaf (.ref 0, [.row 3 1 n fun k => iV (partF (fun k => movB (f k)) n k)])) .fail

theorem p95 : PureC Tryz.prog Gl 35 part95T := by
  refine pureC_intro tabOK mixed Tryz.func35 (by kernel_rfl) (by kernel_rfl) fun vs v h' h => ?_
  obtain ⟨n, f, ha, h1⟩ := apL1_some h
  obtain ⟨hn, hq⟩ := sem_br_fail h1
  have := sem_leaf hq
  simp only [Prod.mk.injEq] at this
  obtain ⟨rfl, rfl⟩ := this
  have hx := cxZ_ok tb94_ok zs95 [(0, lp95 n f)]
  have hL := loopsZ_le zs95 [(0, lp95 n f)]
  have h0 : ∀ L, (loopsZ zs95 [(0, lp95 n f)] 0 (body95 L) (ent95 n f)).sem = some (en95a n f n (rowQ (fun k => movB (f k)) n)) := fun L => by
    show (iterT (body95 L) (lp95 n f) (n + 1) (fillS (ent95 n f) [(1, bV false)])).sem = _
    rw [fill95, ← rowQ_0 (fun k => movB (f k))]
    exact run95 L n f (fitN_small hn) n 0 _ (n + 1) (by omega) (by omega)
  have hw := told_le (onP_le hL hL) _ (wc95 _ _ n f _ (fitN_8 hn) rowsBare_iV (isP_true (h0 _)))
  rw [partF_rowQ (fun k => movB (f k)) n] at hw
  exact ⟨_, cxZ Gl tb94 zs95 [(0, lp95 n f)], _, ha, rfl, hx.1, hx.2, hw, RowsLE.refl _⟩

theorem partF_congr {p q : Nat → Bool} {n : Nat} (h : ∀ i, i < n → q i = p i) : partF q n = partF p n := by
  funext k
  unfold partF
  by_cases hk : k < n
  · rw [cntB_congr k fun i hi => h i (by omega), cntB_congr n h]
  · simp [hk]

end Go.Proofs.YtkcbdemfmjciiaaGreatDoor.Ed




