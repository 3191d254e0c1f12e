/-
  The law FamilyOwn as a function. Conditions: the listed variables read as listed.
-/
import Derived.Test.YtkcbdemfmjciiaaDoorFaD
import Derived.Test.YtkcbdemfmjciiaaDoorCyZ
namespace Go.Proofs.YtkcbdemfmjciiaaDoor.Fa
open Go.Sy Go Go.Proofs.YtkcbdemfmjciiaaDoor.Ed


/-! ### Answers are the caller's -/

noncomputable def tb6f : List (Nat × (List V → T (V × List Blk))) := [(15, bareT), (16, bareT), (17, sameTextsT), (18, famRowT), (19, famRowT), (20, sameT), (14, unitT (bV true))]
theorem tb6f_ok : AllPure Tryd.prog Gl tb6f := .cons q15 <| .cons q16 <| .cons q17 <| .cons q18 <| .cons q19 <| .cons p42 <| .cons q14 .nil
noncomputable def mt6f : List (Nat × (List V → List Blk → T (V × List Blk))) := [(24, markM 43 6 markE), (25, growM 43 6 growE)]
theorem mt6f_ok : AllMut Tryd.prog Gl mt6f := .cons m43 <| .cons m44 .nil

theorem bare_len : (List.range 25).all (fun b => Nat.ble (psN (bareS b)) 100) = true := by kernel_rfl
theorem bare_le {b : Nat} (h : b < 25) : psN (bareS b) ≤ 100 := Nat.le_of_ble_eq_true (List.all_eq_true.1 bare_len b (List.mem_range.2 h))

theorem set_S (z : Nat → List UInt8) (i : Nat) (e : List UInt8) : setGet (fun k => .str (z k)) i (.str e) = fun k => .str (updA z i e k) := by
  funext k
  rw [setGet_eq]
  unfold updA
  cases Nat.beq k i <;> rfl

def spoilL : List UInt8 := [115, 112, 111, 105, 108, 116]

def lp6y (s : List UInt8) : Lp := ⟨[true, false, true, true, true, true, false, false, false, false, false, false, false, false, false, false, false, false, false, false, false, false, false, false, false, false, false, false, false, false, false, false, false, false, false, false, false, false, false, false, false, false, false, false, false, false, false, false, false, false, false, false, false, false, false, false], 1, [false, false, true, false, false, false, false, false, false, false, false, false, false, false, false, false, false, false, false, false, false, false, false, false, false, false, false, false, false, false, false, false, false, false, false, false, false, false, false, false, false, false, false, false, false, false, false, false, false, false, false, false, false, false, false, false], 0, 4⟩
def st6y (s : List UInt8) (b : Nat) (j : Nat → V) : St := ⟨[.str s, j 1, bV false, .ref 0, iV 0, iV (Int.ofNat b), j 6, j 7, j 8, j 9, j 10, j 11, j 12, j 13, j 14, j 15, j 16, j 17, j 18, j 19, j 20, j 21, j 22, j 23, j 24, j 25, j 26, j 27, j 28, j 29, j 30, j 31, j 32, j 33, j 34, j 35, j 36, j 37, j 38, j 39, j 40, j 41, j 42, j 43, j 44, j 45, j 46, j 47, j 48, j 49, j 50, j 51, j 52, j 53, j 54, j 55], [.row 43 6 (psN (bareS (famK s))) (fun i => (eV (psG (bareS (famK s)) i)))]⟩
def en6ye (s : List UInt8) (b : Nat) : Ex × St := (.ex 0, ⟨[.und, .und, bV false, .und, .und, .und, .und, .und, .und, .und, .und, .und, .und, .und, .und, .und, .und, .und, .und, .und, .und, .und, .und, .und, .und, .und, .und, .und, .und, .und, .und, .und, .und, .und, .und, .und, .und, .und, .und, .und, .und, .und, .und, .und, .und, .und, .und, .und, .und, .und, .und, .und, .und, .und, .und, .und], []⟩)
noncomputable def body6y (L : Nat → (St → T (Ex × St)) → St → T (Ex × St)) : St → T (Ex × St) := fun st => evalC tab ⟨callM mt6f tb6f, L, Gl⟩ (loopBody Tryd.f6 0) 0 st
theorem rf6ye_p (L : Nat → (St → T (Ex × St)) → St → T (Ex × St)) (s : List UInt8) (b : Nat)  (j : Nat → V) : ((body6y L (st6y s b j)).bind fun r => T.leaf (cutR (lp6y s) r)).path [false] = some ([(ilt (Int.ofNat b) 3)], ((.ex 0), ⟨[.und, .und, (bV Bool.false), .und, .und, .und, .und, .und, .und, .und, .und, .und, .und, .und, .und, .und, .und, .und, .und, .und, .und, .und, .und, .und, .und, .und, .und, .und, .und, .und, .und, .und, .und, .und, .und, .und, .und, .und, .und, .und, .und, .und, .und, .und, .und, .und, .und, .und, .und, .und, .und, .und, .und, .und, .und, .und], []⟩)) := by kernel_rfl
theorem rf6ye (L : Nat → (St → T (Ex × St)) → St → T (Ex × St)) (s : List UInt8) (b : Nat)  (j : Nat → V) (h0 : ilt (Int.ofNat b) 3 = false) : ((body6y L (st6y s b j)).bind fun r => T.leaf (cutR (lp6y s) r)).sem = some ((.ex 0), ⟨[.und, .und, (bV Bool.false), .und, .und, .und, .und, .und, .und, .und, .und, .und, .und, .und, .und, .und, .und, .und, .und, .und, .und, .und, .und, .und, .und, .und, .und, .und, .und, .und, .und, .und, .und, .und, .und, .und, .und, .und, .und, .und, .und, .und, .und, .und, .und, .und, .und, .und, .und, .und, .und, .und, .und, .und, .und, .und], []⟩) := by
  exact sem_of_path (rf6ye_p L s b j) (by simp only [h0] <;> rfl)
def jk6y (s : List UInt8)  : Nat → V
  | 10 => (.tup [(.ref 0), (iV 0)])
  | 11 => (.str s)
  | 12 => (.tup [(.ref 0), (iV 0)])
  | 13 => (.ref 0)
  | 14 => (iV 0)
  | _ => undefV

theorem wf6y_p (L : Nat → (St → T (Ex × St)) → St → T (Ex × St)) (p0 : (St → T (Ex × St)) → St → Bool) (s : List UInt8) (b : Nat) : (finF (evalF tab ⟨callM mt6f tb6f, (onP 0 p0 (en6ye s b) L), Gl⟩ Tryd.f6 [.str s] [])).path [true, true] = some ([(isFam s), (p0 (body6y (onP 0 p0 (en6ye s b) L)) (st6y s 0 (jk6y s )))], ((bV Bool.true), [])) := by kernel_rfl
theorem wf6y (L : Nat → (St → T (Ex × St)) → St → T (Ex × St)) (p0 : (St → T (Ex × St)) → St → Bool) (s : List UInt8) (b : Nat) (h0 : isFam s = true) (hp0 : p0 (body6y (onP 0 p0 (en6ye s b) L)) (st6y s 0 (jk6y s )) = true) : (finF (evalF tab ⟨callM mt6f tb6f, (onP 0 p0 (en6ye s b) L), Gl⟩ Tryd.f6 [.str s] [])).sem = some ((bV Bool.true), []) := by
  exact sem_of_path (wf6y_p L p0 s b) (by simp only [hp0] <;> simp only [h0] <;> rfl)

def ent6y2 (s : List UInt8) (b : Nat) (j : Nat → V) : St := ⟨[(.str s), (j 1), (bV Bool.false), (.ref 0), (iV 0), (iV (Int.ofNat b)), (.ref 1), (.ref 2), (iV 0), (iV 0), (j 10), (j 11), (j 12), (j 13), (j 14), (iV (Int.ofNat b)), (bV (ilt (Int.ofNat b) 3)), (j 17), (j 18), (.ref 1), (.tup [(.ref 2), (iV 0)]), (.str s), (.tup [(.ref 2), (iV 0)]), (.ref 2), (iV 0), (iV 0), (iV 0), (bV (bnot (ieq 0 0))), (bV (bnot (ieq 0 0))), (.ref 2), (.ref 0), (bV (sameB (psN (bareS (famK s))) (fun i => (psG (bareS (famK s)) i)) (psN (bareS (famK s))) (fun i => (psG (bareS (famK s)) i)))), (bV (bnot (sameB (psN (bareS (famK s))) (fun i => (psG (bareS (famK s)) i)) (psN (bareS (famK s))) (fun i => (psG (bareS (famK s)) i))))), (bV (bnot (sameB (psN (bareS (famK s))) (fun i => (psG (bareS (famK s)) i)) (psN (bareS (famK s))) (fun i => (psG (bareS (famK s)) i))))), (bV (bnot (sameB (psN (bareS (famK s))) (fun i => (psG (bareS (famK s)) i)) (psN (bareS (famK s))) (fun i => (psG (bareS (famK s)) i))))), (.ref 1), (.ref 3), (bV Bool.true), (bV (bnot Bool.true)), (bV (bnot Bool.true)), (j 40), (j 41), (j 42), (j 43), (j 44), (j 45), (j 46), (j 47), (j 48), (j 49), (j 50), (j 51), (j 52), (j 53), (j 54), (j 55)], [(.row 43 6 (psN (bareS (famK s))) (fun i => (eV (psG (bareS (famK s)) i)))), (.row 9 1 25 (fun i => (.str (famS i)))), (.row 43 6 (psN (bareS (famK s))) (fun i => (eV (psG (bareS (famK s)) i)))), (.row 9 1 25 (fun i => (.str (famS i))))]⟩

def lp6_2y (s : List UInt8) : Lp := ⟨[true, false, true, true, true, true, true, true, false, true, false, false, false, false, false, false, false, false, false, false, false, false, false, false, false, false, false, false, false, false, false, false, false, false, false, false, false, false, false, false, false, false, false, false, false, false, false, false, false, false, false, false, false, false, false, false], 4, [true, false, true, true, true, true, true, true, false, false, false, false, false, false, false, false, false, false, false, false, false, false, false, false, false, false, false, false, false, false, false, false, false, false, false, false, false, false, false, false, false, false, false, false, false, false, false, false, false, false, false, false, false, false, false, false], 3, 26⟩
def st6_2y (s : List UInt8) (b r : Nat) (z : Nat → List UInt8) (j : Nat → V) : St := ⟨[.str s, j 1, bV false, .ref 0, iV 0, iV (Int.ofNat b), .ref 1, .ref 2, j 8, iV (Int.ofNat r), j 10, j 11, j 12, j 13, j 14, j 15, j 16, j 17, j 18, j 19, j 20, j 21, j 22, j 23, j 24, j 25, j 26, j 27, j 28, j 29, j 30, j 31, j 32, j 33, j 34, j 35, j 36, j 37, j 38, j 39, j 40, j 41, j 42, j 43, j 44, j 45, j 46, j 47, j 48, j 49, j 50, j 51, j 52, j 53, j 54, j 55], [.row 43 6 (psN (bareS (famK s))) (fun i => (eV (psG (bareS (famK s)) i))), .row 9 1 25 (fun i => (.str (z i))), .row 43 6 (psN (bareS (famK s))) (fun i => (eV (psG (bareS (famK s)) i))), .row 9 1 25 (fun i => (.str (famS i)))]⟩
def en6_2ye (s : List UInt8) (b r : Nat) (z : Nat → List UInt8) : Ex × St := (.ex 2, ⟨[.str s, .und, bV false, .ref 0, iV 0, iV (Int.ofNat b), .ref 1, .ref 2, .und, .und, .und, .und, .und, .und, .und, .und, .und, .und, .und, .und, .und, .und, .und, .und, .und, .und, .und, .und, .und, .und, .und, .und, .und, .und, .und, .und, .und, .und, .und, .und, .und, .und, .und, .und, .und, .und, .und, .und, .und, .und, .und, .und, .und, .und, .und, .und], [.row 43 6 (psN (bareS (famK s))) (fun i => (eV (psG (bareS (famK s)) i))), .row 9 1 25 (fun i => (.str (z i))), .row 43 6 (psN (bareS (famK s))) (fun i => (eV (psG (bareS (famK s)) i)))]⟩)
noncomputable def body6_2y (L : Nat → (St → T (Ex × St)) → St → T (Ex × St)) : St → T (Ex × St) := fun st => evalC tab ⟨callM mt6f tb6f, L, Gl⟩ (loopBody Tryd.f6 2) 2 st
theorem ri6ye_p (L : Nat → (St → T (Ex × St)) → St → T (Ex × St)) (s : List UInt8) (b r : Nat) (z : Nat → List UInt8)  (j : Nat → V) : ((body6_2y L (st6_2y s b r z j)).bind fun r => T.leaf (cutR (lp6_2y s) r)).path [false] = some ([(ilt (Int.ofNat r) 25)], ((.ex 2), ⟨[(.str s), .und, (bV Bool.false), (.ref 0), (iV 0), (iV (Int.ofNat b)), (.ref 1), (.ref 2), .und, .und, .und, .und, .und, .und, .und, .und, .und, .und, .und, .und, .und, .und, .und, .und, .und, .und, .und, .und, .und, .und, .und, .und, .und, .und, .und, .und, .und, .und, .und, .und, .und, .und, .und, .und, .und, .und, .und, .und, .und, .und, .und, .und, .und, .und, .und, .und], [(.row 43 6 (psN (bareS (famK s))) (fun i => (eV (psG (bareS (famK s)) i)))), (.row 9 1 25 (fun i => (.str (z i)))), (.row 43 6 (psN (bareS (famK s))) (fun i => (eV (psG (bareS (famK s)) i))))]⟩)) := by kernel_rfl
theorem ri6ye (L : Nat → (St → T (Ex × St)) → St → T (Ex × St)) (s : List UInt8) (b r : Nat) (z : Nat → List UInt8)  (j : Nat → V) (h0 : ilt (Int.ofNat r) 25 = false) : ((body6_2y L (st6_2y s b r z j)).bind fun r => T.leaf (cutR (lp6_2y s) r)).sem = some ((.ex 2), ⟨[(.str s), .und, (bV Bool.false), (.ref 0), (iV 0), (iV (Int.ofNat b)), (.ref 1), (.ref 2), .und, .und, .und, .und, .und, .und, .und, .und, .und, .und, .und, .und, .und, .und, .und, .und, .und, .und, .und, .und, .und, .und, .und, .und, .und, .und, .und, .und, .und, .und, .und, .und, .und, .und, .und, .und, .und, .und, .und, .und, .und, .und, .und, .und, .und, .und, .und, .und], [(.row 43 6 (psN (bareS (famK s))) (fun i => (eV (psG (bareS (famK s)) i)))), (.row 9 1 25 (fun i => (.str (z i)))), (.row 43 6 (psN (bareS (famK s))) (fun i => (eV (psG (bareS (famK s)) i))))]⟩) := by
  exact sem_of_path (ri6ye_p L s b r z j) (by simp only [h0] <;> rfl)
theorem ri6yn_p (L : Nat → (St → T (Ex × St)) → St → T (Ex × St)) (s : List UInt8) (b r : Nat) (z : Nat → List UInt8)  (j : Nat → V) : ((body6_2y L (st6_2y s b r z j)).bind fun r => T.leaf (cutR (lp6_2y s) r)).path [true, true, true] = some ([(ilt (Int.ofNat r) 25), (band (ile 0 (Int.ofNat r)) (ilt (Int.ofNat r) 25)), (nlt r 25)], (.nm, ⟨[(.str s), .und, (bV Bool.false), (.ref 0), (iV 0), (iV (Int.ofNat b)), (.ref 1), (.ref 2), .und, (iV (wr IntKind.i64 (iadd (Int.ofNat r) 1))), .und, .und, .und, .und, .und, .und, .und, .und, .und, .und, .und, .und, .und, .und, .und, .und, .und, .und, .und, .und, .und, .und, .und, .und, .und, .und, .und, .und, .und, .und, .und, .und, .und, .und, .und, .und, .und, .und, .und, .und, .und, .und, .und, .und, .und, .und], [(.row 43 6 (psN (bareS (famK s))) (fun i => (eV (psG (bareS (famK s)) i)))), (.row 9 1 25 (setGet (fun i => .str (z i)) r (.str [115, 112, 111, 105, 108, 116]))), (.row 43 6 (psN (bareS (famK s))) (fun i => (eV (psG (bareS (famK s)) i)))), (.row 9 1 25 (fun i => (.str (famS i))))]⟩)) := by kernel_rfl
theorem ri6yn (L : Nat → (St → T (Ex × St)) → St → T (Ex × St)) (s : List UInt8) (b r : Nat) (z : Nat → List UInt8)  (j : Nat → V) (h0 : ilt (Int.ofNat r) 25 = true) (h21 : ile 0 (Int.ofNat r) = true) (h22 : nlt r 25 = true) : ((body6_2y L (st6_2y s b r z j)).bind fun r => T.leaf (cutR (lp6_2y s) r)).sem = some (.nm, ⟨[(.str s), .und, (bV Bool.false), (.ref 0), (iV 0), (iV (Int.ofNat b)), (.ref 1), (.ref 2), .und, (iV (wr IntKind.i64 (iadd (Int.ofNat r) 1))), .und, .und, .und, .und, .und, .und, .und, .und, .und, .und, .und, .und, .und, .und, .und, .und, .und, .und, .und, .und, .und, .und, .und, .und, .und, .und, .und, .und, .und, .und, .und, .und, .und, .und, .und, .und, .und, .und, .und, .und, .und, .und, .und, .und, .und, .und], [(.row 43 6 (psN (bareS (famK s))) (fun i => (eV (psG (bareS (famK s)) i)))), (.row 9 1 25 (setGet (fun i => .str (z i)) r (.str [115, 112, 111, 105, 108, 116]))), (.row 43 6 (psN (bareS (famK s))) (fun i => (eV (psG (bareS (famK s)) i)))), (.row 9 1 25 (fun i => (.str (famS i))))]⟩) := by
  exact sem_of_path (ri6yn_p L s b r z j) (by simp only [h0, h21, h22] <;> rfl)

theorem rf6yn_p (L : Nat → (St → T (Ex × St)) → St → T (Ex × St)) (p2 : (St → T (Ex × St)) → St → Bool) (s : List UInt8) (b r : Nat) (z : Nat → List UInt8) (j : Nat → V) : ((body6y (onP 2 p2 (en6_2ye s b r z) L) (st6y s b j)).bind fun r => T.leaf (cutR (lp6y s) r)).path [true, true, false, false, false, true, true, true, false, false, false, false, false, true, true, true, true, true, false, false, false, true, true, true, true] = some ([(ilt (Int.ofNat b) 3), (isFam s), (bnot (ieq 0 0)), (bnot (ieq 0 0)), (bnot (ieq 0 0)), (allN (psN (bareS (famK s))) (fun _ => Bool.true)), (allN (psN (bareS (famK s))) (fun _ => Bool.true)), (smallN (psN (bareS (famK s)))), (bnot (ieq 0 0)), (bnot (ieq 0 0)), (bnot (sameB (psN (bareS (famK s))) (fun i => (psG (bareS (famK s)) i)) (psN (bareS (famK s))) (fun i => (psG (bareS (famK s)) i)))), (bnot (sameB (psN (bareS (famK s))) (fun i => (psG (bareS (famK s)) i)) (psN (bareS (famK s))) (fun i => (psG (bareS (famK s)) i)))), (bnot (sameB (psN (bareS (famK s))) (fun i => (psG (bareS (famK s)) i)) (psN (bareS (famK s))) (fun i => (psG (bareS (famK s)) i)))), (allN 25 (fun _ => Bool.true)), (allN 25 (fun _ => Bool.true)), (nbeq 25 25), (smallN 25), (allN 25 (fun i => (seq (famS i) (famS i)))), (bnot (sameB (psN (bareS (famK s))) (fun i => (psG (bareS (famK s)) i)) (psN (bareS (famK s))) (fun i => (psG (bareS (famK s)) i)))), (bnot (sameB (psN (bareS (famK s))) (fun i => (psG (bareS (famK s)) i)) (psN (bareS (famK s))) (fun i => (psG (bareS (famK s)) i)))), (bnot Bool.true), (p2 (body6_2y (onP 2 p2 (en6_2ye s b r z) L)) (ent6y2 s b j)), (smallN (psN (bareS (famK s)))), (allN (psN (bareS (famK s))) (fun _ => Bool.true)), (apOK (psN (bareS (famK s))) 60 40)], (.nm, ⟨[(.str s), .und, (bV Bool.false), (.ref 0), (iV 0), (iV (wr IntKind.i64 (iadd (Int.ofNat b) 1))), .und, .und, .und, .und, .und, .und, .und, .und, .und, .und, .und, .und, .und, .und, .und, .und, .und, .und, .und, .und, .und, .und, .und, .und, .und, .und, .und, .und, .und, .und, .und, .und, .und, .und, .und, .und, .und, .und, .und, .und, .und, .und, .und, .und, .und, .und, .und, .und, .und, .und], [(.row 43 6 (psN (bareS (famK s))) (fun i => (eV (psG (bareS (famK s)) i))))]⟩)) := by kernel_rfl
theorem rf6yn (L : Nat → (St → T (Ex × St)) → St → T (Ex × St)) (p2 : (St → T (Ex × St)) → St → Bool) (s : List UInt8) (b r : Nat) (z : Nat → List UInt8) (j : Nat → V) (h0 : ilt (Int.ofNat b) 3 = true) (h1 : isFam s = true) (h22 : smallN (psN (bareS (famK s))) = true) (h23 : sameB (psN (bareS (famK s))) (fun i => (psG (bareS (famK s)) i)) (psN (bareS (famK s))) (fun i => (psG (bareS (famK s)) i)) = true) (h24 : nbeq 25 25 = true) (h25 : smallN 25 = true) (h26 : allN 25 (fun i => (seq (famS i) (famS i))) = true) (h27 : apOK (psN (bareS (famK s))) 60 40 = true) (hp2 : p2 (body6_2y (onP 2 p2 (en6_2ye s b r z) L)) (ent6y2 s b j) = true) : ((body6y (onP 2 p2 (en6_2ye s b r z) L) (st6y s b j)).bind fun r => T.leaf (cutR (lp6y s) r)).sem = some (.nm, ⟨[(.str s), .und, (bV Bool.false), (.ref 0), (iV 0), (iV (wr IntKind.i64 (iadd (Int.ofNat b) 1))), .und, .und, .und, .und, .und, .und, .und, .und, .und, .und, .und, .und, .und, .und, .und, .und, .und, .und, .und, .und, .und, .und, .und, .und, .und, .und, .und, .und, .und, .und, .und, .und, .und, .und, .und, .und, .und, .und, .und, .und, .und, .und, .und, .und, .und, .und, .und, .und, .und, .und], [(.row 43 6 (psN (bareS (famK s))) (fun i => (eV (psG (bareS (famK s)) i))))]⟩) := by
  exact sem_of_path (rf6yn_p L p2 s b r z j) (by simp only [hp2] <;> simp only [h0, h1, h22, h23, h24, h25, h26, h27, allN_true] <;> rfl)

theorem ent6y2_eq (s : List UInt8) (b : Nat) (j : Nat → V) : ent6y2 s b j = st6_2y s b 0 famS (fun i => nth (ent6y2 s b j).t i) := by kernel_rfl

theorem run6iy (L : Nat → (St → T (Ex × St)) → St → T (Ex × St)) (s : List UInt8) (b : Nat) : ∀ (d r : Nat) (j : Nat → V) (q : Nat), 25 = r + d → d < q →
    (iterT (body6_2y L) (lp6_2y s) q (st6_2y s b r (fillA famS spoilL r) j)).sem = some (en6_2ye s b 25 (fillA famS spoilL 25))
  | 0, r, j, q + 1, h, _ => by
    have : r = 25 := by omega
    subst this
    exact iter_round (ri6ye L s b 25 (fillA famS spoilL 25) j rfl)
  | d + 1, r, j, q + 1, h, h2 => by
    have hr : r < 25 := by omega
    have h1 := ri6yn L s b r (fillA famS spoilL r) j (ofNat_lt hr) (ile_f r) (decide_eq_true hr)
    rw [set_S] at h1
    rw [iter_round h1, goOn_nm, succ_wr hr (by decide)]
    exact run6iy L s b d (r + 1) (fun _ => .und) q (by omega) (by omega)

theorem run6y (M : Nat → (St → T (Ex × St)) → St → T (Ex × St)) (hMM : LLe M M) (s : List UInt8) (hf : isFam s = true) (m2 : ∀ f' st, M 2 f' st = iterT f' (lp6_2y s) 26 st) : ∀ (d b : Nat) (j : Nat → V) (q : Nat), 3 = b + d → d < q →
    (iterT (body6y M) (lp6y s) q (st6y s b j)).sem = some (en6ye s 3)
  | 0, b, j, q + 1, h, _ => by
    have : b = 3 := by omega
    subst this
    exact iter_round (rf6ye M s 3 j rfl)
  | d + 1, b, j, q + 1, h, h2 => by
    have hb : b < 3 := by omega
    have hi : ∀ M', (M 2 (body6_2y M') (ent6y2 s b j)).sem = some (en6_2ye s b 25 (fillA famS spoilL 25)) := fun M' => by
      rw [m2, ent6y2_eq]
      exact run6iy M' s b 25 0 _ 26 rfl (by omega)
    have h3 := rf6yn M _ s b 25 (fillA famS spoilL 25) j (ofNat_lt hb) hf (fit_smallF (bare_may (famK_lt hf)).2) (sameB_at.2 ⟨rfl, fun _ _ => rfl⟩) rfl rfl (allN_iff.2 fun _ _ => seq_rfl _) (ap_ok (by have := bare_le (famK_lt hf); omega)) (isP_true (hi _))
    have h4 : roundT (body6y M) (lp6y s) (st6y s b j) = _ := roundT_le (l := lp6y s) (evalC_le (Γ := ⟨callM mt6f tb6f, M, Gl⟩) (onP_le hMM hMM) (loopBody Tryd.f6 0) 0 (st6y s b j)) h3
    rw [iter_round h4, goOn_nm, succ_wr hb (by decide)]
    exact run6y M hMM s hf m2 d (b + 1) (fun _ => .und) q (by omega) (by omega)

def lp6n (s : List UInt8) : Lp := ⟨[true, false, true, true, true, true, false, false, false, false, false, false, false, false, false, false, false, false, false, false, false, false, false, false, false, false, false, false, false, false, false, false, false, false, false, false, false, false, false, false, false, false, false, false, false, false, false, false, false, false, false, false, false, false, false, false], 1, [false, false, true, false, false, false, false, false, false, false, false, false, false, false, false, false, false, false, false, false, false, false, false, false, false, false, false, false, false, false, false, false, false, false, false, false, false, false, false, false, false, false, false, false, false, false, false, false, false, false, false, false, false, false, false, false], 0, 4⟩
def st6n (s : List UInt8) (b : Nat) (j : Nat → V) : St := ⟨[.str s, j 1, bV false, .ref 0, iV 4, iV (Int.ofNat b), j 6, j 7, j 8, j 9, j 10, j 11, j 12, j 13, j 14, j 15, j 16, j 17, j 18, j 19, j 20, j 21, j 22, j 23, j 24, j 25, j 26, j 27, j 28, j 29, j 30, j 31, j 32, j 33, j 34, j 35, j 36, j 37, j 38, j 39, j 40, j 41, j 42, j 43, j 44, j 45, j 46, j 47, j 48, j 49, j 50, j 51, j 52, j 53, j 54, j 55], [.row 43 6 0 (fun _ => .und)]⟩
def en6ne (s : List UInt8) (b : Nat) : Ex × St := (.ex 0, ⟨[.und, .und, bV false, .und, .und, .und, .und, .und, .und, .und, .und, .und, .und, .und, .und, .und, .und, .und, .und, .und, .und, .und, .und, .und, .und, .und, .und, .und, .und, .und, .und, .und, .und, .und, .und, .und, .und, .und, .und, .und, .und, .und, .und, .und, .und, .und, .und, .und, .und, .und, .und, .und, .und, .und, .und, .und], []⟩)
noncomputable def body6n (L : Nat → (St → T (Ex × St)) → St → T (Ex × St)) : St → T (Ex × St) := fun st => evalC tab ⟨callM mt6f tb6f, L, Gl⟩ (loopBody Tryd.f6 0) 0 st
theorem rf6ne_p (L : Nat → (St → T (Ex × St)) → St → T (Ex × St)) (s : List UInt8) (b : Nat)  (j : Nat → V) : ((body6n L (st6n s b j)).bind fun r => T.leaf (cutR (lp6n s) r)).path [false] = some ([(ilt (Int.ofNat b) 3)], ((.ex 0), ⟨[.und, .und, (bV Bool.false), .und, .und, .und, .und, .und, .und, .und, .und, .und, .und, .und, .und, .und, .und, .und, .und, .und, .und, .und, .und, .und, .und, .und, .und, .und, .und, .und, .und, .und, .und, .und, .und, .und, .und, .und, .und, .und, .und, .und, .und, .und, .und, .und, .und, .und, .und, .und, .und, .und, .und, .und, .und, .und], []⟩)) := by kernel_rfl
theorem rf6ne (L : Nat → (St → T (Ex × St)) → St → T (Ex × St)) (s : List UInt8) (b : Nat)  (j : Nat → V) (h0 : ilt (Int.ofNat b) 3 = false) : ((body6n L (st6n s b j)).bind fun r => T.leaf (cutR (lp6n s) r)).sem = some ((.ex 0), ⟨[.und, .und, (bV Bool.false), .und, .und, .und, .und, .und, .und, .und, .und, .und, .und, .und, .und, .und, .und, .und, .und, .und, .und, .und, .und, .und, .und, .und, .und, .und, .und, .und, .und, .und, .und, .und, .und, .und, .und, .und, .und, .und, .und, .und, .und, .und, .und, .und, .und, .und, .und, .und, .und, .und, .und, .und, .und, .und], []⟩) := by
  exact sem_of_path (rf6ne_p L s b j) (by simp only [h0] <;> rfl)
def jk6n (s : List UInt8)  : Nat → V
  | 10 => (.tup [(.ref 0), (iV 4)])
  | 11 => (.str s)
  | 12 => (.tup [(.ref 0), (iV 4)])
  | 13 => (.ref 0)
  | 14 => (iV 4)
  | _ => undefV

theorem wf6n_p (L : Nat → (St → T (Ex × St)) → St → T (Ex × St)) (p0 : (St → T (Ex × St)) → St → Bool) (s : List UInt8) (b : Nat) : (finF (evalF tab ⟨callM mt6f tb6f, (onP 0 p0 (en6ne s b) L), Gl⟩ Tryd.f6 [.str s] [])).path [false, true] = some ([(isFam s), (p0 (body6n (onP 0 p0 (en6ne s b) L)) (st6n s 0 (jk6n s )))], ((bV Bool.true), [])) := by kernel_rfl
theorem wf6n (L : Nat → (St → T (Ex × St)) → St → T (Ex × St)) (p0 : (St → T (Ex × St)) → St → Bool) (s : List UInt8) (b : Nat) (h0 : isFam s = false) (hp0 : p0 (body6n (onP 0 p0 (en6ne s b) L)) (st6n s 0 (jk6n s )) = true) : (finF (evalF tab ⟨callM mt6f tb6f, (onP 0 p0 (en6ne s b) L), Gl⟩ Tryd.f6 [.str s] [])).sem = some ((bV Bool.true), []) := by
  exact sem_of_path (wf6n_p L p0 s b) (by simp only [hp0] <;> simp only [h0] <;> rfl)

def ent6n2 (s : List UInt8) (b : Nat) (j : Nat → V) : St := ⟨[(.str s), (j 1), (bV Bool.false), (.ref 0), (iV 4), (iV (Int.ofNat b)), (.ref 1), (.ref 2), (iV 4), (iV 0), (j 10), (j 11), (j 12), (j 13), (j 14), (iV (Int.ofNat b)), (bV (ilt (Int.ofNat b) 3)), (j 17), (j 18), (.ref 1), (.tup [(.ref 2), (iV 4)]), (.str s), (.tup [(.ref 2), (iV 4)]), (.ref 2), (iV 4), (iV 4), (iV 4), (bV (bnot (ieq 4 4))), (bV (bnot (ieq 4 4))), (.ref 2), (.ref 0), (bV (sameB 0 (fun _ => (E6.mk 0 Bool.false Bool.false 0 0 0)) 0 (fun _ => (E6.mk 0 Bool.false Bool.false 0 0 0)))), (bV (bnot (sameB 0 (fun _ => (E6.mk 0 Bool.false Bool.false 0 0 0)) 0 (fun _ => (E6.mk 0 Bool.false Bool.false 0 0 0))))), (bV (bnot (sameB 0 (fun _ => (E6.mk 0 Bool.false Bool.false 0 0 0)) 0 (fun _ => (E6.mk 0 Bool.false Bool.false 0 0 0))))), (bV (bnot (sameB 0 (fun _ => (E6.mk 0 Bool.false Bool.false 0 0 0)) 0 (fun _ => (E6.mk 0 Bool.false Bool.false 0 0 0))))), (.ref 1), (.ref 3), (bV Bool.true), (bV (bnot Bool.true)), (bV (bnot Bool.true)), (j 40), (j 41), (j 42), (j 43), (j 44), (j 45), (j 46), (j 47), (j 48), (j 49), (j 50), (j 51), (j 52), (j 53), (j 54), (j 55)], [(.row 43 6 0 (fun _ => .und)), (.row 9 1 25 (fun i => (.str (famS i)))), (.row 43 6 0 (fun _ => .und)), (.row 9 1 25 (fun i => (.str (famS i))))]⟩

def lp6_2n (s : List UInt8) : Lp := ⟨[true, false, true, true, true, true, true, true, false, true, false, false, false, false, false, false, false, false, false, false, false, false, false, false, false, false, false, false, false, false, false, false, false, false, false, false, false, false, false, false, false, false, false, false, false, false, false, false, false, false, false, false, false, false, false, false], 4, [true, false, true, true, true, true, true, true, false, false, false, false, false, false, false, false, false, false, false, false, false, false, false, false, false, false, false, false, false, false, false, false, false, false, false, false, false, false, false, false, false, false, false, false, false, false, false, false, false, false, false, false, false, false, false, false], 3, 26⟩
def st6_2n (s : List UInt8) (b r : Nat) (z : Nat → List UInt8) (j : Nat → V) : St := ⟨[.str s, j 1, bV false, .ref 0, iV 4, iV (Int.ofNat b), .ref 1, .ref 2, j 8, iV (Int.ofNat r), j 10, j 11, j 12, j 13, j 14, j 15, j 16, j 17, j 18, j 19, j 20, j 21, j 22, j 23, j 24, j 25, j 26, j 27, j 28, j 29, j 30, j 31, j 32, j 33, j 34, j 35, j 36, j 37, j 38, j 39, j 40, j 41, j 42, j 43, j 44, j 45, j 46, j 47, j 48, j 49, j 50, j 51, j 52, j 53, j 54, j 55], [.row 43 6 0 (fun _ => .und), .row 9 1 25 (fun i => (.str (z i))), .row 43 6 0 (fun _ => .und), .row 9 1 25 (fun i => (.str (famS i)))]⟩
def en6_2ne (s : List UInt8) (b r : Nat) (z : Nat → List UInt8) : Ex × St := (.ex 2, ⟨[.str s, .und, bV false, .ref 0, iV 4, iV (Int.ofNat b), .ref 1, .ref 2, .und, .und, .und, .und, .und, .und, .und, .und, .und, .und, .und, .und, .und, .und, .und, .und, .und, .und, .und, .und, .und, .und, .und, .und, .und, .und, .und, .und, .und, .und, .und, .und, .und, .und, .und, .und, .und, .und, .und, .und, .und, .und, .und, .und, .und, .und, .und, .und], [.row 43 6 0 (fun _ => .und), .row 9 1 25 (fun i => (.str (z i))), .row 43 6 0 (fun _ => .und)]⟩)
noncomputable def body6_2n (L : Nat → (St → T (Ex × St)) → St → T (Ex × St)) : St → T (Ex × St) := fun st => evalC tab ⟨callM mt6f tb6f, L, Gl⟩ (loopBody Tryd.f6 2) 2 st
theorem ri6ne_p (L : Nat → (St → T (Ex × St)) → St → T (Ex × St)) (s : List UInt8) (b r : Nat) (z : Nat → List UInt8)  (j : Nat → V) : ((body6_2n L (st6_2n s b r z j)).bind fun r => T.leaf (cutR (lp6_2n s) r)).path [false] = some ([(ilt (Int.ofNat r) 25)], ((.ex 2), ⟨[(.str s), .und, (bV Bool.false), (.ref 0), (iV 4), (iV (Int.ofNat b)), (.ref 1), (.ref 2), .und, .und, .und, .und, .und, .und, .und, .und, .und, .und, .und, .und, .und, .und, .und, .und, .und, .und, .und, .und, .und, .und, .und, .und, .und, .und, .und, .und, .und, .und, .und, .und, .und, .und, .und, .und, .und, .und, .und, .und, .und, .und, .und, .und, .und, .und, .und, .und], [(.row 43 6 0 (fun _ => .und)), (.row 9 1 25 (fun i => (.str (z i)))), (.row 43 6 0 (fun _ => .und))]⟩)) := by kernel_rfl
theorem ri6ne (L : Nat → (St → T (Ex × St)) → St → T (Ex × St)) (s : List UInt8) (b r : Nat) (z : Nat → List UInt8)  (j : Nat → V) (h0 : ilt (Int.ofNat r) 25 = false) : ((body6_2n L (st6_2n s b r z j)).bind fun r => T.leaf (cutR (lp6_2n s) r)).sem = some ((.ex 2), ⟨[(.str s), .und, (bV Bool.false), (.ref 0), (iV 4), (iV (Int.ofNat b)), (.ref 1), (.ref 2), .und, .und, .und, .und, .und, .und, .und, .und, .und, .und, .und, .und, .und, .und, .und, .und, .und, .und, .und, .und, .und, .und, .und, .und, .und, .und, .und, .und, .und, .und, .und, .und, .und, .und, .und, .und, .und, .und, .und, .und, .und, .und, .und, .und, .und, .und, .und, .und], [(.row 43 6 0 (fun _ => .und)), (.row 9 1 25 (fun i => (.str (z i)))), (.row 43 6 0 (fun _ => .und))]⟩) := by
  exact sem_of_path (ri6ne_p L s b r z j) (by simp only [h0] <;> rfl)
theorem ri6nn_p (L : Nat → (St → T (Ex × St)) → St → T (Ex × St)) (s : List UInt8) (b r : Nat) (z : Nat → List UInt8)  (j : Nat → V) : ((body6_2n L (st6_2n s b r z j)).bind fun r => T.leaf (cutR (lp6_2n s) r)).path [true, true, true] = some ([(ilt (Int.ofNat r) 25), (band (ile 0 (Int.ofNat r)) (ilt (Int.ofNat r) 25)), (nlt r 25)], (.nm, ⟨[(.str s), .und, (bV Bool.false), (.ref 0), (iV 4), (iV (Int.ofNat b)), (.ref 1), (.ref 2), .und, (iV (wr IntKind.i64 (iadd (Int.ofNat r) 1))), .und, .und, .und, .und, .und, .und, .und, .und, .und, .und, .und, .und, .und, .und, .und, .und, .und, .und, .und, .und, .und, .und, .und, .und, .und, .und, .und, .und, .und, .und, .und, .und, .und, .und, .und, .und, .und, .und, .und, .und, .und, .und, .und, .und, .und, .und], [(.row 43 6 0 (fun _ => .und)), (.row 9 1 25 (setGet (fun i => .str (z i)) r (.str [115, 112, 111, 105, 108, 116]))), (.row 43 6 0 (fun _ => .und)), (.row 9 1 25 (fun i => (.str (famS i))))]⟩)) := by kernel_rfl
theorem ri6nn (L : Nat → (St → T (Ex × St)) → St → T (Ex × St)) (s : List UInt8) (b r : Nat) (z : Nat → List UInt8)  (j : Nat → V) (h0 : ilt (Int.ofNat r) 25 = true) (h21 : ile 0 (Int.ofNat r) = true) (h22 : nlt r 25 = true) : ((body6_2n L (st6_2n s b r z j)).bind fun r => T.leaf (cutR (lp6_2n s) r)).sem = some (.nm, ⟨[(.str s), .und, (bV Bool.false), (.ref 0), (iV 4), (iV (Int.ofNat b)), (.ref 1), (.ref 2), .und, (iV (wr IntKind.i64 (iadd (Int.ofNat r) 1))), .und, .und, .und, .und, .und, .und, .und, .und, .und, .und, .und, .und, .und, .und, .und, .und, .und, .und, .und, .und, .und, .und, .und, .und, .und, .und, .und, .und, .und, .und, .und, .und, .und, .und, .und, .und, .und, .und, .und, .und, .und, .und, .und, .und, .und, .und], [(.row 43 6 0 (fun _ => .und)), (.row 9 1 25 (setGet (fun i => .str (z i)) r (.str [115, 112, 111, 105, 108, 116]))), (.row 43 6 0 (fun _ => .und)), (.row 9 1 25 (fun i => (.str (famS i))))]⟩) := by
  exact sem_of_path (ri6nn_p L s b r z j) (by simp only [h0, h21, h22] <;> rfl)

theorem rf6nn_p (L : Nat → (St → T (Ex × St)) → St → T (Ex × St)) (p2 : (St → T (Ex × St)) → St → Bool) (s : List UInt8) (b r : Nat) (z : Nat → List UInt8) (j : Nat → V) : ((body6n (onP 2 p2 (en6_2ne s b r z) L) (st6n s b j)).bind fun r => T.leaf (cutR (lp6n s) r)).path [true, false, false, false, false, true, true, true, false, false, false, false, false, true, true, true, true, true, false, false, false, true, true, true, true] = some ([(ilt (Int.ofNat b) 3), (isFam s), (bnot (ieq 4 4)), (bnot (ieq 4 4)), (bnot (ieq 4 4)), (allN 0 (fun _ => Bool.false)), (allN 0 (fun _ => Bool.false)), (smallN 0), (bnot (ieq 4 4)), (bnot (ieq 4 4)), (bnot (sameB 0 (fun _ => (E6.mk 0 Bool.false Bool.false 0 0 0)) 0 (fun _ => (E6.mk 0 Bool.false Bool.false 0 0 0)))), (bnot (sameB 0 (fun _ => (E6.mk 0 Bool.false Bool.false 0 0 0)) 0 (fun _ => (E6.mk 0 Bool.false Bool.false 0 0 0)))), (bnot (sameB 0 (fun _ => (E6.mk 0 Bool.false Bool.false 0 0 0)) 0 (fun _ => (E6.mk 0 Bool.false Bool.false 0 0 0)))), (allN 25 (fun _ => Bool.true)), (allN 25 (fun _ => Bool.true)), (nbeq 25 25), (smallN 25), (allN 25 (fun i => (seq (famS i) (famS i)))), (bnot (sameB 0 (fun _ => (E6.mk 0 Bool.false Bool.false 0 0 0)) 0 (fun _ => (E6.mk 0 Bool.false Bool.false 0 0 0)))), (bnot (sameB 0 (fun _ => (E6.mk 0 Bool.false Bool.false 0 0 0)) 0 (fun _ => (E6.mk 0 Bool.false Bool.false 0 0 0)))), (bnot Bool.true), (p2 (body6_2n (onP 2 p2 (en6_2ne s b r z) L)) (ent6n2 s b j)), (smallN 0), (allN 0 (fun _ => Bool.false)), (apOK 0 60 40)], (.nm, ⟨[(.str s), .und, (bV Bool.false), (.ref 0), (iV 4), (iV (wr IntKind.i64 (iadd (Int.ofNat b) 1))), .und, .und, .und, .und, .und, .und, .und, .und, .und, .und, .und, .und, .und, .und, .und, .und, .und, .und, .und, .und, .und, .und, .und, .und, .und, .und, .und, .und, .und, .und, .und, .und, .und, .und, .und, .und, .und, .und, .und, .und, .und, .und, .und, .und, .und, .und, .und, .und, .und, .und], [(.row 43 6 0 (fun _ => .und))]⟩)) := by kernel_rfl
theorem rf6nn (L : Nat → (St → T (Ex × St)) → St → T (Ex × St)) (p2 : (St → T (Ex × St)) → St → Bool) (s : List UInt8) (b r : Nat) (z : Nat → List UInt8) (j : Nat → V) (h0 : ilt (Int.ofNat b) 3 = true) (h1 : isFam s = false) (h22 : allN 0 (fun _ => Bool.false) = true) (h23 : smallN 0 = true) (h24 : sameB 0 (fun _ => (E6.mk 0 Bool.false Bool.false 0 0 0)) 0 (fun _ => (E6.mk 0 Bool.false Bool.false 0 0 0)) = true) (h25 : nbeq 25 25 = true) (h26 : smallN 25 = true) (h27 : allN 25 (fun i => (seq (famS i) (famS i))) = true) (hp2 : p2 (body6_2n (onP 2 p2 (en6_2ne s b r z) L)) (ent6n2 s b j) = true) : ((body6n (onP 2 p2 (en6_2ne s b r z) L) (st6n s b j)).bind fun r => T.leaf (cutR (lp6n s) r)).sem = some (.nm, ⟨[(.str s), .und, (bV Bool.false), (.ref 0), (iV 4), (iV (wr IntKind.i64 (iadd (Int.ofNat b) 1))), .und, .und, .und, .und, .und, .und, .und, .und, .und, .und, .und, .und, .und, .und, .und, .und, .und, .und, .und, .und, .und, .und, .und, .und, .und, .und, .und, .und, .und, .und, .und, .und, .und, .und, .und, .und, .und, .und, .und, .und, .und, .und, .und, .und, .und, .und, .und, .und, .und, .und], [(.row 43 6 0 (fun _ => .und))]⟩) := by
  exact sem_of_path (rf6nn_p L p2 s b r z j) (by simp only [hp2] <;> simp only [h0, h1, h22, h23, h24, h25, h26, h27, allN_true] <;> rfl)

theorem ent6n2_eq (s : List UInt8) (b : Nat) (j : Nat → V) : ent6n2 s b j = st6_2n s b 0 famS (fun i => nth (ent6n2 s b j).t i) := by kernel_rfl

theorem run6in (L : Nat → (St → T (Ex × St)) → St → T (Ex × St)) (s : List UInt8) (b : Nat) : ∀ (d r : Nat) (j : Nat → V) (q : Nat), 25 = r + d → d < q →
    (iterT (body6_2n L) (lp6_2n s) q (st6_2n s b r (fillA famS spoilL r) j)).sem = some (en6_2ne s b 25 (fillA famS spoilL 25))
  | 0, r, j, q + 1, h, _ => by
    have : r = 25 := by omega
    subst this
    exact iter_round (ri6ne L s b 25 (fillA famS spoilL 25) j rfl)
  | d + 1, r, j, q + 1, h, h2 => by
    have hr : r < 25 := by omega
    have h1 := ri6nn L s b r (fillA famS spoilL r) j (ofNat_lt hr) (ile_f r) (decide_eq_true hr)
    rw [set_S] at h1
    rw [iter_round h1, goOn_nm, succ_wr hr (by decide)]
    exact run6in L s b d (r + 1) (fun _ => .und) q (by omega) (by omega)

theorem run6n (M : Nat → (St → T (Ex × St)) → St → T (Ex × St)) (hMM : LLe M M) (s : List UInt8) (hf : isFam s = false) (m2 : ∀ f' st, M 2 f' st = iterT f' (lp6_2n s) 26 st) : ∀ (d b : Nat) (j : Nat → V) (q : Nat), 3 = b + d → d < q →
    (iterT (body6n M) (lp6n s) q (st6n s b j)).sem = some (en6ne s 3)
  | 0, b, j, q + 1, h, _ => by
    have : b = 3 := by omega
    subst this
    exact iter_round (rf6ne M s 3 j rfl)
  | d + 1, b, j, q + 1, h, h2 => by
    have hb : b < 3 := by omega
    have hi : ∀ M', (M 2 (body6_2n M') (ent6n2 s b j)).sem = some (en6_2ne s b 25 (fillA famS spoilL 25)) := fun M' => by
      rw [m2, ent6n2_eq]
      exact run6in M' s b 25 0 _ 26 rfl (by omega)
    have h3 := rf6nn M _ s b 25 (fillA famS spoilL 25) j (ofNat_lt hb) hf rfl rfl (sameB_at.2 ⟨rfl, fun _ _ => rfl⟩) rfl rfl (allN_iff.2 fun _ _ => seq_rfl _) (isP_true (hi _))
    have h4 : roundT (body6n M) (lp6n s) (st6n s b j) = _ := roundT_le (l := lp6n s) (evalC_le (Γ := ⟨callM mt6f tb6f, M, Gl⟩) (onP_le hMM hMM) (loopBody Tryd.f6 0) 0 (st6n s b j)) h3
    rw [iter_round h4, goOn_nm, succ_wr hb (by decide)]
    exact run6n M hMM s hf m2 d (b + 1) (fun _ => .und) q (by omega) (by omega)


theorem q6 : PureC Tryd.prog Gl 6 law4T := by
  refine pureC_intro tabOK mixed Tryd.func6 (by kernel_rfl) (by kernel_rfl) fun vs v h' h => ?_
  unfold law4T at h
  split at h
  · rename_i s
    have := sem_leaf h
    simp only [Prod.mk.injEq] at this
    obtain ⟨rfl, rfl⟩ := this
    cases hf : isFam s with
    | true =>
      have hx := cxM_ok mt6f_ok tb6f_ok [(0, lp6y s), (2, lp6_2y s)]
      have hL := loopsBy_le [(0, lp6y s), (2, lp6_2y s)]
      exact ⟨_, cxM Gl mt6f tb6f [(0, lp6y s), (2, lp6_2y s)], _, ArgLE.refl _, rfl, hx.1, hx.2, told_le (onP_le hL hL) _ (wf6y _ _ s 3 hf (isP_true (run6y _ (isPleY hL 0 _) s hf (fun _ _ => rfl) 3 0 (jk6y s) 4 rfl (by omega)))), RowsLE.refl _⟩
    | false =>
      have hx := cxM_ok mt6f_ok tb6f_ok [(0, lp6n s), (2, lp6_2n s)]
      have hL := loopsBy_le [(0, lp6n s), (2, lp6_2n s)]
      exact ⟨_, cxM Gl mt6f tb6f [(0, lp6n s), (2, lp6_2n s)], _, ArgLE.refl _, rfl, hx.1, hx.2, told_le (onP_le hL hL) _ (wf6n _ _ s 3 hf (isP_true (run6n _ (isPleY hL 0 _) s hf (fun _ _ => rfl) 3 0 (jk6n s) 4 rfl (by omega)))), RowsLE.refl _⟩
  · cases h

#print axioms q6

end Go.Proofs.YtkcbdemfmjciiaaDoor.Fa

