/-
  The document's Parse; the law CycleParses as a function. No conditions.
-/
import Derived.Test.YtcaljjnadbpacaaDoorCyY
import Derived.Test.YtcaljjnadbpacaaDoorCyZ
namespace Go.Proofs.YtcaljjnadbpacaaDoor.Ed
open Go.Sy Go


theorem e84 (Γ : Cx) (vs : List V) (h : List Blk) : evalF tab Γ Tryd.f84 vs h = evalF tab Γ Tryd.f83 vs h := by kernel_rfl

theorem p84 : PureC Tryd.prog Gl 84 blankT := by
  refine pureC_intro tabOK mixed Tryd.func84 (by kernel_rfl) (by kernel_rfl) fun vs v h' h => ?_
  unfold blankT at h
  split at h
  · rename_i x
    have := sem_leaf h
    simp only [Prod.mk.injEq] at this
    obtain ⟨rfl, rfl⟩ := this
    have hx := cx_ok tb0_ok []
    refine ⟨_, cxOf Gl tb0 [], _, ArgLE.refl _, rfl, hx.1, hx.2, ?_, RowsLE.refl _⟩
    rw [e84]
    unfold blankB
    cases c1 : ieq x 32 with
    | true => exact wc83a _ x c1
    | false =>
      cases c2 : ieq x 9 with
      | true => exact wc83b _ x c1 c2
      | false =>
        cases c3 : ieq x 10 with
        | true => exact wc83c _ x c1 c2 c3
        | false => exact wc83d _ x c1 c2 c3
  · cases h

noncomputable def tb41 : List (Nat × (List V → T (V × List Blk))) := [(84, blankT), (22, textT parseP)]
theorem tb41_ok : AllPure Tryd.prog Gl tb41 := .cons p84 <| .cons p22 .nil

def en41f (s : List UInt8) (a k : Nat) (x : Nat → V) : Ex × St := (.rt, ⟨[.und, .und, .ref 1, iV 30, iV (Int.ofNat a), .und, .ref 2, .und, .und, .und, .und, .und, .und, .und, .und, .und, .und, .und, .und, .und, .und, .und, .und, .und, .und, .und, .und, .und, .und, .und, .und, .und, .und, .und, .und, .und, .und, .und, .und, .und, .und, .und, .und, .und, .und, .und, .und, .und, .und, .und, .und, .und, .und, .und, .und, .und], [.row 23 6 0 (fun _ => .und), .row 23 6 0 (fun _ => .und), .row 23 6 k x]⟩)
def lp41_2 (s : List UInt8) : Lp := ⟨[true, false, true, true, true, true, true, true, true, false, false, false, false, false, false, false, false, false, false, false, false, false, false, false, false, false, false, false, false, false, false, false, false, false, false, false, false, false, false, false, false, false, false, false, false, false, false, false, false, false, false, false, false, false, false, false], 3, [true, false, true, true, true, true, true, true, true, false, false, false, false, false, false, false, false, false, false, false, false, false, false, false, false, false, false, false, false, false, false, false, false, false, false, false, false, false, false, false, false, false, false, false, false, false, false, false, false, false, false, false, false, false, false, false], 3, slen s + 1⟩
def st41_2 (s : List UInt8) (a k : Nat) (x : Nat → V) (e : Nat) (j : Nat → V) : St := ⟨[.str s, j 1, .ref 0, iV 0, iV 0, .ref 1, .ref 2, iV (Int.ofNat e), iV (Int.ofNat a), j 9, j 10, j 11, j 12, j 13, j 14, j 15, j 16, j 17, j 18, j 19, j 20, j 21, j 22, j 23, j 24, j 25, j 26, j 27, j 28, j 29, j 30, j 31, j 32, j 33, j 34, j 35, j 36, j 37, j 38, j 39, j 40, j 41, j 42, j 43, j 44, j 45, j 46, j 47, j 48, j 49, j 50, j 51, j 52, j 53, j 54, j 55], [.row 23 6 0 (fun _ => .und), .row 23 6 0 (fun _ => .und), .row 23 6 k x]⟩
def en41_2e (s : List UInt8) (a k : Nat) (x : Nat → V) (e : Nat) : Ex × St := (.ex 2, ⟨[.str s, .und, .ref 0, iV 0, iV 0, .ref 1, .ref 2, iV (Int.ofNat e), iV (Int.ofNat a), .und, .und, .und, .und, .und, .und, .und, .und, .und, .und, .und, .und, .und, .und, .und, .und, .und, .und, .und, .und, .und, .und, .und, .und, .und, .und, .und, .und, .und, .und, .und, .und, .und, .und, .und, .und, .und, .und, .und, .und, .und, .und, .und, .und, .und, .und, .und], [.row 23 6 0 (fun _ => .und), .row 23 6 0 (fun _ => .und), .row 23 6 k x]⟩)
noncomputable def body41_2 (L : Nat → (St → T (Ex × St)) → St → T (Ex × St)) : St → T (Ex × St) := fun st => evalC tab ⟨callT tb41, L, Gl⟩ (loopBody Tryd.f41 2) 2 st
theorem ri41e_p (L : Nat → (St → T (Ex × St)) → St → T (Ex × St)) (s : List UInt8) (a k : Nat) (x : Nat → V) (e : Nat)  (j : Nat → V) : ((body41_2 L (st41_2 s a k x e j)).bind fun r => T.leaf (cutR (lp41_2 s) r)).path [false, false, false, false, false, false, false] = some ([(ilt (Int.ofNat e) (Int.ofNat (slen s))), (ilt (Int.ofNat e) (Int.ofNat (slen s))), (ilt (Int.ofNat e) (Int.ofNat (slen s))), (ilt (Int.ofNat e) (Int.ofNat (slen s))), (ilt (Int.ofNat e) (Int.ofNat (slen s))), (ilt (Int.ofNat e) (Int.ofNat (slen s))), Bool.false], ((.ex 2), ⟨[(.str s), .und, (.ref 0), (iV 0), (iV 0), (.ref 1), (.ref 2), (iV (Int.ofNat e)), (iV (Int.ofNat a)), .und, .und, .und, .und, .und, .und, .und, .und, .und, .und, .und, .und, .und, .und, .und, .und, .und, .und, .und, .und, .und, .und, .und, .und, .und, .und, .und, .und, .und, .und, .und, .und, .und, .und, .und, .und, .und, .und, .und, .und, .und, .und, .und, .und, .und, .und, .und], [(.row 23 6 0 (fun _ => .und)), (.row 23 6 0 (fun _ => .und)), (.row 23 6 k x)]⟩)) := by kernel_rfl
theorem ri41e (L : Nat → (St → T (Ex × St)) → St → T (Ex × St)) (s : List UInt8) (a k : Nat) (x : Nat → V) (e : Nat)  (j : Nat → V) (h0 : ilt (Int.ofNat e) (Int.ofNat (slen s)) = false) : ((body41_2 L (st41_2 s a k x e j)).bind fun r => T.leaf (cutR (lp41_2 s) r)).sem = some ((.ex 2), ⟨[(.str s), .und, (.ref 0), (iV 0), (iV 0), (.ref 1), (.ref 2), (iV (Int.ofNat e)), (iV (Int.ofNat a)), .und, .und, .und, .und, .und, .und, .und, .und, .und, .und, .und, .und, .und, .und, .und, .und, .und, .und, .und, .und, .und, .und, .und, .und, .und, .und, .und, .und, .und, .und, .und, .und, .und, .und, .und, .und, .und, .und, .und, .und, .und, .und, .und, .und, .und, .und, .und], [(.row 23 6 0 (fun _ => .und)), (.row 23 6 0 (fun _ => .und)), (.row 23 6 k x)]⟩) := by
  exact sem_of_path (ri41e_p L s a k x e j) (by simp only [h0] <;> rfl)
theorem ri41b_p (L : Nat → (St → T (Ex × St)) → St → T (Ex × St)) (s : List UInt8) (a k : Nat) (x : Nat → V) (e : Nat)  (j : Nat → V) : ((body41_2 L (st41_2 s a k x e j)).bind fun r => T.leaf (cutR (lp41_2 s) r)).path [true, true, true, true, true, true, true, false] = some ([(ilt (Int.ofNat e) (Int.ofNat (slen s))), (ilt (Int.ofNat e) (Int.ofNat (slen s))), (ilt (Int.ofNat e) (Int.ofNat (slen s))), (band (ile 0 (Int.ofNat e)) (ilt (Int.ofNat e) (Int.ofNat (slen s)))), (ilt (Int.ofNat e) (Int.ofNat (slen s))), (ilt (Int.ofNat e) (Int.ofNat (slen s))), (ilt (Int.ofNat e) (Int.ofNat (slen s))), (bnot (blankB (sget s e)))], ((.ex 2), ⟨[(.str s), .und, (.ref 0), (iV 0), (iV 0), (.ref 1), (.ref 2), (iV (Int.ofNat e)), (iV (Int.ofNat a)), .und, .und, .und, .und, .und, .und, .und, .und, .und, .und, .und, .und, .und, .und, .und, .und, .und, .und, .und, .und, .und, .und, .und, .und, .und, .und, .und, .und, .und, .und, .und, .und, .und, .und, .und, .und, .und, .und, .und, .und, .und, .und, .und, .und, .und, .und, .und], [(.row 23 6 0 (fun _ => .und)), (.row 23 6 0 (fun _ => .und)), (.row 23 6 k x)]⟩)) := by kernel_rfl
theorem ri41b (L : Nat → (St → T (Ex × St)) → St → T (Ex × St)) (s : List UInt8) (a k : Nat) (x : Nat → V) (e : Nat)  (j : Nat → V) (h0 : ilt (Int.ofNat e) (Int.ofNat (slen s)) = true) (h1 : band (ile 0 (Int.ofNat e)) (ilt (Int.ofNat e) (Int.ofNat (slen s))) = true) (h2 : blankB (sget s e) = true) : ((body41_2 L (st41_2 s a k x e j)).bind fun r => T.leaf (cutR (lp41_2 s) r)).sem = some ((.ex 2), ⟨[(.str s), .und, (.ref 0), (iV 0), (iV 0), (.ref 1), (.ref 2), (iV (Int.ofNat e)), (iV (Int.ofNat a)), .und, .und, .und, .und, .und, .und, .und, .und, .und, .und, .und, .und, .und, .und, .und, .und, .und, .und, .und, .und, .und, .und, .und, .und, .und, .und, .und, .und, .und, .und, .und, .und, .und, .und, .und, .und, .und, .und, .und, .und, .und, .und, .und, .und, .und, .und, .und], [(.row 23 6 0 (fun _ => .und)), (.row 23 6 0 (fun _ => .und)), (.row 23 6 k x)]⟩) := by
  exact sem_of_path (ri41b_p L s a k x e j) (by simp only [h1] <;> simp only [h0, h2] <;> rfl)
theorem ri41n_p (L : Nat → (St → T (Ex × St)) → St → T (Ex × St)) (s : List UInt8) (a k : Nat) (x : Nat → V) (e : Nat)  (j : Nat → V) : ((body41_2 L (st41_2 s a k x e j)).bind fun r => T.leaf (cutR (lp41_2 s) r)).path [true, true, true, true, true, true, true, true] = some ([(ilt (Int.ofNat e) (Int.ofNat (slen s))), (ilt (Int.ofNat e) (Int.ofNat (slen s))), (ilt (Int.ofNat e) (Int.ofNat (slen s))), (band (ile 0 (Int.ofNat e)) (ilt (Int.ofNat e) (Int.ofNat (slen s)))), (ilt (Int.ofNat e) (Int.ofNat (slen s))), (ilt (Int.ofNat e) (Int.ofNat (slen s))), (ilt (Int.ofNat e) (Int.ofNat (slen s))), (bnot (blankB (sget s e)))], (.nm, ⟨[(.str s), .und, (.ref 0), (iV 0), (iV 0), (.ref 1), (.ref 2), (iV (wr IntKind.i64 (iadd (Int.ofNat e) 1))), (iV (Int.ofNat a)), .und, .und, .und, .und, .und, .und, .und, .und, .und, .und, .und, .und, .und, .und, .und, .und, .und, .und, .und, .und, .und, .und, .und, .und, .und, .und, .und, .und, .und, .und, .und, .und, .und, .und, .und, .und, .und, .und, .und, .und, .und, .und, .und, .und, .und, .und, .und], [(.row 23 6 0 (fun _ => .und)), (.row 23 6 0 (fun _ => .und)), (.row 23 6 k x)]⟩)) := by kernel_rfl
theorem ri41n (L : Nat → (St → T (Ex × St)) → St → T (Ex × St)) (s : List UInt8) (a k : Nat) (x : Nat → V) (e : Nat)  (j : Nat → V) (h0 : ilt (Int.ofNat e) (Int.ofNat (slen s)) = true) (h1 : band (ile 0 (Int.ofNat e)) (ilt (Int.ofNat e) (Int.ofNat (slen s))) = true) (h2 : blankB (sget s e) = false) : ((body41_2 L (st41_2 s a k x e j)).bind fun r => T.leaf (cutR (lp41_2 s) r)).sem = some (.nm, ⟨[(.str s), .und, (.ref 0), (iV 0), (iV 0), (.ref 1), (.ref 2), (iV (wr IntKind.i64 (iadd (Int.ofNat e) 1))), (iV (Int.ofNat a)), .und, .und, .und, .und, .und, .und, .und, .und, .und, .und, .und, .und, .und, .und, .und, .und, .und, .und, .und, .und, .und, .und, .und, .und, .und, .und, .und, .und, .und, .und, .und, .und, .und, .und, .und, .und, .und, .und, .und, .und, .und, .und, .und, .und, .und, .und, .und], [(.row 23 6 0 (fun _ => .und)), (.row 23 6 0 (fun _ => .und)), (.row 23 6 k x)]⟩) := by
  exact sem_of_path (ri41n_p L s a k x e j) (by simp only [h1] <;> simp only [h0, h2] <;> rfl)

def lp41 (s : List UInt8) : Lp := ⟨[true, false, true, true, true, true, true, true, false, false, false, false, false, false, false, false, false, false, false, false, false, false, false, false, false, false, false, false, false, false, false, false, false, false, false, false, false, false, false, false, false, false, false, false, false, false, false, false, false, false, false, false, false, false, false, false], 3, [false, false, true, true, true, false, true, false, false, false, false, false, false, false, false, false, false, false, false, false, false, false, false, false, false, false, false, false, false, false, false, false, false, false, false, false, false, false, false, false, false, false, false, false, false, false, false, false, false, false, false, false, false, false, false, false], 3, slen s + 1⟩
def st41 (s : List UInt8) (a k : Nat) (x : Nat → V) (j : Nat → V) : St := ⟨[.str s, j 1, .ref 0, iV 0, iV 0, .ref 1, .ref 2, iV (Int.ofNat a), j 8, j 9, j 10, j 11, j 12, j 13, j 14, j 15, j 16, j 17, j 18, j 19, j 20, j 21, j 22, j 23, j 24, j 25, j 26, j 27, j 28, j 29, j 30, j 31, j 32, j 33, j 34, j 35, j 36, j 37, j 38, j 39, j 40, j 41, j 42, j 43, j 44, j 45, j 46, j 47, j 48, j 49, j 50, j 51, j 52, j 53, j 54, j 55], [.row 23 6 0 (fun _ => .und), .row 23 6 0 (fun _ => .und), .row 23 6 k x]⟩
def en41e (s : List UInt8) (a k : Nat) (x : Nat → V) : Ex × St := (.ex 0, ⟨[.und, .und, .ref 0, iV 0, iV 0, .und, .ref 2, .und, .und, .und, .und, .und, .und, .und, .und, .und, .und, .und, .und, .und, .und, .und, .und, .und, .und, .und, .und, .und, .und, .und, .und, .und, .und, .und, .und, .und, .und, .und, .und, .und, .und, .und, .und, .und, .und, .und, .und, .und, .und, .und, .und, .und, .und, .und, .und, .und], [.row 23 6 0 (fun _ => .und), .row 23 6 0 (fun _ => .und), .row 23 6 k x]⟩)
noncomputable def body41 (L : Nat → (St → T (Ex × St)) → St → T (Ex × St)) : St → T (Ex × St) := fun st => evalC tab ⟨callT tb41, L, Gl⟩ (loopBody Tryd.f41 0) 0 st
theorem ro41e_p (L : Nat → (St → T (Ex × St)) → St → T (Ex × St)) (s : List UInt8) (a k : Nat) (x : Nat → V)  (j : Nat → V) : ((body41 L (st41 s a k x j)).bind fun r => T.leaf (cutR (lp41 s) r)).path [false] = some ([(ilt (Int.ofNat a) (Int.ofNat (slen s)))], ((.ex 0), ⟨[.und, .und, (.ref 0), (iV 0), (iV 0), .und, (.ref 2), .und, .und, .und, .und, .und, .und, .und, .und, .und, .und, .und, .und, .und, .und, .und, .und, .und, .und, .und, .und, .und, .und, .und, .und, .und, .und, .und, .und, .und, .und, .und, .und, .und, .und, .und, .und, .und, .und, .und, .und, .und, .und, .und, .und, .und, .und, .und, .und, .und], [(.row 23 6 0 (fun _ => .und)), (.row 23 6 0 (fun _ => .und)), (.row 23 6 k x)]⟩)) := by kernel_rfl
theorem ro41e (L : Nat → (St → T (Ex × St)) → St → T (Ex × St)) (s : List UInt8) (a k : Nat) (x : Nat → V)  (j : Nat → V) (h0 : ilt (Int.ofNat a) (Int.ofNat (slen s)) = false) : ((body41 L (st41 s a k x j)).bind fun r => T.leaf (cutR (lp41 s) r)).sem = some ((.ex 0), ⟨[.und, .und, (.ref 0), (iV 0), (iV 0), .und, (.ref 2), .und, .und, .und, .und, .und, .und, .und, .und, .und, .und, .und, .und, .und, .und, .und, .und, .und, .und, .und, .und, .und, .und, .und, .und, .und, .und, .und, .und, .und, .und, .und, .und, .und, .und, .und, .und, .und, .und, .und, .und, .und, .und, .und, .und, .und, .und, .und, .und, .und], [(.row 23 6 0 (fun _ => .und)), (.row 23 6 0 (fun _ => .und)), (.row 23 6 k x)]⟩) := by
  exact sem_of_path (ro41e_p L s a k x j) (by simp only [h0] <;> rfl)
theorem ro41b_p (L : Nat → (St → T (Ex × St)) → St → T (Ex × St)) (s : List UInt8) (a k : Nat) (x : Nat → V)  (j : Nat → V) : ((body41 L (st41 s a k x j)).bind fun r => T.leaf (cutR (lp41 s) r)).path [true, true, true] = some ([(ilt (Int.ofNat a) (Int.ofNat (slen s))), (band (ile 0 (Int.ofNat a)) (ilt (Int.ofNat a) (Int.ofNat (slen s)))), (blankB (sget s a))], (.nm, ⟨[(.str s), .und, (.ref 0), (iV 0), (iV 0), (.ref 1), (.ref 2), (iV (wr IntKind.i64 (iadd (Int.ofNat a) 1))), .und, .und, .und, .und, .und, .und, .und, .und, .und, .und, .und, .und, .und, .und, .und, .und, .und, .und, .und, .und, .und, .und, .und, .und, .und, .und, .und, .und, .und, .und, .und, .und, .und, .und, .und, .und, .und, .und, .und, .und, .und, .und, .und, .und, .und, .und, .und, .und], [(.row 23 6 0 (fun _ => .und)), (.row 23 6 0 (fun _ => .und)), (.row 23 6 k x)]⟩)) := by kernel_rfl
theorem ro41b (L : Nat → (St → T (Ex × St)) → St → T (Ex × St)) (s : List UInt8) (a k : Nat) (x : Nat → V)  (j : Nat → V) (h0 : ilt (Int.ofNat a) (Int.ofNat (slen s)) = true) (h1 : band (ile 0 (Int.ofNat a)) (ilt (Int.ofNat a) (Int.ofNat (slen s))) = true) (h2 : blankB (sget s a) = true) : ((body41 L (st41 s a k x j)).bind fun r => T.leaf (cutR (lp41 s) r)).sem = some (.nm, ⟨[(.str s), .und, (.ref 0), (iV 0), (iV 0), (.ref 1), (.ref 2), (iV (wr IntKind.i64 (iadd (Int.ofNat a) 1))), .und, .und, .und, .und, .und, .und, .und, .und, .und, .und, .und, .und, .und, .und, .und, .und, .und, .und, .und, .und, .und, .und, .und, .und, .und, .und, .und, .und, .und, .und, .und, .und, .und, .und, .und, .und, .und, .und, .und, .und, .und, .und, .und, .und, .und, .und, .und, .und], [(.row 23 6 0 (fun _ => .und)), (.row 23 6 0 (fun _ => .und)), (.row 23 6 k x)]⟩) := by
  exact sem_of_path (ro41b_p L s a k x j) (by simp only [h1] <;> simp only [h0, h2] <;> rfl)

def ent41_2 (s : List UInt8) (a k : Nat) (x : Nat → V) (j : Nat → V) : St := ⟨[(.str s), (j 1), (.ref 0), (iV 0), (iV 0), (.ref 1), (.ref 2), (iV (Int.ofNat a)), (iV (Int.ofNat a)), (j 9), (j 10), (j 11), (j 12), (j 13), (j 14), (iV (Int.ofNat a)), (.str s), (iV (Int.ofNat (slen s))), (bV (ilt (Int.ofNat a) (Int.ofNat (slen s)))), (.str s), (iV (Int.ofNat a)), (.val (Value.int IntKind.u8 (sget s a))), (bV (blankB (sget s a))), (j 23), (j 24), (iV (Int.ofNat a)), (j 26), (j 27), (j 28), (j 29), (j 30), (j 31), (j 32), (j 33), (j 34), (j 35), (j 36), (j 37), (j 38), (j 39), (j 40), (j 41), (j 42), (j 43), (j 44), (j 45), (j 46), (j 47), (j 48), (j 49), (j 50), (j 51), (j 52), (j 53), (j 54), (j 55)], [(.row 23 6 0 (fun _ => .und)), (.row 23 6 0 (fun _ => .und)), (.row 23 6 k x)]⟩

theorem ro41w_p (L : Nat → (St → T (Ex × St)) → St → T (Ex × St)) (p2 : (St → T (Ex × St)) → St → Bool) (s : List UInt8) (a k : Nat) (x : Nat → V) (e : Nat) (j : Nat → V) : ((body41 (onP 2 p2 (en41_2e s a k x e) L) (st41 s a k x j)).bind fun r => T.leaf (cutR (lp41 s) r)).path [true, true, false, true, true, false, true] = some ([(ilt (Int.ofNat a) (Int.ofNat (slen s))), (band (ile 0 (Int.ofNat a)) (ilt (Int.ofNat a) (Int.ofNat (slen s)))), (blankB (sget s a)), (p2 (body41_2 (onP 2 p2 (en41_2e s a k x e) L)) (ent41_2 s a k x j)), (band (ile 0 (Int.ofNat a)) (band (ile (Int.ofNat a) (Int.ofNat e)) (ile (Int.ofNat e) (Int.ofNat (slen s))))), (bnot (ieq (parseF (sdrop a (stake e s))) 0)), (apOK k 1 40)], (.nm, ⟨[(.str s), .und, (.ref 0), (iV 0), (iV 0), (.ref 1), (.ref 2), (iV (Int.ofNat e)), .und, .und, .und, .und, .und, .und, .und, .und, .und, .und, .und, .und, .und, .und, .und, .und, .und, .und, .und, .und, .und, .und, .und, .und, .und, .und, .und, .und, .und, .und, .und, .und, .und, .und, .und, .und, .und, .und, .und, .und, .und, .und, .und, .und, .und, .und, .und, .und], [(.row 23 6 0 (fun _ => .und)), (.row 23 6 0 (fun _ => .und)), (.row 23 6 (nadd k 1) (pushGet k x (eV (parseE (sdrop a (stake e s))))))]⟩)) := by kernel_rfl
theorem ro41w (L : Nat → (St → T (Ex × St)) → St → T (Ex × St)) (p2 : (St → T (Ex × St)) → St → Bool) (s : List UInt8) (a k : Nat) (x : Nat → V) (e : Nat) (j : Nat → V) (h0 : ilt (Int.ofNat a) (Int.ofNat (slen s)) = true) (h1 : band (ile 0 (Int.ofNat a)) (ilt (Int.ofNat a) (Int.ofNat (slen s))) = true) (h2 : blankB (sget s a) = false) (h3 : band (ile 0 (Int.ofNat a)) (band (ile (Int.ofNat a) (Int.ofNat e)) (ile (Int.ofNat e) (Int.ofNat (slen s)))) = true) (h4 : ieq (parseF (sdrop a (stake e s))) 0 = true) (h5 : apOK k 1 40 = true) (hp2 : p2 (body41_2 (onP 2 p2 (en41_2e s a k x e) L)) (ent41_2 s a k x j) = true) : ((body41 (onP 2 p2 (en41_2e s a k x e) L) (st41 s a k x j)).bind fun r => T.leaf (cutR (lp41 s) r)).sem = some (.nm, ⟨[(.str s), .und, (.ref 0), (iV 0), (iV 0), (.ref 1), (.ref 2), (iV (Int.ofNat e)), .und, .und, .und, .und, .und, .und, .und, .und, .und, .und, .und, .und, .und, .und, .und, .und, .und, .und, .und, .und, .und, .und, .und, .und, .und, .und, .und, .und, .und, .und, .und, .und, .und, .und, .und, .und, .und, .und, .und, .und, .und, .und, .und, .und, .und, .und, .und, .und], [(.row 23 6 0 (fun _ => .und)), (.row 23 6 0 (fun _ => .und)), (.row 23 6 (nadd k 1) (pushGet k x (eV (parseE (sdrop a (stake e s))))))]⟩) := by
  exact sem_of_path (ro41w_p L p2 s a k x e j) (by simp only [hp2] <;> simp only [h1, h3] <;> simp only [h0, h2, h4, h5] <;> rfl)

theorem ro41f_p (L : Nat → (St → T (Ex × St)) → St → T (Ex × St)) (p2 : (St → T (Ex × St)) → St → Bool) (s : List UInt8) (a k : Nat) (x : Nat → V) (e : Nat) (j : Nat → V) : ((body41 (onP 2 p2 (en41_2e s a k x e) L) (st41 s a k x j)).bind fun r => T.leaf (cutR (lp41 s) r)).path [true, true, false, true, true, true] = some ([(ilt (Int.ofNat a) (Int.ofNat (slen s))), (band (ile 0 (Int.ofNat a)) (ilt (Int.ofNat a) (Int.ofNat (slen s)))), (blankB (sget s a)), (p2 (body41_2 (onP 2 p2 (en41_2e s a k x e) L)) (ent41_2 s a k x j)), (band (ile 0 (Int.ofNat a)) (band (ile (Int.ofNat a) (Int.ofNat e)) (ile (Int.ofNat e) (Int.ofNat (slen s))))), (bnot (ieq (parseF (sdrop a (stake e s))) 0))], (.rt, ⟨[.und, .und, (.ref 1), (iV 30), (iV (Int.ofNat a)), .und, (.ref 2), .und, .und, .und, .und, .und, .und, .und, .und, .und, .und, .und, .und, .und, .und, .und, .und, .und, .und, .und, .und, .und, .und, .und, .und, .und, .und, .und, .und, .und, .und, .und, .und, .und, .und, .und, .und, .und, .und, .und, .und, .und, .und, .und, .und, .und, .und, .und, .und, .und], [(.row 23 6 0 (fun _ => .und)), (.row 23 6 0 (fun _ => .und)), (.row 23 6 k x)]⟩)) := by kernel_rfl
theorem ro41f (L : Nat → (St → T (Ex × St)) → St → T (Ex × St)) (p2 : (St → T (Ex × St)) → St → Bool) (s : List UInt8) (a k : Nat) (x : Nat → V) (e : Nat) (j : Nat → V) (h0 : ilt (Int.ofNat a) (Int.ofNat (slen s)) = true) (h1 : band (ile 0 (Int.ofNat a)) (ilt (Int.ofNat a) (Int.ofNat (slen s))) = true) (h2 : blankB (sget s a) = false) (h3 : band (ile 0 (Int.ofNat a)) (band (ile (Int.ofNat a) (Int.ofNat e)) (ile (Int.ofNat e) (Int.ofNat (slen s)))) = true) (h4 : ieq (parseF (sdrop a (stake e s))) 0 = false) (hp2 : p2 (body41_2 (onP 2 p2 (en41_2e s a k x e) L)) (ent41_2 s a k x j) = true) : ((body41 (onP 2 p2 (en41_2e s a k x e) L) (st41 s a k x j)).bind fun r => T.leaf (cutR (lp41 s) r)).sem = some (.rt, ⟨[.und, .und, (.ref 1), (iV 30), (iV (Int.ofNat a)), .und, (.ref 2), .und, .und, .und, .und, .und, .und, .und, .und, .und, .und, .und, .und, .und, .und, .und, .und, .und, .und, .und, .und, .und, .und, .und, .und, .und, .und, .und, .und, .und, .und, .und, .und, .und, .und, .und, .und, .und, .und, .und, .und, .und, .und, .und, .und, .und, .und, .und, .und, .und], [(.row 23 6 0 (fun _ => .und)), (.row 23 6 0 (fun _ => .und)), (.row 23 6 k x)]⟩) := by
  exact sem_of_path (ro41f_p L p2 s a k x e j) (by simp only [hp2] <;> simp only [h1, h3] <;> simp only [h0, h2, h4] <;> rfl)

def ent41 (s : List UInt8)  : St := ⟨[(.str s), undefV, (.ref 0), (iV 0), (iV 0), (.ref 1), (.ref 2), (iV 0), undefV, undefV, undefV, (.str s), (iV (Int.ofNat (slen s))), (bV (ilt 262144 (Int.ofNat (slen s)))), undefV, undefV, undefV, undefV, undefV, undefV, undefV, undefV, undefV, undefV, undefV, undefV, undefV, undefV, undefV, undefV, undefV, undefV, undefV, undefV, undefV, undefV, undefV, undefV, undefV, undefV, undefV, undefV, undefV, undefV, undefV, undefV, undefV, undefV, undefV, undefV, undefV, undefV, undefV, undefV, undefV, undefV], [(.row 23 6 0 (fun _ => .und)), (.row 23 6 0 (fun _ => .und)), (.row 23 6 0 (fun _ => .und))]⟩

theorem wc41g_p (L : Nat → (St → T (Ex × St)) → St → T (Ex × St)) (s : List UInt8) : (finF (evalF tab ⟨callT tb41, L, Gl⟩ Tryd.f41 [.str s] [])).path [true] = some ([(ilt 262144 (Int.ofNat (slen s)))], ((.tup [(.ref 0), (iV 2), (iV 0)]), [(.row 23 6 0 (fun _ => .und))])) := by kernel_rfl
theorem wc41g (L : Nat → (St → T (Ex × St)) → St → T (Ex × St)) (s : List UInt8) (h0 : ilt 262144 (Int.ofNat (slen s)) = true) : (finF (evalF tab ⟨callT tb41, L, Gl⟩ Tryd.f41 [.str s] [])).sem = some ((.tup [(.ref 0), (iV 2), (iV 0)]), [(.row 23 6 0 (fun _ => .und))]) := by
  exact sem_of_path (wc41g_p L s) (by simp only [h0] <;> rfl)

theorem wc41z_p (L : Nat → (St → T (Ex × St)) → St → T (Ex × St)) (p0 : (St → T (Ex × St)) → St → Bool) (s : List UInt8) (a k : Nat) (x : Nat → V) : (finF (evalF tab ⟨callT tb41, (onP 0 p0 (en41e s a k x) L), Gl⟩ Tryd.f41 [.str s] [])).path [false, true] = some ([(ilt 262144 (Int.ofNat (slen s))), (p0 (body41 (onP 0 p0 (en41e s a k x) L)) (ent41 s))], ((.tup [(.ref 0), (iV 0), (iV 0)]), [(.row 23 6 k x)])) := by kernel_rfl
theorem wc41z (L : Nat → (St → T (Ex × St)) → St → T (Ex × St)) (p0 : (St → T (Ex × St)) → St → Bool) (s : List UInt8) (a k : Nat) (x : Nat → V) (h0 : ilt 262144 (Int.ofNat (slen s)) = false) (hp0 : p0 (body41 (onP 0 p0 (en41e s a k x) L)) (ent41 s) = true) : (finF (evalF tab ⟨callT tb41, (onP 0 p0 (en41e s a k x) L), Gl⟩ Tryd.f41 [.str s] [])).sem = some ((.tup [(.ref 0), (iV 0), (iV 0)]), [(.row 23 6 k x)]) := by
  exact sem_of_path (wc41z_p L p0 s a k x) (by simp only [hp0] <;> simp only [h0] <;> rfl)

theorem wc41f_p (L : Nat → (St → T (Ex × St)) → St → T (Ex × St)) (p0 : (St → T (Ex × St)) → St → Bool) (s : List UInt8) (a k : Nat) (x : Nat → V) : (finF (evalF tab ⟨callT tb41, (onP 0 p0 (en41f s a k x) L), Gl⟩ Tryd.f41 [.str s] [])).path [false, true] = some ([(ilt 262144 (Int.ofNat (slen s))), (p0 (body41 (onP 0 p0 (en41f s a k x) L)) (ent41 s))], ((.tup [(.ref 0), (iV 30), (iV (Int.ofNat a))]), [(.row 23 6 0 (fun _ => .und))])) := by kernel_rfl
theorem wc41f (L : Nat → (St → T (Ex × St)) → St → T (Ex × St)) (p0 : (St → T (Ex × St)) → St → Bool) (s : List UInt8) (a k : Nat) (x : Nat → V) (h0 : ilt 262144 (Int.ofNat (slen s)) = false) (hp0 : p0 (body41 (onP 0 p0 (en41f s a k x) L)) (ent41 s) = true) : (finF (evalF tab ⟨callT tb41, (onP 0 p0 (en41f s a k x) L), Gl⟩ Tryd.f41 [.str s] [])).sem = some ((.tup [(.ref 0), (iV 30), (iV (Int.ofNat a))]), [(.row 23 6 0 (fun _ => .und))]) := by
  exact sem_of_path (wc41f_p L p0 s a k x) (by simp only [hp0] <;> simp only [h0] <;> rfl)
theorem run41i (L : Nat → (St → T (Ex × St)) → St → T (Ex × St)) (s : List UInt8) (hs : s.length ≤ 262144) (a k : Nat) (x : Nat → V) : ∀ (q e : Nat) (j : Nat → V), s.length - e < q →
    (iterT (body41_2 L) (lp41_2 s) q (st41_2 s a k x e j)).sem = some (en41_2e s a k x (e + (wordL (s.drop e)).length))
  | 0, e, j, h => absurd h (Nat.not_lt_zero _)
  | q + 1, e, j, h => by
    have hsl : slen s = s.length := rfl
    rcases Nat.lt_or_ge e s.length with he | he
    · have c0 : ilt (Int.ofNat e) (Int.ofNat (slen s)) = true := ofNat_lt he
      have c1 : band (ile 0 (Int.ofNat e)) (ilt (Int.ofNat e) (Int.ofNat (slen s))) = true := ofNat_in he
      rw [drop_cons he]
      cases hb : blankC s[e] with
      | true =>
        rw [show wordL (s[e] :: s.drop (e + 1)) = [] by unfold wordL; rw [List.takeWhile_cons_of_neg (by simp [hb])]]
        exact iter_round (ri41b L s a k x e j c0 c1 (by rw [sget_at he]; exact hb))
      | false =>
        rw [iter_round (ri41n L s a k x e j c0 c1 (by rw [sget_at he]; exact hb)), goOn_nm, succ_wr (n := s.length) he (by omega)]
        have := run41i L s hs a k x q (e + 1) (fun _ => .und) (by omega)
        rw [show wordL (s[e] :: s.drop (e + 1)) = s[e] :: wordL (s.drop (e + 1)) by unfold wordL; rw [List.takeWhile_cons_of_pos (by simp [hb])], List.length_cons, show e + ((wordL (s.drop (e + 1))).length + 1) = e + 1 + (wordL (s.drop (e + 1))).length by omega]
        exact this
    · rw [List.drop_eq_nil_of_le he]
      exact iter_round (ri41e L s a k x e j (ofNat_ge he))

theorem ent41_2_eq (s : List UInt8) (a k : Nat) (x : Nat → V) (j : Nat → V) : ent41_2 s a k x j = st41_2 s a k x a (fun i => nth (ent41_2 s a k x j).t i) := by kernel_rfl

theorem run41 (M : Nat → (St → T (Ex × St)) → St → T (Ex × St)) (hMM : LLe M M) (s : List UInt8) (hs : s.length ≤ 262144) (m2 : ∀ f st, M 2 f st = iterT f (lp41_2 s) (slen s + 1) st) : ∀ (q a : Nat) (acc : List E6) (j : Nat → V), s.length - a < q → a ≤ s.length → acc.length ≤ a →
    ((parseL q (s.drop a) a acc).2.1 = 0 ∧ (iterT (body41 M) (lp41 s) q (st41 s a acc.length (rowX acc) j)).sem = some (en41e s 0 (parseL q (s.drop a) a acc).1.length (rowX (parseL q (s.drop a) a acc).1))) ∨
    ((parseL q (s.drop a) a acc).2.1 = 30 ∧ (parseL q (s.drop a) a acc).1 = [] ∧ (iterT (body41 M) (lp41 s) q (st41 s a acc.length (rowX acc) j)).sem = some (en41f s (parseL q (s.drop a) a acc).2.2 (errL q (s.drop a) acc).1.length (rowX (errL q (s.drop a) acc).1)))
  | 0, a, acc, j, h, _, _ => absurd h (Nat.not_lt_zero _)
  | q + 1, a, acc, j, h, ha, hk => by
    have hsl : slen s = s.length := rfl
    rcases Nat.lt_or_ge a s.length with he | he
    · have c0 : ilt (Int.ofNat a) (Int.ofNat (slen s)) = true := ofNat_lt he
      have c1 : band (ile 0 (Int.ofNat a)) (ilt (Int.ofNat a) (Int.ofNat (slen s))) = true := ofNat_in he
      cases hb : blankC s[a] with
      | true =>
        have e1 : parseL (q + 1) (s.drop a) a acc = parseL q (s.drop (a + 1)) (a + 1) acc := by rw [drop_cons he, parse_blank hb]
        have e2 : errL (q + 1) (s.drop a) acc = errL q (s.drop (a + 1)) acc := by rw [drop_cons he, errL, if_pos hb]
        rw [e1, e2, iter_round (ro41b M s a acc.length (rowX acc) j c0 c1 (by rw [sget_at he]; exact hb)), goOn_nm, succ_wr (n := s.length) he (by omega)]
        exact run41 M hMM s hs m2 q (a + 1) acc (fun _ => .und) (by omega) (by omega) (by omega)
      | false =>
        have c2 : blankB (sget s a) = false := by rw [sget_at he]; exact hb
        have hw0 : 0 < (wordL (s.drop a)).length := by
          rw [drop_cons he]
          unfold wordL
          rw [List.takeWhile_cons_of_pos (by simp [hb])]
          exact Nat.succ_pos _
        have hwl := word_len (s.drop a)
        rw [List.length_drop] at hwl
        have hi : ∀ M', (M 2 (body41_2 M') (ent41_2 s a acc.length (rowX acc) j)).sem = some (en41_2e s a acc.length (rowX acc) (a + (wordL (s.drop a)).length)) := fun M' => by
          rw [m2, ent41_2_eq]
          exact run41i M' s hs a acc.length (rowX acc) (slen s + 1) a _ (by omega)
        have hsub : sdrop a (stake (a + (wordL (s.drop a)).length) s) = wordL (s.drop a) := by
          show (s.take (a + (wordL (s.drop a)).length)).drop a = _
          rw [List.drop_take, show a + (wordL (s.drop a)).length - a = (wordL (s.drop a)).length by omega]
          exact (List.prefix_iff_eq_take.1 (List.takeWhile_prefix _)).symm
        have c3 : band (ile 0 (Int.ofNat a)) (band (ile (Int.ofNat a) (Int.ofNat (a + (wordL (s.drop a)).length))) (ile (Int.ofNat (a + (wordL (s.drop a)).length)) (Int.ofNat (slen s)))) = true := by
          rw [ofNat_0, ile_nat, ile_nat, decide_eq_true (by omega), decide_eq_true (by omega)]
          rfl
        have e0 : parseL (q + 1) (s.drop a) a acc = if parseF (wordL (s.drop a)) = 0 then parseL q ((s.drop a).drop (wordL (s.drop a)).length) (a + (wordL (s.drop a)).length) (acc ++ [parseE (wordL (s.drop a))]) else ([], 30, a) := by
          rw [drop_cons he, parseL, if_neg (by rw [hb]; decide)]
        have e5 : errL (q + 1) (s.drop a) acc = if parseF (wordL (s.drop a)) = 0 then errL q ((s.drop a).drop (wordL (s.drop a)).length) (acc ++ [parseE (wordL (s.drop a))]) else (acc, parseE (wordL (s.drop a))) := by
          rw [drop_cons he, errL, if_neg (by rw [hb]; decide)]
        by_cases hp : parseF (wordL (s.drop a)) = 0
        · have c4 : ieq (parseF (sdrop a (stake (a + (wordL (s.drop a)).length) s))) 0 = true := by rw [hsub, hp]; rfl
          have h9 : (acc.length + 1) * 40 ≤ 140737488355328 := by omega
          have h3 := ro41w M _ s a acc.length (rowX acc) (a + (wordL (s.drop a)).length) j c0 c1 c2 c3 c4 (decide_eq_true h9) (isP_true (hi _))
          have h4 : roundT (body41 M) (lp41 s) (st41 s a acc.length (rowX acc) j) = _ := roundT_le (l := lp41 s) (evalC_le (Γ := ⟨callT tb41, M, Gl⟩) (onP_le hMM hMM) (loopBody Tryd.f41 0) 0 (st41 s a acc.length (rowX acc) j)) h3
          rw [if_pos hp, List.drop_drop] at e0 e5
          rw [e0, e5, iter_round h4, goOn_nm, hsub, rowX_push]
          have ih := run41 M hMM s hs m2 q (a + (wordL (s.drop a)).length) (acc ++ [parseE (wordL (s.drop a))]) (fun _ => .und) (by omega) (by omega) (by rw [List.length_append]; simp only [List.length_cons, List.length_nil]; omega)
          rw [show (acc ++ [parseE (wordL (s.drop a))]).length = acc.length + 1 from List.length_append] at ih
          exact ih
        · have c4 : ieq (parseF (sdrop a (stake (a + (wordL (s.drop a)).length) s))) 0 = false := by rw [hsub]; simp [ieq, hp]
          have h3 := ro41f M _ s a acc.length (rowX acc) (a + (wordL (s.drop a)).length) j c0 c1 c2 c3 c4 (isP_true (hi _))
          have h4 : roundT (body41 M) (lp41 s) (st41 s a acc.length (rowX acc) j) = _ := roundT_le (l := lp41 s) (evalC_le (Γ := ⟨callT tb41, M, Gl⟩) (onP_le hMM hMM) (loopBody Tryd.f41 0) 0 (st41 s a acc.length (rowX acc) j)) h3
          rw [if_neg hp] at e0 e5
          rw [e0, e5]
          refine .inr ⟨rfl, rfl, ?_⟩
          rw [iter_round h4]
          rfl
    · rw [List.drop_eq_nil_of_le he]
      exact .inl ⟨rfl, iter_round (ro41e M s a acc.length (rowX acc) j (ofNat_ge he))⟩

theorem ent41_eq (s : List UInt8) : ent41 s = st41 s 0 0 (fun _ => .und) (fun i => nth (ent41 s).t i) := by kernel_rfl

theorem p41 : PureC Tryd.prog Gl 41 psT := by
  refine pureC_intro tabOK mixed Tryd.func41 (by kernel_rfl) (by kernel_rfl) fun vs v h' h => ?_
  unfold psT at h
  split at h
  · rename_i s
    have := sem_leaf h
    simp only [Prod.mk.injEq] at this
    obtain ⟨rfl, rfl⟩ := this
    have hx := cx_ok tb41_ok [(0, lp41 s), (2, lp41_2 s)]
    have hL := loopsBy_le [(0, lp41 s), (2, lp41_2 s)]
    cases hb : bigS s with
    | true =>
      have e1 : psN s = 0 := by unfold psN psL; rw [hb]; rfl
      have e2 : psE s = 2 := by unfold psE; rw [hb]; rfl
      have e3 : psI s = 0 := by unfold psI; rw [hb]; rfl
      rw [e1, e2, e3]
      exact ⟨_, cxOf Gl tb41 [(0, lp41 s), (2, lp41_2 s)], _, ArgLE.refl _, rfl, hx.1, hx.2, wc41g _ s hb, RowsLE.one fun j hj => absurd hj (Nat.not_lt_zero _)⟩
    | false =>
      have hs : s.length ≤ 262144 := by
        unfold bigS at hb
        rw [show (262144 : Int) = Int.ofNat 262144 from rfl, ilt_nat] at hb
        have := of_decide_eq_false hb
        have hsl : slen s = s.length := rfl
        omega
      have e0 : psL s = (psR s).1 := by unfold psL; rw [hb]; rfl
      have e2 : psE s = (psR s).2.1 := by unfold psE; rw [hb]; rfl
      have e3 : psI s = Int.ofNat (psR s).2.2 := by unfold psI; rw [hb]; rfl
      have hg : ilt 262144 (Int.ofNat (slen s)) = false := hb
      have key : ∀ M, LLe M M → (∀ f st, M 2 f st = iterT f (lp41_2 s) (slen s + 1) st) → ((psR s).2.1 = 0 ∧ (iterT (body41 M) (lp41 s) (slen s + 1) (ent41 s)).sem = some (en41e s 0 (psR s).1.length (rowX (psR s).1))) ∨
          ((psR s).2.1 = 30 ∧ (psR s).1 = [] ∧ (iterT (body41 M) (lp41 s) (slen s + 1) (ent41 s)).sem = some (en41f s (psR s).2.2 (errL (s.length + 1) s []).1.length (rowX (errL (s.length + 1) s []).1))) := fun M h1 h2 => by
        rw [ent41_eq]
        exact run41 M h1 s hs h2 (s.length + 1) 0 [] (fun i => nth (ent41 s).t i) (by omega) (by omega) (Nat.le_refl _)
      have mm : ∀ r, LLe (onP 0 (isP (loopsBy [(0, lp41 s), (2, lp41_2 s)]) 0 r) r (loopsBy [(0, lp41 s), (2, lp41_2 s)])) (onP 0 (isP (loopsBy [(0, lp41 s), (2, lp41_2 s)]) 0 r) r (loopsBy [(0, lp41 s), (2, lp41_2 s)])) := fun r => isPleY hL 0 r
      rw [e2, e3]
      unfold psN psG
      rw [e0]
      by_cases hok : (psR s).2.1 = 0
      · have hat : (psR s).2.2 = 0 := parse_at _ _ _ _ hok
        have hw := told_le (onP_le hL hL) _ (wc41z (loopsBy [(0, lp41 s), (2, lp41_2 s)]) _ s 0 (psR s).1.length (rowX (psR s).1) hg (isP_true (by
          rcases key _ (mm (en41e s 0 (psR s).1.length (rowX (psR s).1))) (fun _ _ => rfl) with ⟨_, h2⟩ | ⟨h1, _⟩
          · exact h2
          · rw [hok] at h1; cases h1)))
        rw [hok, hat]
        exact ⟨_, cxOf Gl tb41 [(0, lp41 s), (2, lp41_2 s)], _, ArgLE.refl _, rfl, hx.1, hx.2, hw, RowsLE.one fun j hj => (pushN_eq (fun i => eV (getE (psR s).1 i)) (psR s).1.length j hj).symm⟩
      · have hno : (psR s).2.1 = 30 ∧ (psR s).1 = [] := by
          rcases key _ (mm (en41e s 0 0 (rowX []))) (fun _ _ => rfl) with ⟨h1, _⟩ | ⟨h1, h2, _⟩
          · exact absurd h1 hok
          · exact ⟨h1, h2⟩
        have hw := told_le (onP_le hL hL) _ (wc41f (loopsBy [(0, lp41 s), (2, lp41_2 s)]) _ s (psR s).2.2 (errL (s.length + 1) s []).1.length (rowX (errL (s.length + 1) s []).1) hg (isP_true (by
          rcases key _ (mm (en41f s (psR s).2.2 (errL (s.length + 1) s []).1.length (rowX (errL (s.length + 1) s []).1))) (fun _ _ => rfl) with ⟨h1, _⟩ | ⟨_, _, h3⟩
          · exact absurd h1 hok
          · exact h3)))
        rw [hno.1, hno.2]
        exact ⟨_, cxOf Gl tb41 [(0, lp41 s), (2, lp41_2 s)], _, ArgLE.refl _, rfl, hx.1, hx.2, hw, RowsLE.one fun j hj => absurd hj (Nat.not_lt_zero _)⟩
  · cases h

noncomputable def tb11 : List (Nat × (List V → T (V × List Blk))) := [(40, psT), (41, psT), (42, sameT), (46, unitT (bV true))]
theorem tb11_ok : AllPure Tryd.prog Gl tb11 := .cons p40 <| .cons p41 <| .cons p42 <| .cons p46 .nil
noncomputable def mt11 : List (Nat × (List V → List Blk → T (V × List Blk))) := [(43, markM 23 6 markE), (44, growM 23 6 growE), (45, growM 23 6 growE)]
theorem mt11_ok : AllMut Tryd.prog Gl mt11 := .cons m43 <| .cons m44 <| .cons m45 .nil

/-- As many edges as a text has. -/
theorem ps_small (s : List UInt8) : psN s ≤ 262145 := by
  by_cases h : psE s = 0
  · have hb : bigS s = false := by
      cases hb : bigS s with
      | false => rfl
      | true => unfold psE at h; rw [hb] at h; cases h
    have e0 : psL s = (psR s).1 := by unfold psL; rw [hb]; rfl
    have hs : s.length ≤ 262144 := by
      unfold bigS at hb
      rw [show (262144 : Int) = Int.ofNat 262144 from rfl, ilt_nat] at hb
      have := of_decide_eq_false hb
      have hsl : slen s = s.length := rfl
      omega
    have hok : (psR s).2.1 = 0 := by unfold psE at h; rw [hb] at h; exact h
    obtain ⟨_, h2⟩ := parse_size (s.length + 1) s 0 [] (Nat.lt_succ_self _) (fun e he => by cases he) hok
    have h3 := sizeE_ge (psL s)
    have h4 : sizeE ([] : List E6) = 0 := rfl
    have h5 : (psL s) = (parseL (s.length + 1) s 0 []).1 := e0
    rw [← h5] at h2
    show (psL s).length ≤ _
    omega
  · rw [ps_no h]
    exact Nat.zero_le _

theorem wc11_p (L : Nat → (St → T (Ex × St)) → St → T (Ex × St)) (s : List UInt8) : (finF (evalF tab ⟨callM mt11 tb11, L, Gl⟩ Tryd.f11 [.str s] [])).path [false, false, false, false, false, false, false, true, true, true, false, false, false, false, false, true, true, true, false, false, false, true, true, true, true, true, true, true, true, true] = some ([(bnot (ieq (psE s) (psE s))), (bnot (ieq (psE s) (psE s))), (bnot (ieq (psE s) (psE s))), (bnot (ieq (psE s) (psE s))), (bnot (ieq (psI s) (psI s))), (bnot (ieq (psI s) (psI s))), (bnot (ieq (psI s) (psI s))), (allN (psN s) (fun _ => Bool.true)), (allN (psN s) (fun _ => Bool.true)), (smallN (psN s)), (bnot (ieq (psI s) (psI s))), (bnot (ieq (psI s) (psI s))), (bnot (sameB (psN s) (fun i => (psG s i)) (psN s) (fun i => (psG s i)))), (bnot (sameB (psN s) (fun i => (psG s i)) (psN s) (fun i => (psG s i)))), (bnot (sameB (psN s) (fun i => (psG s i)) (psN s) (fun i => (psG s i)))), (allN (psN s) (fun _ => Bool.true)), (allN (psN s) (fun _ => Bool.true)), (smallN (psN s)), (bnot (sameB (psN s) (fun i => (psG s i)) (psN s) (fun i => (psG s i)))), (bnot (sameB (psN s) (fun i => (psG s i)) (psN s) (fun i => (psG s i)))), (bnot (sameB (psN s) (fun i => (psG s i)) (psN s) (fun i => (psG s i)))), (smallN (psN s)), (allN (psN s) (fun _ => Bool.true)), (apOK (psN s) 60 40), (apOK (psN s) 60 40), (allN (psN s) (fun _ => Bool.true)), (allN (psN s) (fun _ => Bool.true)), (smallN (psN s)), (sameB (psN s) (fun i => (psG s i)) (psN s) (fun i => (psG s i))), (sameB (psN s) (fun i => (psG s i)) (psN s) (fun i => (psG s i)))], ((bV Bool.true), [])) := by kernel_rfl
theorem wc11 (L : Nat → (St → T (Ex × St)) → St → T (Ex × St)) (s : List UInt8) (h14 : ieq (psE s) (psE s) = true) (h15 : ieq (psI s) (psI s) = true) (h16 : smallN (psN s) = true) (h17 : sameB (psN s) (fun i => (psG s i)) (psN s) (fun i => (psG s i)) = true) (h18 : apOK (psN s) 60 40 = true) : (finF (evalF tab ⟨callM mt11 tb11, L, Gl⟩ Tryd.f11 [.str s] [])).sem = some ((bV Bool.true), []) := by
  exact sem_of_path (wc11_p L s) (by simp only [h14, h15, h16, h17, h18, allN_true] <;> rfl)

def law11T : List V → T (V × List Blk)
  | [.str _] => out (bV true)
  | _ => .fail

theorem p11 : PureC Tryd.prog Gl 11 law11T := by
  refine pureC_intro tabOK mixed Tryd.func11 (by kernel_rfl) (by kernel_rfl) fun vs v h' h => ?_
  unfold law11T at h
  split at h
  · rename_i s
    have := sem_leaf h
    simp only [Prod.mk.injEq] at this
    obtain ⟨rfl, rfl⟩ := this
    have hn := ps_small s
    have hx := cxM_ok mt11_ok tb11_ok []
    exact ⟨_, cxM Gl mt11 tb11 [], _, ArgLE.refl _, rfl, hx.1, hx.2, wc11 _ s (ieq_rfl _) (ieq_rfl _) (decide_eq_true (by omega)) (sameB_at.2 ⟨rfl, fun _ _ => rfl⟩) (ap_ok (by omega)), RowsLE.refl _⟩
  · cases h

#print axioms p11

end Go.Proofs.YtcaljjnadbpacaaDoor.Ed
