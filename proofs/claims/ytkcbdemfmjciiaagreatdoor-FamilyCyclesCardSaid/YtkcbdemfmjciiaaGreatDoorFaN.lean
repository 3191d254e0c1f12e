/-
  What a beginning reads (read 47), the cycle of a name (Cycle 26). Conditions: the listed variables read as listed; MaxLen holds some number (Gm).
-/
import Derived.Test.YtkcbdemfmjciiaaGreatDoorFaK
import Derived.Test.YtkcbdemfmjciiaaGreatDoorFaM
namespace Go.Proofs.YtkcbdemfmjciiaaGreatDoor.Fa
open Go.Sy Go Go.Proofs.YtkcbdemfmjciiaaGreatDoor.Ed
set_option maxRecDepth 100000

theorem parse_len : ∀ (q : Nat) (l : List UInt8) (a : Nat) (acc : List E6), (parseL q l a acc).1.length ≤ acc.length + l.length
  | 0, _, _, _ => Nat.le_add_right _ _
  | _ + 1, [], _, _ => Nat.le_add_right _ _
  | q + 1, c :: l, a, acc => by
    rw [parseL]
    split
    · have := parse_len q l (a + 1) acc
      simp only [List.length_cons]
      omega
    · rename_i hb
      split
      · have h := parse_len q ((c :: l).drop (wordL (c :: l)).length) (a + (wordL (c :: l)).length) (acc ++ [parseE (wordL (c :: l))])
        have hw : 0 < (wordL (c :: l)).length := by unfold wordL; rw [List.takeWhile_cons_of_pos (by simpa using hb)]; simp
        rw [List.length_drop, List.length_append] at h
        simp only [List.length_cons, List.length_nil] at h ⊢
        omega
      · exact Nat.zero_le _
theorem psN_le (s : List UInt8) : psN s ≤ s.length := by
  unfold psN psL
  cases bigS s
  · have := parse_len (s.length + 1) s 0 []
    simpa [psR] using this
  · exact Nat.zero_le _
theorem cutP_len {p s r : List UInt8} (h : cutP p s = some r) : r.length ≤ s.length := by
  rw [cutP_some h, List.length_append]
  omega
theorem cutS_len (p s : List UInt8) : (cutS p s).length ≤ s.length := by
  unfold cutS Ed.cutR
  cases h : cutP p s with
  | none => exact Nat.le_refl _
  | some r => exact cutP_len h
theorem fit_le {n : Nat} (h : n ≤ 262144) : fitN n = true := decide_eq_true (by omega)

/-- The text that a beginning leaves, parted by blanks. -/
def rdU (s h : List UInt8) : List UInt8 := unp (cutS (sapp h [43]) s)
def rdN (s h : List UInt8) : Nat := bif cutB (sapp h [43]) s then (bif ieq (psE (rdU s h)) 0 then psN (rdU s h) else 0) else 0
def rdG (s h : List UInt8) (i : Nat) : E6 := psG (rdU s h) i
def rdOK (s h : List UInt8) : Bool := Nat.ble s.length 1024 && Nat.ble h.length 20
def readT : List V → T (V × List Blk)
  | [.val (.int .i64 a), .str s, .str h] => .br (rdOK s h) (.leaf (.tup [.ref 0, bV (rdP a s h)], [.row 38 6 (rdN s h) fun i => eV (rdG s h i)])) .fail
  | _ => .fail
theorem rdU_len (s h : List UInt8) : (rdU s h).length ≤ s.length := by
  unfold rdU
  rw [unp_len]
  exact cutS_len _ _
theorem rd_cut (s h : List UInt8) : (cutB (sapp h [43]) s = false ∧ cutP (h ++ [43]) s = none) ∨ (cutB (sapp h [43]) s = true ∧ cutP (h ++ [43]) s = some (cutS (sapp h [43]) s)) := by
  unfold cutB cutS Ed.cutR
  rw [show sapp h [43] = h ++ [43] from rfl]
  cases cutP (h ++ [43]) s with
  | none => exact .inl ⟨rfl, rfl⟩
  | some r => exact .inr ⟨rfl, rfl⟩
/-- What is read is what the beginning reads. -/
theorem rd_eq (a : Int) (s h : List UInt8) : rdP a s h = bif cutB (sapp h [43]) s then (ieq (psE (rdU s h)) 0 && (ieq (chkE a (psN (rdU s h)) fun i => psG (rdU s h) i) 0 && seq (nameT a (psN (rdU s h)) fun i => psG (rdU s h) i) s)) else false := by
  unfold rdP rdU
  rcases rd_cut s h with ⟨h1, h2⟩ | ⟨h1, h2⟩
  · rw [h1, h2]; rfl
  · rw [h1, h2]; rfl
theorem rdR_eq {a : Int} {s h : List UInt8} (hp : rdP a s h = true) : rdR s h = rdU s h ∧ rdN s h = psN (rdR s h) := by
  have h0 := hp
  rw [rd_eq] at h0
  unfold rdR rdN
  rcases rd_cut s h with ⟨h1, h2⟩ | ⟨h1, h2⟩
  · rw [h1] at h0; cases h0
  · rw [h1] at h0
    rw [h1, h2]
    have h0 : (ieq (psE (rdU s h)) 0 && _) = true := h0
    rw [Bool.and_eq_true] at h0
    rw [h0.1]
    exact ⟨rfl, rfl⟩

noncomputable def tb47 : List (Nat × (List V → T (V × List Blk))) := (13, cutT) :: (15, repT) :: (14, psT) :: (12, nameTT) :: []
theorem tb47_ok (mm : Int) : AllPure Tryz.prog (Gm mm) tb47 := .cons (gmC mm pCut) <| .cons (pRep mm) <| .cons (gmC mm p40) <| .cons (gmC mm q11) .nil

section
variable {mm : Int}
theorem w47a (L : Nat → (St → T (Ex × St)) → St → T (Ex × St)) (a : Int) (s h : List UInt8) (h22 : strOK h [43] = true) (h23 : cutB (sapp h [43]) s = false) : (finF (evalF tab ⟨callT tb47, L, Gm mm⟩ Tryz.f8 [iV a, .str s, .str h] [])).sem = some ((.tup [(.ref 0), (bV Bool.false)]), [(.row 38 6 0 (fun _ => .und))]) := by
  exact sem_of_path (ds := [true, true]) (cs := [(strOK h [43]), (bnot (cutB (sapp h [43]) s))]) (by kernel_rfl) (by simp only [h22, h23] <;> rfl)

theorem w47b (L : Nat → (St → T (Ex × St)) → St → T (Ex × St)) (a : Int) (s h : List UInt8) (h23 : strOK h [43] = true) (h24 : cutB (sapp h [43]) s = true) (h25 : repOK (cutS (sapp h [43]) s) [43] [32] = true) (h26 : ieq (psE (unp (cutS (sapp h [43]) s))) 0 = false) : (finF (evalF tab ⟨callT tb47, L, Gm mm⟩ Tryz.f8 [iV a, .str s, .str h] [])).sem = some ((.tup [(.ref 0), (bV Bool.false)]), [(.row 38 6 0 (fun _ => .und))]) := by
  exact sem_of_path (ds := [true, false, true, true]) (cs := [(strOK h [43]), (bnot (cutB (sapp h [43]) s)), (repOK (cutS (sapp h [43]) s) [43] [32]), (bnot (ieq (psE (unp (cutS (sapp h [43]) s))) 0))]) (by kernel_rfl) (by simp only [h23, h24, h25, h26] <;> rfl)

theorem w47c (L : Nat → (St → T (Ex × St)) → St → T (Ex × St)) (a : Int) (s h : List UInt8) (h24 : strOK h [43] = true) (h25 : cutB (sapp h [43]) s = true) (h26 : repOK (cutS (sapp h [43]) s) [43] [32] = true) (h27 : ieq (psE (unp (cutS (sapp h [43]) s))) 0 = true) (h28 : fitN (psN (unp (cutS (sapp h [43]) s))) = true) (h29 : ieq (nameE a (psN (unp (cutS (sapp h [43]) s))) (fun i => (psG (unp (cutS (sapp h [43]) s)) i))) 0 = false) : (finF (evalF tab ⟨callT tb47, L, Gm mm⟩ Tryz.f8 [iV a, .str s, .str h] [])).sem = some ((.tup [(.ref 0), (bV Bool.false)]), [(.row 38 6 (psN (unp (cutS (sapp h [43]) s))) (fun i => (eV (psG (unp (cutS (sapp h [43]) s)) i))))]) := by
  exact sem_of_path (ds := [true, false, true, false, true, true, false, false, false, false]) (cs := [(strOK h [43]), (bnot (cutB (sapp h [43]) s)), (repOK (cutS (sapp h [43]) s) [43] [32]), (bnot (ieq (psE (unp (cutS (sapp h [43]) s))) 0)), (allN (psN (unp (cutS (sapp h [43]) s))) (fun _ => Bool.true)), (fitN (psN (unp (cutS (sapp h [43]) s)))), (ieq (nameE a (psN (unp (cutS (sapp h [43]) s))) (fun i => (psG (unp (cutS (sapp h [43]) s)) i))) 0), (ieq (nameE a (psN (unp (cutS (sapp h [43]) s))) (fun i => (psG (unp (cutS (sapp h [43]) s)) i))) 0), (ieq (nameE a (psN (unp (cutS (sapp h [43]) s))) (fun i => (psG (unp (cutS (sapp h [43]) s)) i))) 0), (ieq (nameE a (psN (unp (cutS (sapp h [43]) s))) (fun i => (psG (unp (cutS (sapp h [43]) s)) i))) 0)]) (by kernel_rfl) (by simp only [h24, h25, h26, h27, h28, h29, allN_true] <;> rfl)

theorem w47d (L : Nat → (St → T (Ex × St)) → St → T (Ex × St)) (a : Int) (s h : List UInt8) (h24 : strOK h [43] = true) (h25 : cutB (sapp h [43]) s = true) (h26 : repOK (cutS (sapp h [43]) s) [43] [32] = true) (h27 : ieq (psE (unp (cutS (sapp h [43]) s))) 0 = true) (h28 : fitN (psN (unp (cutS (sapp h [43]) s))) = true) (h29 : ieq (nameE a (psN (unp (cutS (sapp h [43]) s))) (fun i => (psG (unp (cutS (sapp h [43]) s)) i))) 0 = true) : (finF (evalF tab ⟨callT tb47, L, Gm mm⟩ Tryz.f8 [iV a, .str s, .str h] [])).sem = some ((.tup [(.ref 0), (bV (seq (nameT a (psN (unp (cutS (sapp h [43]) s))) (fun i => (psG (unp (cutS (sapp h [43]) s)) i))) s))]), [(.row 38 6 (psN (unp (cutS (sapp h [43]) s))) (fun i => (eV (psG (unp (cutS (sapp h [43]) s)) i))))]) := by
  exact sem_of_path (ds := [true, false, true, false, true, true, true, true, true, true]) (cs := [(strOK h [43]), (bnot (cutB (sapp h [43]) s)), (repOK (cutS (sapp h [43]) s) [43] [32]), (bnot (ieq (psE (unp (cutS (sapp h [43]) s))) 0)), (allN (psN (unp (cutS (sapp h [43]) s))) (fun _ => Bool.true)), (fitN (psN (unp (cutS (sapp h [43]) s)))), (ieq (nameE a (psN (unp (cutS (sapp h [43]) s))) (fun i => (psG (unp (cutS (sapp h [43]) s)) i))) 0), (ieq (nameE a (psN (unp (cutS (sapp h [43]) s))) (fun i => (psG (unp (cutS (sapp h [43]) s)) i))) 0), (ieq (nameE a (psN (unp (cutS (sapp h [43]) s))) (fun i => (psG (unp (cutS (sapp h [43]) s)) i))) 0), (ieq (nameE a (psN (unp (cutS (sapp h [43]) s))) (fun i => (psG (unp (cutS (sapp h [43]) s)) i))) 0)]) (by kernel_rfl) (by simp only [h24, h25, h26, h27, h28, h29, allN_true] <;> rfl)
end

theorem p47 (mm : Int) : PureC Tryz.prog (Gm mm) 8 readT := by
  refine pureC_intro tabOK mixed Tryz.func8 (by kernel_rfl) (by kernel_rfl) fun vs v h' h => ?_
  unfold readT at h
  split at h
  · rename_i a s p
    obtain ⟨ho, hq⟩ := sem_br_fail h
    have := sem_leaf hq
    simp only [Prod.mk.injEq] at this
    obtain ⟨rfl, rfl⟩ := this
    simp only [rdOK, Bool.and_eq_true] at ho
    have hs : s.length ≤ 1024 := Nat.le_of_ble_eq_true ho.1
    have hp : p.length ≤ 20 := Nat.le_of_ble_eq_true ho.2
    have k1 : strOK p [43] = true := decide_eq_true (by simp only [List.length_cons, List.length_nil]; omega)
    have kc := cutS_len (sapp p [43]) s
    have k2 : repOK (cutS (sapp p [43]) s) [43] [32] = true := by
      unfold repOK
      rw [seq_rfl, seq_rfl, show Nat.ble (cutS (sapp p [43]) s).length 262144 = true from Nat.ble_eq_true_of_le (by omega)]
      rfl
    have kn := psN_le (rdU s p)
    have ku := rdU_len s p
    have k3 : fitN (psN (rdU s p)) = true := fit_le (by omega)
    have hx := cx_ok (tb47_ok mm) []
    rw [rd_eq]
    unfold rdN
    cases hc : cutB (sapp p [43]) s with
    | false => exact ⟨_, cxOf (Gm mm) tb47 [], _, ArgLE.refl _, rfl, hx.1, hx.2, w47a _ a s p k1 hc, RowsLE.one fun j hj => absurd hj (Nat.not_lt_zero _)⟩
    | true =>
      cases he : ieq (psE (rdU s p)) 0 with
      | false => exact ⟨_, cxOf (Gm mm) tb47 [], _, ArgLE.refl _, rfl, hx.1, hx.2, w47b _ a s p k1 hc k2 he, RowsLE.one fun j hj => absurd hj (Nat.not_lt_zero _)⟩
      | true =>
        cases hn : ieq (chkE a (psN (rdU s p)) fun i => psG (rdU s p) i) 0 with
        | false => exact ⟨_, cxOf (Gm mm) tb47 [], _, ArgLE.refl _, rfl, hx.1, hx.2, w47c _ a s p k1 hc k2 he k3 hn, RowsLE.refl _⟩
        | true => exact ⟨_, cxOf (Gm mm) tb47 [], _, ArgLE.refl _, rfl, hx.1, hx.2, w47d _ a s p k1 hc k2 he k3 hn, RowsLE.refl _⟩
  · cases h

noncomputable def tb26 : List (Nat × (List V → T (V × List Blk))) := (8, readT) :: []
theorem tb26_ok (mm : Int) : AllPure Tryz.prog (Gm mm) tb26 := .cons (p47 mm) .nil

theorem rd_ok {s : List UInt8} (hs : s.length ≤ 1024) (b : Nat) : rdOK s (famS b) = true := by
  unfold rdOK
  rw [Nat.ble_eq_true_of_le hs, Nat.ble_eq_true_of_le (famS_len b)]
  rfl
theorem rd_okC {s : List UInt8} (hs : s.length ≤ 1024) : rdOK s [67] = true := by
  unfold rdOK
  rw [Nat.ble_eq_true_of_le hs]
  rfl

section
variable {mm : Int}
theorem w26a (L : Nat → (St → T (Ex × St)) → St → T (Ex × St)) (a : Int) (s : List UInt8) (h0 : ieq a 1 = false) (h1 : ieq a 2 = false) : (finF (evalF tab ⟨callT tb26, L, Gm mm⟩ Tryz.f4 [iV a, .str s] [])).sem = some ((.tup [(.ref 0), (iV 1)]), [(.row 38 6 0 (fun _ => .und))]) := by
  exact sem_of_path (ds := [true, true, true, true]) (cs := [(bnot (ieq a 1)), (bnot (ieq a 1)), (bnot (ieq a 1)), (bnot (ieq a 2))]) (by kernel_rfl) (by simp only [h0, h1] <;> rfl)

def lp26 (a : Int) (s : List UInt8) : Lp := ⟨[true, true, false, false, true, true, false, false, false, false, false, false, false, false, false, false, false, false, false, false, true, false, false, false, false, false, false, false, false, false, false, false, false, false, false, false, false, false, false, false, false, false, false, false], 1, [true, true, false, false, true, true, false, false, false, false, false, false, false, false, false, false, false, false, false, false, false, false, false, false, false, false, false, false, false, false, false, false, false, false, false, false, false, false, false, false, false, false, false, false], 2, 26⟩
def st26 (a : Int) (s : List UInt8) (b : Nat) (j : Nat → V) : St := ⟨[iV a, .str s, j 2, j 3, .ref 0, iV 0, j 6, j 7, j 8, j 9, j 10, j 11, j 12, j 13, j 14, j 15, j 16, j 17, j 18, j 19, iV (Int.ofNat b), j 21, j 22, j 23, j 24, j 25, j 26, j 27, j 28, j 29, j 30, j 31, j 32, j 33, j 34, j 35, j 36, j 37, j 38, j 39, j 40, j 41, j 42, j 43], [.row 38 6 0 (fun _ => .und)]⟩
def en26e (a : Int) (s : List UInt8) (b : Nat) : Ex × St := (.ex 0, ⟨[iV a, .str s, .und, .und, .ref 0, iV 0, .und, .und, .und, .und, .und, .und, .und, .und, .und, .und, .und, .und, .und, .und, .und, .und, .und, .und, .und, .und, .und, .und, .und, .und, .und, .und, .und, .und, .und, .und, .und, .und, .und, .und, .und, .und, .und, .und], [.row 38 6 0 (fun _ => .und)]⟩)
def en26r (a : Int) (s : List UInt8) (b : Nat) : Ex × St := (.rt, ⟨[iV a, .str s, .und, .und, .ref 1, iV 0, .und, .und, .und, .und, .und, .und, .und, .und, .und, .und, .und, .und, .und, .und, .und, .und, .und, .und, .und, .und, .und, .und, .und, .und, .und, .und, .und, .und, .und, .und, .und, .und, .und, .und, .und, .und, .und, .und], [.row 38 6 0 (fun _ => .und), .row 38 6 (rdN s (famS b)) (fun i => eV (rdG s (famS b) i))]⟩)
noncomputable def body26 (mm : Int) (L : Nat → (St → T (Ex × St)) → St → T (Ex × St)) : St → T (Ex × St) := fun st => evalC tab ⟨callT tb26, L, Gm mm⟩ (loopBody Tryz.f4 0) 0 st
theorem rf26e (L : Nat → (St → T (Ex × St)) → St → T (Ex × St)) (a : Int) (s : List UInt8) (b : Nat)  (j : Nat → V) (h0 : ilt (Int.ofNat b) 25 = false) : ((body26 mm L (st26 a s b j)).bind fun r => T.leaf (cutR (lp26 a s) r)).sem = some ((.ex 0), ⟨[(iV a), (.str s), .und, .und, (.ref 0), (iV 0), .und, .und, .und, .und, .und, .und, .und, .und, .und, .und, .und, .und, .und, .und, .und, .und, .und, .und, .und, .und, .und, .und, .und, .und, .und, .und, .und, .und, .und, .und, .und, .und, .und, .und, .und, .und, .und, .und], [(.row 38 6 0 (fun _ => .und))]⟩) := by
  exact sem_of_path (ds := [false]) (cs := [(ilt (Int.ofNat b) 25)]) (by kernel_rfl) (by simp only [h0] <;> rfl)
theorem rf26n (L : Nat → (St → T (Ex × St)) → St → T (Ex × St)) (a : Int) (s : List UInt8) (b : Nat)  (j : Nat → V) (h0 : ilt (Int.ofNat b) 25 = true) (h23 : ile 0 (Int.ofNat b) = true) (h24 : rdOK s (famS b) = true) (h25 : rdP a s (famS b) = false) : ((body26 mm L (st26 a s b j)).bind fun r => T.leaf (cutR (lp26 a s) r)).sem = some (.nm, ⟨[(iV a), (.str s), .und, .und, (.ref 0), (iV 0), .und, .und, .und, .und, .und, .und, .und, .und, .und, .und, .und, .und, .und, .und, (iV (wr IntKind.i64 (iadd (Int.ofNat b) 1))), .und, .und, .und, .und, .und, .und, .und, .und, .und, .und, .und, .und, .und, .und, .und, .und, .und, .und, .und, .und, .und, .und, .und], [(.row 38 6 0 (fun _ => .und))]⟩) := by
  exact sem_of_path (ds := [true, true, true, false]) (cs := [(ilt (Int.ofNat b) 25), (band (ile 0 (Int.ofNat b)) (ilt (Int.ofNat b) 25)), (rdOK s (famS b)), (rdP a s (famS b))]) (by kernel_rfl) (by simp only [h0, h23, h24, h25] <;> rfl)
theorem rf26r (L : Nat → (St → T (Ex × St)) → St → T (Ex × St)) (a : Int) (s : List UInt8) (b : Nat)  (j : Nat → V) (h0 : ilt (Int.ofNat b) 25 = true) (h23 : ile 0 (Int.ofNat b) = true) (h24 : rdOK s (famS b) = true) (h25 : rdP a s (famS b) = true) : ((body26 mm L (st26 a s b j)).bind fun r => T.leaf (cutR (lp26 a s) r)).sem = some (.rt, ⟨[(iV a), (.str s), .und, .und, (.ref 1), (iV 0), .und, .und, .und, .und, .und, .und, .und, .und, .und, .und, .und, .und, .und, .und, .und, .und, .und, .und, .und, .und, .und, .und, .und, .und, .und, .und, .und, .und, .und, .und, .und, .und, .und, .und, .und, .und, .und, .und], [(.row 38 6 0 (fun _ => .und)), (.row 38 6 (rdN s (famS b)) (fun i => (eV (rdG s (famS b) i))))]⟩) := by
  exact sem_of_path (ds := [true, true, true, true]) (cs := [(ilt (Int.ofNat b) 25), (band (ile 0 (Int.ofNat b)) (ilt (Int.ofNat b) 25)), (rdOK s (famS b)), (rdP a s (famS b))]) (by kernel_rfl) (by simp only [h0, h23, h24, h25] <;> rfl)

theorem w26bp (L : Nat → (St → T (Ex × St)) → St → T (Ex × St)) (a : Int) (s : List UInt8) (h0 : ieq a 1 = true) (h1 : ilt 1024 (Int.ofNat (slen s)) = true) : (finF (evalF tab ⟨callT tb26, L, Gm mm⟩ Tryz.f4 [iV a, .str s] [])).sem = some ((.tup [(.ref 0), (iV 4)]), [(.row 38 6 0 (fun _ => .und))]) := by
  exact sem_of_path (ds := [false, false, false, false, true]) (cs := [(bnot (ieq a 1)), (bnot (ieq a 1)), (bnot (ieq a 1)), Bool.false, (ilt 1024 (Int.ofNat (slen s)))]) (by kernel_rfl) (by simp only [h0, h1] <;> rfl)

def ent26p (a : Int) (s : List UInt8)  : St := ⟨[(iV a), (.str s), undefV, undefV, (.ref 0), (iV 0), undefV, undefV, undefV, undefV, undefV, (iV a), (bV (bnot (ieq a 1))), (bV (bnot (ieq a 1))), undefV, undefV, (bV Bool.false), (.str s), (iV (Int.ofNat (slen s))), (bV (ilt 1024 (Int.ofNat (slen s)))), (iV 0), undefV, undefV, undefV, undefV, undefV, undefV, undefV, undefV, undefV, undefV, undefV, undefV, undefV, undefV, undefV, undefV, undefV, undefV, undefV, undefV, undefV, undefV, undefV], [(.row 38 6 0 (fun _ => .und))]⟩

theorem w26pr (L : Nat → (St → T (Ex × St)) → St → T (Ex × St)) (p0 : (St → T (Ex × St)) → St → Bool) (a : Int) (s : List UInt8) (b : Nat) (h0 : ieq a 1 = true) (h1 : ilt 1024 (Int.ofNat (slen s)) = false) (hp0 : p0 (body26 mm (onP 0 p0 (en26r a s b) L)) (ent26p a s) = true) : (finF (evalF tab ⟨callT tb26, (onP 0 p0 (en26r a s b) L), Gm mm⟩ Tryz.f4 [iV a, .str s] [])).sem = some ((.tup [(.ref 0), (iV 0)]), [(.row 38 6 (rdN s (famS b)) (fun i => (eV (rdG s (famS b) i))))]) := by
  exact sem_of_path (ds := [false, false, false, false, false, true]) (cs := [(bnot (ieq a 1)), (bnot (ieq a 1)), (bnot (ieq a 1)), Bool.false, (ilt 1024 (Int.ofNat (slen s))), (p0 (body26 mm (onP 0 p0 (en26r a s b) L)) (ent26p a s))]) (by kernel_rfl) (by simp only [hp0] <;> simp only [h0, h1] <;> rfl)

theorem w26pc (L : Nat → (St → T (Ex × St)) → St → T (Ex × St)) (p0 : (St → T (Ex × St)) → St → Bool) (a : Int) (s : List UInt8) (b : Nat) (h0 : ieq a 1 = true) (h1 : ilt 1024 (Int.ofNat (slen s)) = false) (h24 : rdOK s [67] = true) (h25 : rdP a s [67] = true) (hp0 : p0 (body26 mm (onP 0 p0 (en26e a s b) L)) (ent26p a s) = true) : (finF (evalF tab ⟨callT tb26, (onP 0 p0 (en26e a s b) L), Gm mm⟩ Tryz.f4 [iV a, .str s] [])).sem = some ((.tup [(.ref 0), (iV 0)]), [(.row 38 6 (rdN s [67]) (fun i => (eV (rdG s [67] i))))]) := by
  exact sem_of_path (ds := [false, false, false, false, false, true, true, true]) (cs := [(bnot (ieq a 1)), (bnot (ieq a 1)), (bnot (ieq a 1)), Bool.false, (ilt 1024 (Int.ofNat (slen s))), (p0 (body26 mm (onP 0 p0 (en26e a s b) L)) (ent26p a s)), (rdOK s [67]), (rdP a s [67])]) (by kernel_rfl) (by simp only [hp0] <;> simp only [h0, h1, h24, h25] <;> rfl)

theorem w26pz (L : Nat → (St → T (Ex × St)) → St → T (Ex × St)) (p0 : (St → T (Ex × St)) → St → Bool) (a : Int) (s : List UInt8) (b : Nat) (h0 : ieq a 1 = true) (h1 : ilt 1024 (Int.ofNat (slen s)) = false) (h24 : rdOK s [67] = true) (h25 : rdP a s [67] = false) (hp0 : p0 (body26 mm (onP 0 p0 (en26e a s b) L)) (ent26p a s) = true) : (finF (evalF tab ⟨callT tb26, (onP 0 p0 (en26e a s b) L), Gm mm⟩ Tryz.f4 [iV a, .str s] [])).sem = some ((.tup [(.ref 0), (iV 4)]), [(.row 38 6 0 (fun _ => .und))]) := by
  exact sem_of_path (ds := [false, false, false, false, false, true, true, false]) (cs := [(bnot (ieq a 1)), (bnot (ieq a 1)), (bnot (ieq a 1)), Bool.false, (ilt 1024 (Int.ofNat (slen s))), (p0 (body26 mm (onP 0 p0 (en26e a s b) L)) (ent26p a s)), (rdOK s [67]), (rdP a s [67])]) (by kernel_rfl) (by simp only [hp0] <;> simp only [h0, h1, h24, h25] <;> rfl)

theorem w26bq (L : Nat → (St → T (Ex × St)) → St → T (Ex × St)) (a : Int) (s : List UInt8) (h0 : ieq a 1 = false) (h1 : ieq a 2 = true) (h2 : ilt 1024 (Int.ofNat (slen s)) = true) : (finF (evalF tab ⟨callT tb26, L, Gm mm⟩ Tryz.f4 [iV a, .str s] [])).sem = some ((.tup [(.ref 0), (iV 4)]), [(.row 38 6 0 (fun _ => .und))]) := by
  exact sem_of_path (ds := [true, true, true, false, true]) (cs := [(bnot (ieq a 1)), (bnot (ieq a 1)), (bnot (ieq a 1)), (bnot (ieq a 2)), (ilt 1024 (Int.ofNat (slen s)))]) (by kernel_rfl) (by simp only [h0, h1, h2] <;> rfl)

def ent26q (a : Int) (s : List UInt8)  : St := ⟨[(iV a), (.str s), undefV, undefV, (.ref 0), (iV 0), undefV, undefV, undefV, undefV, undefV, (iV a), (bV (bnot (ieq a 1))), (bV (bnot (ieq a 1))), (iV a), (bV (bnot (ieq a 2))), (bV (bnot (ieq a 2))), (.str s), (iV (Int.ofNat (slen s))), (bV (ilt 1024 (Int.ofNat (slen s)))), (iV 0), undefV, undefV, undefV, undefV, undefV, undefV, undefV, undefV, undefV, undefV, undefV, undefV, undefV, undefV, undefV, undefV, undefV, undefV, undefV, undefV, undefV, undefV, undefV], [(.row 38 6 0 (fun _ => .und))]⟩

theorem w26qr (L : Nat → (St → T (Ex × St)) → St → T (Ex × St)) (p0 : (St → T (Ex × St)) → St → Bool) (a : Int) (s : List UInt8) (b : Nat) (h0 : ieq a 1 = false) (h1 : ieq a 2 = true) (h2 : ilt 1024 (Int.ofNat (slen s)) = false) (hp0 : p0 (body26 mm (onP 0 p0 (en26r a s b) L)) (ent26q a s) = true) : (finF (evalF tab ⟨callT tb26, (onP 0 p0 (en26r a s b) L), Gm mm⟩ Tryz.f4 [iV a, .str s] [])).sem = some ((.tup [(.ref 0), (iV 0)]), [(.row 38 6 (rdN s (famS b)) (fun i => (eV (rdG s (famS b) i))))]) := by
  exact sem_of_path (ds := [true, true, true, false, false, true]) (cs := [(bnot (ieq a 1)), (bnot (ieq a 1)), (bnot (ieq a 1)), (bnot (ieq a 2)), (ilt 1024 (Int.ofNat (slen s))), (p0 (body26 mm (onP 0 p0 (en26r a s b) L)) (ent26q a s))]) (by kernel_rfl) (by simp only [hp0] <;> simp only [h0, h1, h2] <;> rfl)

theorem w26qc (L : Nat → (St → T (Ex × St)) → St → T (Ex × St)) (p0 : (St → T (Ex × St)) → St → Bool) (a : Int) (s : List UInt8) (b : Nat) (h0 : ieq a 1 = false) (h1 : ieq a 2 = true) (h2 : ilt 1024 (Int.ofNat (slen s)) = false) (h25 : rdOK s [67] = true) (h26 : rdP a s [67] = true) (hp0 : p0 (body26 mm (onP 0 p0 (en26e a s b) L)) (ent26q a s) = true) : (finF (evalF tab ⟨callT tb26, (onP 0 p0 (en26e a s b) L), Gm mm⟩ Tryz.f4 [iV a, .str s] [])).sem = some ((.tup [(.ref 0), (iV 0)]), [(.row 38 6 (rdN s [67]) (fun i => (eV (rdG s [67] i))))]) := by
  exact sem_of_path (ds := [true, true, true, false, false, true, true, true]) (cs := [(bnot (ieq a 1)), (bnot (ieq a 1)), (bnot (ieq a 1)), (bnot (ieq a 2)), (ilt 1024 (Int.ofNat (slen s))), (p0 (body26 mm (onP 0 p0 (en26e a s b) L)) (ent26q a s)), (rdOK s [67]), (rdP a s [67])]) (by kernel_rfl) (by simp only [hp0] <;> simp only [h0, h1, h2, h25, h26] <;> rfl)

theorem w26qz (L : Nat → (St → T (Ex × St)) → St → T (Ex × St)) (p0 : (St → T (Ex × St)) → St → Bool) (a : Int) (s : List UInt8) (b : Nat) (h0 : ieq a 1 = false) (h1 : ieq a 2 = true) (h2 : ilt 1024 (Int.ofNat (slen s)) = false) (h25 : rdOK s [67] = true) (h26 : rdP a s [67] = false) (hp0 : p0 (body26 mm (onP 0 p0 (en26e a s b) L)) (ent26q a s) = true) : (finF (evalF tab ⟨callT tb26, (onP 0 p0 (en26e a s b) L), Gm mm⟩ Tryz.f4 [iV a, .str s] [])).sem = some ((.tup [(.ref 0), (iV 4)]), [(.row 38 6 0 (fun _ => .und))]) := by
  exact sem_of_path (ds := [true, true, true, false, false, true, true, false]) (cs := [(bnot (ieq a 1)), (bnot (ieq a 1)), (bnot (ieq a 1)), (bnot (ieq a 2)), (ilt 1024 (Int.ofNat (slen s))), (p0 (body26 mm (onP 0 p0 (en26e a s b) L)) (ent26q a s)), (rdOK s [67]), (rdP a s [67])]) (by kernel_rfl) (by simp only [hp0] <;> simp only [h0, h1, h2, h25, h26] <;> rfl)

end

theorem run26 (mm : Int) (L : Nat → (St → T (Ex × St)) → St → T (Ex × St)) (a : Int) (s : List UInt8) (hs : s.length ≤ 1024) : ∀ (d i : Nat) (j : Nat → V) (q : Nat), 25 = i + d → d < q →
    (iterT (body26 mm L) (lp26 a s) q (st26 a s i j)).sem = some (match firstQ (fun k => rdP a s (famS k)) d i with | some k => en26r a s k | none => en26e a s 25)
  | 0, i, j, q + 1, h, _ => by
    have : i = 25 := by omega
    subst this
    exact iter_round (rf26e L a s 25 j rfl)
  | d + 1, i, j, q + 1, h, h2 => by
    have hi : i < 25 := by omega
    cases hc : rdP a s (famS i) with
    | true =>
      rw [firstQ_t (q := fun k => rdP a s (famS k)) hc]
      exact iter_round (rf26r L a s i j (ofNat_lt hi) (ile_f i) (rd_ok hs i) hc)
    | false =>
      rw [firstQ_f (q := fun k => rdP a s (famS k)) hc, iter_round (rf26n L a s i j (ofNat_lt hi) (ile_f i) (rd_ok hs i) hc), goOn_nm, succ_wr hi (by decide)]
      exact run26 mm L a s hs d (i + 1) (fun _ => .und) q (by omega) (by omega)

theorem firstQ_snoc (q : Nat → Bool) : ∀ d i, firstQ q (d + 1) i = match firstQ q d i with | some k => some k | none => bif q (i + d) then some (i + d) else none
  | 0, i => by
    show (match q i with | true => some i | false => none) = bif q (i + 0) then some (i + 0) else none
    cases h : q i <;> simp [h]
  | d + 1, i => by
    cases h : q i with
    | true => rw [firstQ_t h, firstQ_t h]
    | false => rw [firstQ_f h, firstQ_f h, firstQ_snoc q d (i + 1), show i + 1 + d = i + (d + 1) by omega]
theorem hdS_fam {k : Nat} (h : k < 25) : hdS k = famS k := by
  unfold hdS
  rw [show Nat.blt k 25 = true from Nat.ble_eq_true_of_le h]
  rfl
theorem cyK_eq (a : Int) (s : List UInt8) : cyK a s = match firstQ (fun k => rdP a s (famS k)) 25 0 with | some k => some k | none => bif rdP a s [67] then some 25 else none := by
  unfold cyK
  rw [firstQ_snoc, firstQ_congr (p := fun k => rdP a s (famS k)) 25 0 fun k _ hk => by rw [hdS_fam (by omega)]]
  rfl

def cyE (a : Int) (s : List UInt8) : Int := match (ieq a 1 || ieq a 2) with
  | false => 1
  | true => match ilt 1024 (Int.ofNat (slen s)) with
    | true => 4
    | false => match cyK a s with
      | some _ => 0
      | none => 4
def cyH (a : Int) (s : List UInt8) : List UInt8 := match cyK a s with
  | some k => hdS k
  | none => []
def cyN (a : Int) (s : List UInt8) : Nat := match ieq (cyE a s) 0 with
  | true => rdN s (cyH a s)
  | false => 0
def cyG (a : Int) (s : List UInt8) (i : Nat) : E6 := rdG s (cyH a s) i
def cyT : List V → T (V × List Blk)
  | [.val (.int .i64 a), .str s] => .leaf (.tup [.ref 0, iV (cyE a s)], [.row 38 6 (cyN a s) fun i => eV (cyG a s i)])
  | _ => .fail

theorem pCyc (mm : Int) : PureC Tryz.prog (Gm mm) 4 cyT := by
  refine pureC_intro tabOK mixed Tryz.func4 (by kernel_rfl) (by kernel_rfl) fun vs v h' h => ?_
  unfold cyT at h
  split at h
  · rename_i a s
    have := sem_leaf h
    simp only [Prod.mk.injEq] at this
    obtain ⟨rfl, rfl⟩ := this
    have hx := cx_ok (tb26_ok mm) [(0, lp26 a s)]
    have hL := loopsBy_le [(0, lp26 a s)]
    have hz : ∀ (g : Nat → V), RowsLE [Blk.row 38 6 0 (fun _ => .und)] [Blk.row 38 6 0 g] := fun g => RowsLE.one fun j hj => absurd hj (Nat.not_lt_zero _)
    have hkE : (ieq a 1 || ieq a 2) = true → ilt 1024 (Int.ofNat (slen s)) = false → cyE a s = match cyK a s with | some _ => 0 | none => 4 := fun e1 e2 => by unfold cyE; rw [e1, e2]
    have hsome : ∀ k, cyE a s = 0 → cyK a s = some k → cyN a s = rdN s (hdS k) ∧ cyG a s = rdG s (hdS k) := fun k e1 e2 => by
      unfold cyN cyG cyH
      rw [e1, e2]
      exact ⟨rfl, rfl⟩
    have hnone : ieq (cyE a s) 0 = false → cyN a s = 0 := fun e1 => by unfold cyN; rw [e1]
    have big : (ieq a 1 || ieq a 2) = true → ilt 1024 (Int.ofNat (slen s)) = true → cyE a s = 4 := fun e1 e2 => by unfold cyE; rw [e1, e2]
    have small : ilt 1024 (Int.ofNat (slen s)) = false → s.length ≤ 1024 := fun e => by
      rw [show (1024 : Int) = Int.ofNat 1024 from rfl, ilt_nat] at e
      have := of_decide_eq_false e
      unfold slen at this
      omega
    cases h1 : ieq a 1 with
    | true =>
      have hA : (ieq a 1 || ieq a 2) = true := by rw [h1]; rfl
      cases hb : ilt 1024 (Int.ofNat (slen s)) with
      | true =>
        have e4 := big hA hb
        rw [hnone (by rw [e4]; rfl), e4]
        exact ⟨_, cxOf (Gm mm) tb26 [(0, lp26 a s)], _, ArgLE.refl _, rfl, hx.1, hx.2, w26bp _ a s h1 hb, hz _⟩
      | false =>
        have hr := fun L => run26 mm L a s (small hb) 25 0 (fun i => nth (ent26p a s).t i) 26 rfl (by omega)
        cases hf : firstQ (fun k => rdP a s (famS k)) 25 0 with
        | some k =>
          rw [hf] at hr
          obtain ⟨_, hk, _⟩ := firstQ_some hf
          have hK : cyK a s = some k := by rw [cyK_eq, hf]
          have e0 : cyE a s = 0 := by rw [hkE hA hb, hK]
          obtain ⟨e1, e2⟩ := hsome k e0 hK
          rw [hdS_fam (by omega)] at e1 e2
          rw [e0, e1, e2]
          exact ⟨_, cxOf (Gm mm) tb26 [(0, lp26 a s)], _, ArgLE.refl _, rfl, hx.1, hx.2, told_le (onP_le hL hL) _ (w26pr _ _ a s k h1 hb (isP_true (hr _))), RowsLE.refl _⟩
        | none =>
          rw [hf] at hr
          cases hc : rdP a s [67] with
          | true =>
            have hK : cyK a s = some 25 := by rw [cyK_eq, hf, hc]; rfl
            have e0 : cyE a s = 0 := by rw [hkE hA hb, hK]
            obtain ⟨e1, e2⟩ := hsome 25 e0 hK
            rw [e0, e1, e2]
            exact ⟨_, cxOf (Gm mm) tb26 [(0, lp26 a s)], _, ArgLE.refl _, rfl, hx.1, hx.2, told_le (onP_le hL hL) _ (w26pc _ _ a s 25 h1 hb (rd_okC (small hb)) hc (isP_true (hr _))), RowsLE.refl _⟩
          | false =>
            have hK : cyK a s = none := by rw [cyK_eq, hf, hc]; rfl
            have e0 : cyE a s = 4 := by rw [hkE hA hb, hK]
            rw [hnone (by rw [e0]; rfl), e0]
            exact ⟨_, cxOf (Gm mm) tb26 [(0, lp26 a s)], _, ArgLE.refl _, rfl, hx.1, hx.2, told_le (onP_le hL hL) _ (w26pz _ _ a s 25 h1 hb (rd_okC (small hb)) hc (isP_true (hr _))), hz _⟩
    | false =>
      cases h2 : ieq a 2 with
      | false =>
        have e0 : cyE a s = 1 := by unfold cyE; rw [h1, h2]; rfl
        rw [hnone (by rw [e0]; rfl), e0]
        exact ⟨_, cxOf (Gm mm) tb26 [(0, lp26 a s)], _, ArgLE.refl _, rfl, hx.1, hx.2, w26a _ a s h1 h2, hz _⟩
      | true =>
        have hA : (ieq a 1 || ieq a 2) = true := by rw [h1, h2]; rfl
        cases hb : ilt 1024 (Int.ofNat (slen s)) with
        | true =>
          have e4 := big hA hb
          rw [hnone (by rw [e4]; rfl), e4]
          exact ⟨_, cxOf (Gm mm) tb26 [(0, lp26 a s)], _, ArgLE.refl _, rfl, hx.1, hx.2, w26bq _ a s h1 h2 hb, hz _⟩
        | false =>
          have hr := fun L => run26 mm L a s (small hb) 25 0 (fun i => nth (ent26q a s).t i) 26 rfl (by omega)
          cases hf : firstQ (fun k => rdP a s (famS k)) 25 0 with
          | some k =>
            rw [hf] at hr
            obtain ⟨_, hk, _⟩ := firstQ_some hf
            have hK : cyK a s = some k := by rw [cyK_eq, hf]
            have e0 : cyE a s = 0 := by rw [hkE hA hb, hK]
            obtain ⟨e1, e2⟩ := hsome k e0 hK
            rw [hdS_fam (by omega)] at e1 e2
            rw [e0, e1, e2]
            exact ⟨_, cxOf (Gm mm) tb26 [(0, lp26 a s)], _, ArgLE.refl _, rfl, hx.1, hx.2, told_le (onP_le hL hL) _ (w26qr _ _ a s k h1 h2 hb (isP_true (hr _))), RowsLE.refl _⟩
          | none =>
            rw [hf] at hr
            cases hc : rdP a s [67] with
            | true =>
              have hK : cyK a s = some 25 := by rw [cyK_eq, hf, hc]; rfl
              have e0 : cyE a s = 0 := by rw [hkE hA hb, hK]
              obtain ⟨e1, e2⟩ := hsome 25 e0 hK
              rw [e0, e1, e2]
              exact ⟨_, cxOf (Gm mm) tb26 [(0, lp26 a s)], _, ArgLE.refl _, rfl, hx.1, hx.2, told_le (onP_le hL hL) _ (w26qc _ _ a s 25 h1 h2 hb (rd_okC (small hb)) hc (isP_true (hr _))), RowsLE.refl _⟩
            | false =>
              have hK : cyK a s = none := by rw [cyK_eq, hf, hc]; rfl
              have e0 : cyE a s = 4 := by rw [hkE hA hb, hK]
              rw [hnone (by rw [e0]; rfl), e0]
              exact ⟨_, cxOf (Gm mm) tb26 [(0, lp26 a s)], _, ArgLE.refl _, rfl, hx.1, hx.2, told_le (onP_le hL hL) _ (w26qz _ _ a s 25 h1 h2 hb (rd_okC (small hb)) hc (isP_true (hr _))), hz _⟩
  · cases h

end Go.Proofs.YtkcbdemfmjciiaaGreatDoor.Fa
