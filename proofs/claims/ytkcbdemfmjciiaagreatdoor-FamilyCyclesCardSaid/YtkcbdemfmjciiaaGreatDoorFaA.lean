/-
  Families: their names, their bare cycles; edges changed for program order. Conditions: the listed variables read as listed.
-/
import Derived.Test.YtkcbdemfmjciiaaGreatDoorCyZp
import Derived.Test.YtkcbdemfmjciiaaGreatDoorCyZc
namespace Go.Proofs.YtkcbdemfmjciiaaGreatDoor.Fa
open Go.Sy Go Go.Proofs.YtkcbdemfmjciiaaGreatDoor.Ed


/-! ### The families: names and bare cycles -/

/-- Which of some texts a number means; the last one stands for all behind it. -/
def pickS : List (List UInt8) → Nat → List UInt8
  | [], _ => []
  | [v], _ => v
  | v :: l, i => sel (nbeq i 0) v (pickS l (nsub i 1))

theorem pickS_eq : ∀ (l : List (List UInt8)) (i : Nat), i < l.length → pickS l i = l.getD i []
  | [], _, h => by simp at h
  | [v], i, h => by
    have : i = 0 := by simpa using h
    subst this
    rfl
  | v :: u :: l, 0, _ => rfl
  | v :: u :: l, i + 1, h => by
    show pickS (u :: l) (i + 1 - 1) = _
    rw [Nat.add_sub_cancel, pickS_eq (u :: l) i (by simpa using h)]
    rfl

def famS (i : Nat) : List UInt8 := pickS (famL.map (·.1)) i
def bareS (i : Nat) : List UInt8 := pickS (famL.map (·.2)) i

def okS (v : V) : Bool := match v with
  | .str _ => true
  | _ => false
def edS (v : V) : List UInt8 := match v with
  | .str s => s
  | _ => []
theorem okS_spec {v : V} (h : okS v = true) : v = .str (edS v) := by
  unfold okS at h
  split at h
  · rfl
  · cases h
def textsR (n : Nat) (f : Nat → List UInt8) : V := .sl 1 n fun i => .str (f i)
def apS {α : Type} (v : V) (F : Nat → (Nat → List UInt8) → T α) : T α :=
  match gSlI v with
  | some (n, g) => .br (allN n fun i => okS (g i)) (F n fun i => edS (g i)) .fail
  | none => .fail
theorem apS_some {α : Type} {v : V} {F : Nat → (Nat → List UInt8) → T α} {r : α} (h : (apS v F).sem = some r) : ∃ n f, (∀ (S : Nat → Prop) (w : World) (c : Value), VR S w v noK c → VR S w (textsR n f) noK c) ∧ (F n f).sem = some r := by
  unfold apS at h
  split at h
  · rename_i n g hg
    obtain ⟨h1, h2⟩ := sem_br_fail h
    have h1 := allN_iff.1 h1
    refine ⟨n, fun i => edS (g i), fun S w c hv => ?_, h2⟩
    unfold gSlI at hg
    split at hg
    · rename_i s n' g' 
      split at hg
      · rename_i hs
        have hs := Nat.eq_of_beq_eq_true hs
        simp only [Option.some.injEq, Prod.mk.injEq] at hg
        obtain ⟨rfl, rfl⟩ := hg
        subst hs
        obtain ⟨a, cap, e, hc, hb⟩ := hv
        refine ⟨a, cap, e, hc, hb.imp id ?_⟩
        rintro ⟨b, o, ea, hel⟩
        refine ⟨b, o, ea, fun i hi => ?_⟩
        have := hel i hi
        rw [okS_spec (h1 i hi)] at this
        exact this
      · cases hg
    · cases hg
  · cases h

theorem ile_f (i : Nat) : ile 0 (Int.ofNat i) = true := decide_eq_true (Int.natCast_nonneg i)

/-! ### Two lists of texts -/

def lp17 (n : Nat) (f : Nat → List UInt8) (g : Nat → List UInt8) : Lp := ⟨[true, true, false, false, true, true, false, false, false, false, false, false, false, false, false, false, false, false, false, false, false, false, false, false, false, false], 0, [false, false, false, false, true, false, false, false, false, false, false, false, false, false, false, false, false, false, false, false, false, false, false, false, false, false], 0, n + 1⟩
def st17 (n : Nat) (f : Nat → List UInt8) (g : Nat → List UInt8) (i : Nat) (j : Nat → V) : St := ⟨[.sl 1 n fun k => .str (f k), .sl 1 n fun k => .str (g k), j 2, j 3, bV false, iV (Int.ofNat i), j 6, j 7, j 8, j 9, j 10, j 11, j 12, j 13, j 14, j 15, j 16, j 17, j 18, j 19, j 20, j 21, j 22, j 23, j 24, j 25], []⟩
def en17e (n : Nat) (f : Nat → List UInt8) (g : Nat → List UInt8) (i : Nat) : Ex × St := (.ex 0, ⟨[.und, .und, .und, .und, bV false, .und, .und, .und, .und, .und, .und, .und, .und, .und, .und, .und, .und, .und, .und, .und, .und, .und, .und, .und, .und, .und], []⟩)
def jk17 (n : Nat) (f : Nat → List UInt8) (g : Nat → List UInt8)  : Nat → V
  | 6 => (.sl 1 n (fun k => (.str (f k))))
  | 7 => (iV (Int.ofNat n))
  | 8 => (.sl 1 n (fun k => (.str (g k))))
  | 9 => (iV (Int.ofNat n))
  | 10 => (bV (bnot (ieq (Int.ofNat n) (Int.ofNat n))))
  | _ => undefV

def sameTextsT : List V → T (V × List Blk)
  | [v, u] => apS v fun n f => apS u fun m g => .br (nbeq n m) (.br (smallN n) (.br (allN n fun i => seq (f i) (g i)) (out (bV true)) .fail) .fail) .fail
  | _ => .fail

theorem ieqN_rfl (a : Int) : ieq a a = true := by simp [ieq]

/-! ### An edge, changed for program order -/

def poE (p : E6) : E6 := ⟨4, false, false, p.src, p.dst, 0⟩
def plE (p : E6) : E6 := match movB p with
  | true => poE p
  | false => p

theorem comm_iff (p : E6) : commB p = true ↔ p.kind = 1 ∨ p.kind = 2 ∨ p.kind = 3 := by
  simp only [commB, band, ile, Bool.and_eq_true, decide_eq_true_eq]
  omega

theorem wf31a (L : Nat → (St → T (Ex × St)) → St → T (Ex × St)) (p : E6) (h0 : ieq (p).kind 1 = true) : (finF (evalF tab ⟨callT tb0, L, Gl⟩ Tryz.f48 [eV p] [])).sem = some ((eV p), []) := by
  exact sem_of_path (ds := [true, true]) (cs := [(ieq (p).kind 1), (ieq (p).kind 1)]) (by kernel_rfl) (by simp only [h0] <;> rfl)

theorem wf31b (L : Nat → (St → T (Ex × St)) → St → T (Ex × St)) (p : E6) (h0 : ieq (p).kind 1 = false) (h1 : ieq (p).kind 2 = true) : (finF (evalF tab ⟨callT tb0, L, Gl⟩ Tryz.f48 [eV p] [])).sem = some ((eV p), []) := by
  exact sem_of_path (ds := [false, true, true]) (cs := [(ieq (p).kind 1), (ieq (p).kind 2), (ieq (p).kind 2)]) (by kernel_rfl) (by simp only [h0, h1] <;> rfl)

theorem wf31c (L : Nat → (St → T (Ex × St)) → St → T (Ex × St)) (p : E6) (h0 : ieq (p).kind 1 = false) (h1 : ieq (p).kind 2 = false) (h2 : ieq (p).kind 3 = true) : (finF (evalF tab ⟨callT tb0, L, Gl⟩ Tryz.f48 [eV p] [])).sem = some ((eV p), []) := by
  exact sem_of_path (ds := [false, false, true]) (cs := [(ieq (p).kind 1), (ieq (p).kind 2), (ieq (p).kind 3)]) (by kernel_rfl) (by simp only [h0, h1, h2] <;> rfl)

theorem wf31d (L : Nat → (St → T (Ex × St)) → St → T (Ex × St)) (p : E6) (h0 : ieq (p).kind 1 = false) (h1 : ieq (p).kind 2 = false) (h2 : ieq (p).kind 3 = false) (h3 : (p).same = true) : (finF (evalF tab ⟨callT tb0, L, Gl⟩ Tryz.f48 [eV p] [])).sem = some ((eV p), []) := by
  exact sem_of_path (ds := [false, false, false, true]) (cs := [(ieq (p).kind 1), (ieq (p).kind 2), (ieq (p).kind 3), (p).same]) (by kernel_rfl) (by simp only [h0, h1, h2, h3] <;> rfl)

theorem wf31e (L : Nat → (St → T (Ex × St)) → St → T (Ex × St)) (p : E6) (h0 : ieq (p).kind 1 = false) (h1 : ieq (p).kind 2 = false) (h2 : ieq (p).kind 3 = false) (h3 : (p).same = false) : (finF (evalF tab ⟨callT tb0, L, Gl⟩ Tryz.f48 [eV p] [])).sem = some ((.agg [(iV 4), (bV Bool.false), (bV Bool.false), (iV (p).src), (iV (p).dst), (iV 0)]), []) := by
  exact sem_of_path (ds := [false, false, false, false]) (cs := [(ieq (p).kind 1), (ieq (p).kind 2), (ieq (p).kind 3), (p).same]) (by kernel_rfl) (by simp only [h0, h1, h2, h3] <;> rfl)

theorem q31 : PureC Tryz.prog Gl 48 (edgeT fun e => eV (plE e)) := by
  refine pureC_intro tabOK mixed Tryz.func48 (by kernel_rfl) (by kernel_rfl) fun vs v h' h => ?_
  obtain ⟨p, rfl, hr⟩ := edgeT_some h
  simp only [Prod.mk.injEq] at hr
  obtain ⟨rfl, rfl⟩ := hr
  have hx := cx_ok tb0_ok []
  refine ⟨_, cxOf Gl tb0 [], _, ArgLE.refl _, rfl, hx.1, hx.2, ?_, RowsLE.refl _⟩
  unfold plE movB
  cases hc : commB p with
  | true =>
    show _ = some (eV p, [])
    have hk := (comm_iff p).1 hc
    cases c1 : ieq p.kind 1 with
    | true => exact wf31a _ p c1
    | false =>
      cases c2 : ieq p.kind 2 with
      | true => exact wf31b _ p c1 c2
      | false =>
        cases c3 : ieq p.kind 3 with
        | true => exact wf31c _ p c1 c2 c3
        | false =>
          simp only [ieq, beq_eq_false_iff_ne] at c1 c2 c3
          omega
  | false =>
    have hk : ¬ (p.kind = 1 ∨ p.kind = 2 ∨ p.kind = 3) := fun h => by rw [(comm_iff p).2 h] at hc; cases hc
    have c1 : ieq p.kind 1 = false := by simp only [ieq, beq_eq_false_iff_ne]; omega
    have c2 : ieq p.kind 2 = false := by simp only [ieq, beq_eq_false_iff_ne]; omega
    have c3 : ieq p.kind 3 = false := by simp only [ieq, beq_eq_false_iff_ne]; omega
    cases hs : p.same with
    | true => exact wf31d _ p c1 c2 c3 hs
    | false => exact wf31e _ p c1 c2 c3 hs

noncomputable def tb35 : List (Nat × (List V → T (V × List Blk))) := (33, edgeT fun e => bV (movB e)) :: []
theorem tb35_ok : AllPure Tryz.prog Gl tb35 := .cons p61 .nil

def lp35 (n : Nat) (f : Nat → E6) : Lp := ⟨[true, false, true, true, true, false, false, false, false, false, false, false, false, false, false, false, false, false, false, false, false, false, false, false, false, false, false, false], 2, [false, false, true, true, false, false, false, false, false, false, false, false, false, false, false, false, false, false, false, false, false, false, false, false, false, false, false, false], 2, n + 1⟩
def st35 (n : Nat) (f : Nat → E6) (b k : Nat) (x : Nat → V) (j : Nat → V) : St := ⟨[.sl 6 n fun k => eV (f k), j 1, .ref 0, .ref 1, iV (Int.ofNat b), j 5, j 6, j 7, j 8, j 9, j 10, j 11, j 12, j 13, j 14, j 15, j 16, j 17, j 18, j 19, j 20, j 21, j 22, j 23, j 24, j 25, j 26, j 27], [.row 38 6 0 (fun _ => .und), .row 38 6 k x]⟩
def en35e (n : Nat) (f : Nat → E6) (b k : Nat) (x : Nat → V) : Ex × St := (.ex 0, ⟨[.und, .und, .ref 0, .ref 1, .und, .und, .und, .und, .und, .und, .und, .und, .und, .und, .und, .und, .und, .und, .und, .und, .und, .und, .und, .und, .und, .und, .und, .und], [.row 38 6 0 (fun _ => .und), .row 38 6 k x]⟩)
noncomputable def body35 (L : Nat → (St → T (Ex × St)) → St → T (Ex × St)) : St → T (Ex × St) := fun st => evalC tab ⟨callT tb35, L, Gl⟩ (loopBody Tryz.f76 0) 0 st
theorem rf35e (L : Nat → (St → T (Ex × St)) → St → T (Ex × St)) (n : Nat) (f : Nat → E6) (b k : Nat) (x : Nat → V)  (j : Nat → V) (h0 : ilt (Int.ofNat b) (Int.ofNat n) = false) : ((body35 L (st35 n f b k x j)).bind fun r => T.leaf (cutR (lp35 n f) r)).sem = some ((.ex 0), ⟨[.und, .und, (.ref 0), (.ref 1), .und, .und, .und, .und, .und, .und, .und, .und, .und, .und, .und, .und, .und, .und, .und, .und, .und, .und, .und, .und, .und, .und, .und, .und], [(.row 38 6 0 (fun _ => .und)), (.row 38 6 k x)]⟩) := by
  exact sem_of_path (ds := [false]) (cs := [(ilt (Int.ofNat b) (Int.ofNat n))]) (by kernel_rfl) (by simp only [h0] <;> rfl)
theorem rf35m (L : Nat → (St → T (Ex × St)) → St → T (Ex × St)) (n : Nat) (f : Nat → E6) (b k : Nat) (x : Nat → V)  (j : Nat → V) (h0 : ilt (Int.ofNat b) (Int.ofNat n) = true) (h18 : ile 0 (Int.ofNat b) = true) (h1 : movB (f b) = true) (h19 : apOK k 1 40 = true) : ((body35 L (st35 n f b k x j)).bind fun r => T.leaf (cutR (lp35 n f) r)).sem = some (.nm, ⟨[(.sl 6 n (fun k => (eV (f k)))), .und, (.ref 0), (.ref 1), (iV (wr IntKind.i64 (iadd (Int.ofNat b) 1))), .und, .und, .und, .und, .und, .und, .und, .und, .und, .und, .und, .und, .und, .und, .und, .und, .und, .und, .und, .und, .und, .und, .und], [(.row 38 6 0 (fun _ => .und)), (.row 38 6 (nadd k 1) (pushGet k x (eV (poE (f b)))))]⟩) := by
  exact sem_of_path (ds := [true, true, true, true]) (cs := [(ilt (Int.ofNat b) (Int.ofNat n)), (band (ile 0 (Int.ofNat b)) (ilt (Int.ofNat b) (Int.ofNat n))), (movB (f b)), (apOK k 1 40)]) (by kernel_rfl) (by simp only [h0, h18, h1, h19] <;> rfl)
theorem rf35n (L : Nat → (St → T (Ex × St)) → St → T (Ex × St)) (n : Nat) (f : Nat → E6) (b k : Nat) (x : Nat → V)  (j : Nat → V) (h0 : ilt (Int.ofNat b) (Int.ofNat n) = true) (h18 : ile 0 (Int.ofNat b) = true) (h1 : movB (f b) = false) (h19 : apOK k 1 40 = true) : ((body35 L (st35 n f b k x j)).bind fun r => T.leaf (cutR (lp35 n f) r)).sem = some (.nm, ⟨[(.sl 6 n (fun k => (eV (f k)))), .und, (.ref 0), (.ref 1), (iV (wr IntKind.i64 (iadd (Int.ofNat b) 1))), .und, .und, .und, .und, .und, .und, .und, .und, .und, .und, .und, .und, .und, .und, .und, .und, .und, .und, .und, .und, .und, .und, .und], [(.row 38 6 0 (fun _ => .und)), (.row 38 6 (nadd k 1) (pushGet k x (eV (f b))))]⟩) := by
  exact sem_of_path (ds := [true, true, false, true]) (cs := [(ilt (Int.ofNat b) (Int.ofNat n)), (band (ile 0 (Int.ofNat b)) (ilt (Int.ofNat b) (Int.ofNat n))), (movB (f b)), (apOK k 1 40)]) (by kernel_rfl) (by simp only [h0, h18, h1, h19] <;> rfl)
def jk35 (n : Nat) (f : Nat → E6)  : Nat → V
  | _ => undefV

theorem wf35 (L : Nat → (St → T (Ex × St)) → St → T (Ex × St)) (p0 : (St → T (Ex × St)) → St → Bool) (n : Nat) (f : Nat → E6) (b k : Nat) (x : Nat → V)  (hp0 : p0 (body35 (onP 0 p0 (en35e n f b k x) L)) (st35 n f 0 0 (fun _ => .und) (jk35 n f )) = true) : (finF (evalF tab ⟨callT tb35, (onP 0 p0 (en35e n f b k x) L), Gl⟩ Tryz.f76 [edgesV n f] [])).sem = some ((.ref 0), [(.row 38 6 k x)]) := by
  exact sem_of_path (ds := [true]) (cs := [(p0 (body35 (onP 0 p0 (en35e n f b k x) L)) (st35 n f 0 0 (fun _ => .und) (jk35 n f )))]) (by kernel_rfl) (by simp only [hp0] <;> rfl)

theorem plE_t {p : E6} (h : movB p = true) : plE p = poE p := by unfold plE; rw [h]
theorem plE_f {p : E6} (h : movB p = false) : plE p = p := by unfold plE; rw [h]
def plX (f : Nat → E6) (i : Nat) : V := eV (plE (f i))

theorem run35 (L : Nat → (St → T (Ex × St)) → St → T (Ex × St)) (n : Nat) (f : Nat → E6) (hn : fitN n = true) : ∀ (d i : Nat) (j : Nat → V) (q : Nat), n = i + d → d < q →
    (iterT (body35 L) (lp35 n f) q (st35 n f i i (pushN (plX f) i) j)).sem = some (en35e n f n n (pushN (plX f) n))
  | 0, i, j, q + 1, h, _ => by
    have : n = i := by omega
    subst this
    exact iter_round (rf35e L n f n n _ j (ofNat_ge (Nat.le_refl _)))
  | d + 1, i, j, q + 1, h, h2 => by
    have hi : i < n := by omega
    have ha : apOK i 1 40 = true := ap_fit hi (Nat.le_refl _) (of_decide_eq_true hn)
    cases hm : movB (f i) with
    | true =>
      have hr := rf35m L n f i i (pushN (plX f) i) j (ofNat_lt hi) (ile_f i) hm ha
      rw [show eV (poE (f i)) = plX f i by unfold plX; rw [plE_t hm]] at hr
      rw [iter_round hr, goOn_nm, succ_wr hi (fit_small hn)]
      exact run35 L n f hn d (i + 1) (fun _ => .und) q (by omega) (by omega)
    | false =>
      have hr := rf35n L n f i i (pushN (plX f) i) j (ofNat_lt hi) (ile_f i) hm ha
      rw [show eV (f i) = plX f i by unfold plX; rw [plE_f hm]] at hr
      rw [iter_round hr, goOn_nm, succ_wr hi (fit_small hn)]
      exact run35 L n f hn d (i + 1) (fun _ => .und) q (by omega) (by omega)

def stripT : List V → T (V × List Blk) := apL1 fun n f => .br (fitN n) (.leaf (.ref 0, [.row 38 6 n fun i => eV (plE (f i))])) .fail

theorem q35 : PureC Tryz.prog Gl 76 stripT := by
  refine pureC_intro tabOK mixed Tryz.func76 (by kernel_rfl) (by kernel_rfl) fun vs v h' h => ?_
  obtain ⟨n, f, ha, h1⟩ := apL1_some h
  obtain ⟨hn, hq⟩ := sem_br_fail h1
  have := sem_leaf hq
  simp only [Prod.mk.injEq] at this
  obtain ⟨rfl, rfl⟩ := this
  have hx := cx_ok tb35_ok [(0, lp35 n f)]
  have hL := loopsBy_le [(0, lp35 n f)]
  exact ⟨_, cxOf Gl tb35 [(0, lp35 n f)], _, ha, rfl, hx.1, hx.2, told_le (onP_le hL hL) _ (wf35 _ _ n f n n (pushN (plX f) n) (isP_true (run35 _ n f hn n 0 _ (n + 1) (by omega) (by omega)))), RowsLE.one fun j hj => (pushN_eq (plX f) n j hj).symm⟩

/-! ### The tables -/

def famRowT : List V → T (V × List Blk)
  | [] => .leaf (.ref 0, [.row 9 1 25 fun i => .str (famS i)])
  | _ => .fail
def bareRowT : List V → T (V × List Blk)
  | [] => .leaf (.ref 0, [.row 9 1 25 fun i => .str (bareS i)])
  | _ => .fail

def lp18 (u : Nat) : Lp := ⟨[true, true, false, true, false, false, false, false, false, false, false, false, false, false, false], 2, [true, true, false, false, false, false, false, false, false, false, false, false, false, false, false], 2, 26⟩
def st18 (u : Nat) (b k : Nat) (x : Nat → V) (j : Nat → V) : St := ⟨[.ref 0, .ref 1, j 2, iV (Int.ofNat b), j 4, j 5, j 6, j 7, j 8, j 9, j 10, j 11, j 12, j 13, j 14], [.row 9 1 0 (fun _ => .und), .row 9 1 k x]⟩
def en18e (u : Nat) (b k : Nat) (x : Nat → V) : Ex × St := (.ex 0, ⟨[.ref 0, .ref 1, .und, .und, .und, .und, .und, .und, .und, .und, .und, .und, .und, .und, .und], [.row 9 1 0 (fun _ => .und), .row 9 1 k x]⟩)
def jk18 (u : Nat)  : Nat → V
  | _ => undefV

def famX (i : Nat) : V := .str (famS i)
theorem wf19 (L : Nat → (St → T (Ex × St)) → St → T (Ex × St)) (u : Nat)  : (finF (evalF tab ⟨callT tb0, L, Gl⟩ Tryz.f74 [] [])).sem = some ((.ref 0), [(.row 9 1 25 (fun i => (.str (famS i))))]) := by
  exact sem_of_path (ds := []) (cs := []) (by kernel_rfl) (by rfl)

theorem q19 : PureC Tryz.prog Gl 74 famRowT := by
  refine pureC_intro tabOK mixed Tryz.func74 (by kernel_rfl) (by kernel_rfl) fun vs v h' h => ?_
  unfold famRowT at h
  split at h
  · have := sem_leaf h
    simp only [Prod.mk.injEq] at this
    obtain ⟨rfl, rfl⟩ := this
    have hx := cx_ok tb0_ok []
    exact ⟨_, cxOf Gl tb0 [], _, ArgLE.refl _, rfl, hx.1, hx.2, wf19 _ 0, RowsLE.refl _⟩
  · cases h

theorem wf57 (L : Nat → (St → T (Ex × St)) → St → T (Ex × St)) (u : Nat)  : (finF (evalF tab ⟨callT tb0, L, Gl⟩ Tryz.f90 [] [])).sem = some ((.ref 0), [(.row 9 1 25 (fun i => (.str (bareS i))))]) := by
  exact sem_of_path (ds := []) (cs := []) (by kernel_rfl) (by rfl)

theorem q57 : PureC Tryz.prog Gl 90 bareRowT := by
  refine pureC_intro tabOK mixed Tryz.func90 (by kernel_rfl) (by kernel_rfl) fun vs v h' h => ?_
  unfold bareRowT at h
  split at h
  · have := sem_leaf h
    simp only [Prod.mk.injEq] at this
    obtain ⟨rfl, rfl⟩ := this
    have hx := cx_ok tb0_ok []
    exact ⟨_, cxOf Gl tb0 [], _, ArgLE.refl _, rfl, hx.1, hx.2, wf57 _ 0, RowsLE.refl _⟩
  · cases h

noncomputable def tb36 : List (Nat × (List V → T (V × List Blk))) := (90, bareRowT) :: (11, psT) :: []
theorem tb36_ok : AllPure Tryz.prog Gl tb36 := .cons q57 <| .cons p41 .nil

theorem wf36 (L : Nat → (St → T (Ex × St)) → St → T (Ex × St)) (n : Int) (h17 : band (ile 0 n) (ilt n 25) = true) (h18 : nlt (toN n) 25 = true) : (finF (evalF tab ⟨callT tb36, L, Gl⟩ Tryz.f77 [iV n] [])).sem = some ((.ref 0), [(.row 38 6 (psN (bareS (toN n))) (fun i => (eV (psG (bareS (toN n)) i))))]) := by
  exact sem_of_path (ds := [true, true]) (cs := [(band (ile 0 n) (ilt n 25)), (nlt (toN n) 25)]) (by kernel_rfl) (by simp only [h17] <;> simp only [h18] <;> rfl)

def in25 (n : Int) : Bool := band (ile 0 n) (ilt n 25)
theorem in25_nat {b : Nat} (h : b < 25) : in25 (Int.ofNat b) = true := ofNat_in (n := 25) h
def bareNT : List V → T (V × List Blk)
  | [.val (.int .i64 n)] => .br (in25 n) (.leaf (.ref 0, [.row 38 6 (psN (bareS (toN n))) fun i => eV (psG (bareS (toN n)) i)])) .fail
  | _ => .fail

theorem q36 : PureC Tryz.prog Gl 77 bareNT := by
  refine pureC_intro tabOK mixed Tryz.func77 (by kernel_rfl) (by kernel_rfl) fun vs v h' h => ?_
  unfold bareNT at h
  split at h
  · rename_i n
    obtain ⟨hn, hq⟩ := sem_br_fail h
    have := sem_leaf hq
    simp only [Prod.mk.injEq] at this
    obtain ⟨rfl, rfl⟩ := this
    have hx := cx_ok tb36_ok []
    refine ⟨_, cxOf Gl tb36 [], _, ArgLE.refl _, rfl, hx.1, hx.2, wf36 _ n hn (decide_eq_true ?_), RowsLE.refl _⟩
    simp only [in25, band, ile, ilt, Bool.and_eq_true, decide_eq_true_eq] at hn
    simp only [toN]
    omega
  · cases h

/-! ### The bare cycle of any name -/

def famI (s : List UInt8) : Option Nat := firstQ (fun b => seq (famS b) s) 25 0
def isFam (s : List UInt8) : Bool := (famI s).isSome
def famK (s : List UInt8) : Nat := (famI s).getD 0
noncomputable def tb15 : List (Nat × (List V → T (V × List Blk))) := (14, psT) :: []
theorem tb15_ok : AllPure Tryz.prog Gl tb15 := .cons p40 .nil
noncomputable def tb16f : List (Nat × (List V → T (V × List Blk))) := (74, famRowT) :: (77, bareNT) :: []
theorem tb16f_ok : AllPure Tryz.prog Gl tb16f := .cons q19 <| .cons q36 .nil
def bareT : List V → T (V × List Blk)
  | [.str s] => .br (isFam s) (.leaf (.tup [.ref 0, iV 0], [.row 38 6 (psN (bareS (famK s))) fun i => eV (psG (bareS (famK s)) i)])) (.leaf (.tup [.ref 0, iV 4], [.row 38 6 0 fun _ => .und]))
  | _ => .fail

def lp15 (s : List UInt8) : Lp := ⟨[true, false, true, true, false, false, false, false, true, false, false, false, false, false, false, false, false, false, false, false, false, false, false, false, false, false, false, false], 1, [false, false, true, true, false, false, false, false, false, false, false, false, false, false, false, false, false, false, false, false, false, false, false, false, false, false, false, false], 2, 26⟩
def st15 (s : List UInt8) (b : Nat) (j : Nat → V) : St := ⟨[.str s, j 1, .ref 0, iV 0, j 4, j 5, j 6, j 7, iV (Int.ofNat b), j 9, j 10, j 11, j 12, j 13, j 14, j 15, j 16, j 17, j 18, j 19, j 20, j 21, j 22, j 23, j 24, j 25, j 26, j 27], [.row 38 6 0 (fun _ => .und)]⟩
def en15e (s : List UInt8) (b : Nat) : Ex × St := (.ex 0, ⟨[.und, .und, .ref 0, iV 0, .und, .und, .und, .und, .und, .und, .und, .und, .und, .und, .und, .und, .und, .und, .und, .und, .und, .und, .und, .und, .und, .und, .und, .und], [.row 38 6 0 (fun _ => .und)]⟩)
def en15r (s : List UInt8) (b : Nat) : Ex × St := (.rt, ⟨[.und, .und, .ref 1, iV 0, .und, .und, .und, .und, .und, .und, .und, .und, .und, .und, .und, .und, .und, .und, .und, .und, .und, .und, .und, .und, .und, .und, .und, .und], [.row 38 6 0 (fun _ => .und), .row 38 6 (psN (bareS b)) (fun i => (eV (psG (bareS b) i)))]⟩)
def jk15 (s : List UInt8)  : Nat → V
  | _ => undefV

def lp16 (s : List UInt8) : Lp := ⟨[true, false, true, true, true, true, false, false, false, false, false, false, false, false, false, false, false, false, false, false, false], 2, [false, false, true, true, false, false, false, false, false, false, false, false, false, false, false, false, false, false, false, false, false], 3, 26⟩
def st16 (s : List UInt8) (b : Nat) (j : Nat → V) : St := ⟨[.str s, j 1, .ref 0, iV 0, .ref 1, iV (Int.ofNat b), j 6, j 7, j 8, j 9, j 10, j 11, j 12, j 13, j 14, j 15, j 16, j 17, j 18, j 19, j 20], [.row 38 6 0 (fun _ => .und), .row 9 1 25 (fun i => (.str (famS i)))]⟩
def en16e (s : List UInt8) (b : Nat) : Ex × St := (.ex 0, ⟨[.und, .und, .ref 0, iV 0, .und, .und, .und, .und, .und, .und, .und, .und, .und, .und, .und, .und, .und, .und, .und, .und, .und], [.row 38 6 0 (fun _ => .und), .row 9 1 25 (fun i => (.str (famS i)))]⟩)
def en16r (s : List UInt8) (b : Nat) : Ex × St := (.rt, ⟨[.und, .und, .ref 2, iV 0, .und, .und, .und, .und, .und, .und, .und, .und, .und, .und, .und, .und, .und, .und, .und, .und, .und], [.row 38 6 0 (fun _ => .und), .row 9 1 25 (fun i => (.str (famS i))), .row 38 6 (psN (bareS b)) (fun i => (eV (psG (bareS b) i)))]⟩)
def jk16 (s : List UInt8)  : Nat → V
  | 6 => (.ref 1)
  | _ => undefV

end Go.Proofs.YtkcbdemfmjciiaaGreatDoor.Fa


