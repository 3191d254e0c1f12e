/-
  Marked, Grown, Heaped: of edges and of numbers. No conditions.
-/
import Derived.Test.YtkcbdemfmjciiaaDoorCyT
import Derived.Test.YtkcbdemfmjciiaaDoorSyU
namespace Go.Proofs.YtkcbdemfmjciiaaDoor.Ed
open Go.Sy Go


/-! ### Callees that write a row of the caller's -/

theorem toldH_le {τ : List Ty} {call : FuncId → List V → List Blk → T (V × List Blk)} {G : Nat → V} {fn : Func} {vs : List V} {H : List Blk} {L L' : Nat → (St → T (Ex × St)) → St → T (Ex × St)}
    (h : LLe L L') : TLe (evalF τ ⟨call, L, G⟩ fn vs H) (evalF τ ⟨call, L', G⟩ fn vs H) := by
  unfold evalF
  cases fn.body with
  | none => exact TLe.refl _
  | some c => exact TLe.bind (evalC_le (Γ := ⟨call, L, G⟩) h c 0 _) fun _ => TLe.refl _

def cxM (G : Nat → V) (mt : List (Nat × (List V → List Blk → T (V × List Blk)))) (tbl : List (Nat × (List V → T (V × List Blk)))) (loops : List (Nat × Lp)) : Cx := ⟨callM mt tbl, loopsBy loops, G⟩

theorem cxM_ok {P : Program} {G : Nat → V} {mt : List (Nat × (List V → List Blk → T (V × List Blk)))} {tbl : List (Nat × (List V → T (V × List Blk)))} (hm : AllMut P G mt) (h : AllPure P G tbl) (loops : List (Nat × Lp)) : CallOK P (cxM G mt tbl loops).base ∧ LoopOK (cxM G mt tbl loops) :=
  ⟨callM_ok rfl hm h, fun id f st r hr => by
    have hr : (loopsBy loops id f st).sem = some r := hr
    unfold loopsBy at hr
    split at hr
    · exact ⟨_, _, _, LE.refl _, hr⟩
    · cases hr⟩

noncomputable def tb43 : List (Nat × (List V → T (V × List Blk))) := [(29, markT)]
theorem tb43_ok : AllPure Tryd.prog Gl tb43 := .cons p85 .nil

theorem beq_no {i k : Nat} (h : i ≠ k) : Nat.beq i k = false := by
  cases hb : Nat.beq i k
  · rfl
  · exact absurd (Nat.eq_of_beq_eq_true hb) h

def updA {α : Type} (z : Nat → α) (i : Nat) (e : α) : Nat → α := fun k => bif Nat.beq k i then e else z k
def fillA {α : Type} (y : Nat → α) (e : α) : Nat → Nat → α
  | 0 => y
  | i + 1 => updA (fillA y e i) i e
theorem fillA_lt {α : Type} (y : Nat → α) (e : α) : ∀ i j, j < i → fillA y e i j = e
  | i + 1, j, h => by
    show (bif Nat.beq j i then e else fillA y e i j) = e
    by_cases hj : j = i
    · rw [hj, Nat.beq_refl]; rfl
    · rw [beq_no hj]; exact fillA_lt y e i j (by omega)
theorem set_eV (z : Nat → E6) (i : Nat) (e : E6) : setGet (fun k => eV (z k)) i (eV e) = fun k => eV (updA z i e k) := by
  funext k
  rw [setGet_eq]
  unfold updA
  cases Nat.beq k i <;> rfl
theorem set_iV (z : Nat → Int) (i : Nat) (e : Int) : setGet (fun k => iV (z k)) i (iV e) = fun k => iV (updA z i e k) := by
  funext k
  rw [setGet_eq]
  unfold updA
  cases Nat.beq k i <;> rfl
def pushM (g : Nat → V) (n : Nat) (e : V) : Nat → Nat → V
  | 0 => g
  | i + 1 => pushGet (n + i) (pushM g n e i) e
theorem ile_0 (i : Nat) : ile 0 (Int.ofNat i) = true := decide_eq_true (Int.natCast_nonneg i)

def ent43 (n : Nat) (y : Nat → E6) (k : Int)  : St := ⟨[(.ref 0), (iV k), undefV, undefV, (iV 0), undefV, undefV, undefV, undefV, undefV, undefV, undefV, undefV, undefV, undefV, undefV, undefV], [(.xrow Bool.false 43 6 n (fun i => (eV (y i))))]⟩

def lp43 (n : Nat) (y : Nat → E6) (k : Int) : Lp := ⟨[true, true, false, false, true, false, false, false, false, false, false, false, false, false, false, false, false], 1, [false, false, false, false, false, false, false, false, false, false, false, false, false, false, false, false, false], 1, n + 1⟩
def st43 (n : Nat) (y : Nat → E6) (k : Int) (i : Nat) (z : Nat → E6) (j : Nat → V) : St := ⟨[.ref 0, iV k, j 2, j 3, iV (Int.ofNat i), j 5, j 6, j 7, j 8, j 9, j 10, j 11, j 12, j 13, j 14, j 15, j 16], [.xrow false 43 6 n (fun i => eV (z i))]⟩
def en43e (n : Nat) (y : Nat → E6) (k : Int) (i : Nat) (z : Nat → E6) : Ex × St := (.ex 0, ⟨[.und, .und, .und, .und, .und, .und, .und, .und, .und, .und, .und, .und, .und, .und, .und, .und, .und], [.xrow false 43 6 n (fun i => eV (z i))]⟩)
noncomputable def body43 (L : Nat → (St → T (Ex × St)) → St → T (Ex × St)) : St → T (Ex × St) := fun st => evalC tab ⟨callT tb43, L, Gl⟩ (loopBody Tryd.f24 0) 0 st
theorem rc43e (L : Nat → (St → T (Ex × St)) → St → T (Ex × St)) (n : Nat) (y : Nat → E6) (k : Int) (i : Nat) (z : Nat → E6)  (j : Nat → V) (h0 : ilt (Int.ofNat i) (Int.ofNat n) = false) : ((body43 L (st43 n y k i z j)).bind fun r => T.leaf (cutR (lp43 n y k) r)).sem = some ((.ex 0), ⟨[.und, .und, .und, .und, .und, .und, .und, .und, .und, .und, .und, .und, .und, .und, .und, .und, .und], [(.xrow Bool.false 43 6 n (fun i => (eV (z i))))]⟩) := by
  exact sem_of_path (ds := [false]) (cs := [(ilt (Int.ofNat i) (Int.ofNat n))]) (by kernel_rfl) (by simp only [h0] <;> rfl)
theorem rc43n (L : Nat → (St → T (Ex × St)) → St → T (Ex × St)) (n : Nat) (y : Nat → E6) (k : Int) (i : Nat) (z : Nat → E6)  (j : Nat → V) (h0 : ilt (Int.ofNat i) (Int.ofNat n) = true) (h10 : ile 0 (Int.ofNat i) = true) (h11 : nlt i n = true) : ((body43 L (st43 n y k i z j)).bind fun r => T.leaf (cutR (lp43 n y k) r)).sem = some (.nm, ⟨[(.ref 0), (iV k), .und, .und, (iV (wr IntKind.i64 (iadd (Int.ofNat i) 1))), .und, .und, .und, .und, .und, .und, .und, .und, .und, .und, .und, .und], [(.xrow Bool.false 43 6 n (setGet (fun i => eV (z i)) i (eV (markI (wr IntKind.i64 (iadd 500 k))))))]⟩) := by
  exact sem_of_path (ds := [true, true, true]) (cs := [(ilt (Int.ofNat i) (Int.ofNat n)), (band (ile 0 (Int.ofNat i)) (ilt (Int.ofNat i) (Int.ofNat n))), (nlt i n)]) (by kernel_rfl) (by simp only [h0, h10, h11] <;> rfl)

theorem wc43 (L : Nat → (St → T (Ex × St)) → St → T (Ex × St)) (p0 : (St → T (Ex × St)) → St → Bool) (n : Nat) (y : Nat → E6) (k : Int) (z : Nat → E6)  (hp0 : p0 (body43 (onP 0 p0 (en43e n y k n z) L)) (ent43 n y k) = true) : (evalF tab ⟨callT tb43, (onP 0 p0 (en43e n y k n z) L), Gl⟩ Tryd.f24 [.ref 0, iV k] [.xrow false 43 6 n (fun i => eV (y i))]).sem = some ((.tup []), [(.xrow Bool.false 43 6 n (fun i => (eV (z i))))]) := by
  exact sem_of_path (ds := [true]) (cs := [(p0 (body43 (onP 0 p0 (en43e n y k n z) L)) (ent43 n y k))]) (by kernel_rfl) (by simp only [hp0] <;> rfl)
def ent44 (n : Nat) (g : Nat → V) (k : Int)  : St := ⟨[(.ref 0), (iV k), undefV, undefV, (iV 0), undefV, undefV, undefV, undefV, undefV, undefV, undefV, undefV, undefV, undefV], [(.xrow Bool.true 43 6 n g)]⟩

def lp44 (n : Nat) (g : Nat → V) (k : Int) : Lp := ⟨[true, true, false, false, true, false, false, false, false, false, false, false, false, false, false], 1, [false, false, false, false, false, false, false, false, false, false, false, false, false, false, false], 1, 21⟩
def st44 (n : Nat) (g : Nat → V) (k : Int) (i m : Nat) (x : Nat → V) (j : Nat → V) : St := ⟨[.ref 0, iV k, j 2, j 3, iV (Int.ofNat i), j 5, j 6, j 7, j 8, j 9, j 10, j 11, j 12, j 13, j 14], [.xrow true 43 6 m x]⟩
def en44e (n : Nat) (g : Nat → V) (k : Int) (i m : Nat) (x : Nat → V) : Ex × St := (.ex 0, ⟨[.und, .und, .und, .und, .und, .und, .und, .und, .und, .und, .und, .und, .und, .und, .und], [.xrow true 43 6 m x]⟩)
noncomputable def body44 (L : Nat → (St → T (Ex × St)) → St → T (Ex × St)) : St → T (Ex × St) := fun st => evalC tab ⟨callT tb43, L, Gl⟩ (loopBody Tryd.f25 0) 0 st
theorem rc44e (L : Nat → (St → T (Ex × St)) → St → T (Ex × St)) (n : Nat) (g : Nat → V) (k : Int) (i m : Nat) (x : Nat → V)  (j : Nat → V) (h0 : ilt (Int.ofNat i) 20 = false) : ((body44 L (st44 n g k i m x j)).bind fun r => T.leaf (cutR (lp44 n g k) r)).sem = some ((.ex 0), ⟨[.und, .und, .und, .und, .und, .und, .und, .und, .und, .und, .und, .und, .und, .und, .und], [(.xrow Bool.true 43 6 m x)]⟩) := by
  exact sem_of_path (ds := [false]) (cs := [(ilt (Int.ofNat i) 20)]) (by kernel_rfl) (by simp only [h0] <;> rfl)
theorem rc44n (L : Nat → (St → T (Ex × St)) → St → T (Ex × St)) (n : Nat) (g : Nat → V) (k : Int) (i m : Nat) (x : Nat → V)  (j : Nat → V) (h0 : ilt (Int.ofNat i) 20 = true) (h10 : apOK m 1 40 = true) : ((body44 L (st44 n g k i m x j)).bind fun r => T.leaf (cutR (lp44 n g k) r)).sem = some (.nm, ⟨[(.ref 0), (iV k), .und, .und, (iV (wr IntKind.i64 (iadd (Int.ofNat i) 1))), .und, .und, .und, .und, .und, .und, .und, .und, .und, .und], [(.xrow Bool.true 43 6 (nadd m 1) (pushGet m x (eV (markI (wr IntKind.i64 (iadd 9000 k))))))]⟩) := by
  exact sem_of_path (ds := [true, true]) (cs := [(ilt (Int.ofNat i) 20), (apOK m 1 40)]) (by kernel_rfl) (by simp only [h0, h10] <;> rfl)

theorem wc44 (L : Nat → (St → T (Ex × St)) → St → T (Ex × St)) (p0 : (St → T (Ex × St)) → St → Bool) (n : Nat) (g : Nat → V) (k : Int) (m : Nat) (x : Nat → V)  (hp0 : p0 (body44 (onP 0 p0 (en44e n g k 20 m x) L)) (ent44 n g k) = true) : (evalF tab ⟨callT tb43, (onP 0 p0 (en44e n g k 20 m x) L), Gl⟩ Tryd.f25 [.ref 0, iV k] [.xrow true 43 6 n g]).sem = some ((.tup []), [(.xrow Bool.true 43 6 m x)]) := by
  exact sem_of_path (ds := [true]) (cs := [(p0 (body44 (onP 0 p0 (en44e n g k 20 m x) L)) (ent44 n g k))]) (by kernel_rfl) (by simp only [hp0] <;> rfl)
def ent45 (n : Nat) (g : Nat → V) (k : Int)  : St := ⟨[(.ref 0), (iV k), undefV, undefV, (.ref 1), (iV 0), (.ref 1), undefV, undefV, undefV, undefV, undefV, undefV, undefV, undefV, undefV, undefV, undefV, undefV, undefV], [(.xrow Bool.true 43 6 n g), (.row 43 6 60 (fun _ => (.agg [(iV 0), (bV Bool.false), (bV Bool.false), (iV 0), (iV 0), (iV 0)])))]⟩

def lp45 (n : Nat) (g : Nat → V) (k : Int) : Lp := ⟨[true, true, false, false, true, true, false, false, false, false, false, false, false, false, false, false, false, false, false, false], 2, [true, false, false, false, true, false, false, false, false, false, false, false, false, false, false, false, false, false, false, false], 2, 61⟩
def st45 (n : Nat) (g : Nat → V) (k : Int) (i : Nat) (z : Nat → E6) (j : Nat → V) : St := ⟨[.ref 0, iV k, j 2, j 3, .ref 1, iV (Int.ofNat i), j 6, j 7, j 8, j 9, j 10, j 11, j 12, j 13, j 14, j 15, j 16, j 17, j 18, j 19], [.xrow true 43 6 n g, .row 43 6 60 (fun i => eV (z i))]⟩
def en45e (n : Nat) (g : Nat → V) (k : Int) (i : Nat) (z : Nat → E6) : Ex × St := (.ex 0, ⟨[.ref 0, .und, .und, .und, .ref 1, .und, .und, .und, .und, .und, .und, .und, .und, .und, .und, .und, .und, .und, .und, .und], [.xrow true 43 6 n g, .row 43 6 60 (fun i => eV (z i))]⟩)
theorem run43 (L : Nat → (St → T (Ex × St)) → St → T (Ex × St)) (n : Nat) (y : Nat → E6) (k : Int) (hn : n ≤ 4611686018427387904) : ∀ (d i : Nat) (j : Nat → V) (q : Nat), n = i + d → d < q →
    (iterT (body43 L) (lp43 n y k) q (st43 n y k i (fillA y (markI (wr IntKind.i64 (iadd 500 k))) i) j)).sem = some (en43e n y k n (fillA y (markI (wr IntKind.i64 (iadd 500 k))) n))
  | 0, i, j, q + 1, h, _ => by
    have : n = i := by omega
    subst this
    exact iter_round (rc43e L n y k n _ j (ofNat_ge (Nat.le_refl _)))
  | d + 1, i, j, q + 1, h, h2 => by
    have hi : i < n := by omega
    have h1 := rc43n L n y k i (fillA y (markI (wr IntKind.i64 (iadd 500 k))) i) j (ofNat_lt hi) (ile_0 i) (decide_eq_true hi)
    rw [set_eV] at h1
    rw [iter_round h1, goOn_nm, succ_wr hi (by omega)]
    exact run43 L n y k hn d (i + 1) (fun _ => .und) q (by omega) (by omega)

theorem ent43_eq (n : Nat) (y : Nat → E6) (k : Int) : ent43 n y k = st43 n y k 0 y (fun i => nth (ent43 n y k).t i) := by kernel_rfl

/-- What it leaves: marks. -/
def markE (n : Nat) (g : Nat → V) : List V → T (Nat → V)
  | [.val (.int .i64 k)] => .br (smallN n) (.br (allN n fun i => okE (g i)) (.leaf fun _ => eV (markI (wr IntKind.i64 (iadd 500 k)))) .fail) .fail
  | _ => .fail

theorem m43 : MutOK Tryd.prog Gl 24 (markM 43 6 markE) := by
  refine markM_ok tabOK mixed Tryd.func24 (by kernel_rfl) (by kernel_rfl) fun n g vs g' h => ?_
  unfold markE at h
  split at h
  · rename_i k
    obtain ⟨hn, h⟩ := sem_br_fail h
    obtain ⟨hg, h⟩ := sem_br_fail h
    have := sem_leaf h
    subst this
    have hn : n ≤ 4611686018427387904 := of_decide_eq_true hn
    have hx := cx_ok tb43_ok [(0, lp43 n (fun i => edE (g i)) k)]
    have hL := loopsBy_le [(0, lp43 n (fun i => edE (g i)) k)]
    have h0 : ∀ L, (loopsBy [(0, lp43 n (fun i => edE (g i)) k)] 0 (body43 L) (ent43 n (fun i => edE (g i)) k)).sem = some (en43e n (fun i => edE (g i)) k n (fillA (fun i => edE (g i)) (markI (wr IntKind.i64 (iadd 500 k))) n)) := fun L => by
      rw [ent43_eq]
      exact run43 L n (fun i => edE (g i)) k hn n 0 _ (n + 1) (by omega) (by omega)
    exact ⟨rfl, fun _ _ => rfl, cxOf Gl tb43 [(0, lp43 n (fun i => edE (g i)) k)], rfl, hx.1, hx.2, _, _, _, fun i hi => (okE_spec (allN_iff.1 hg i hi)).symm,
      toldH_le (onP_le hL hL) _ (wc43 _ _ n (fun i => edE (g i)) k (fillA (fun i => edE (g i)) (markI (wr IntKind.i64 (iadd 500 k))) n) (isP_true (h0 _))), rfl, fun i hi => by show eV _ = eV _; rw [fillA_lt _ _ n i hi]⟩
  · cases h

theorem run44 (L : Nat → (St → T (Ex × St)) → St → T (Ex × St)) (n : Nat) (g : Nat → V) (k : Int) (h8 : (n + 60) * 40 ≤ 140737488355328) (c : Nat) (hc : c = 20) : ∀ (d i : Nat) (j : Nat → V) (q : Nat), c = i + d → d < q →
    (iterT (body44 L) (lp44 n g k) q (st44 n g k i (n + i) (pushM g n (eV (markI (wr IntKind.i64 (iadd 9000 k)))) i) j)).sem = some (en44e n g k c (n + c) (pushM g n (eV (markI (wr IntKind.i64 (iadd 9000 k)))) c))
  | 0, i, j, q + 1, h, _ => by
    have : c = i := by omega
    subst this
    have hl : ilt (Int.ofNat c) 20 = false := by rw [show (20 : Int) = Int.ofNat 20 from rfl, ilt_nat, decide_eq_false (by omega)]
    exact iter_round (rc44e L n g k c (n + c) _ j hl)
  | d + 1, i, j, q + 1, h, h2 => by
    have hl : ilt (Int.ofNat i) 20 = true := by rw [show (20 : Int) = Int.ofNat 20 from rfl, ilt_nat, decide_eq_true (by omega)]
    have h9 : (n + i + 1) * 40 ≤ 140737488355328 := Nat.le_trans (Nat.mul_le_mul_right 40 (show n + i + 1 ≤ n + 60 by omega)) h8
    have ha : apOK (n + i) 1 40 = true := decide_eq_true h9
    have h1 := rc44n L n g k i (n + i) (pushM g n (eV (markI (wr IntKind.i64 (iadd 9000 k)))) i) j hl ha
    rw [iter_round h1, goOn_nm, succ_wr (show i < 20 by omega) (by decide)]
    exact run44 L n g k h8 c hc d (i + 1) (fun _ => .und) q (by omega) (by omega)

theorem ent44_eq (n : Nat) (g : Nat → V) (k : Int) : ent44 n g k = st44 n g k 0 (n + 0) g (fun i => nth (ent44 n g k).t i) := by kernel_rfl

def growE (n : Nat) (_ : Nat → V) : List V → T Unit
  | [.val (.int .i64 _)] => .br (apOK n 60 40) (.leaf ()) .fail
  | _ => .fail

theorem m44 : MutOK Tryd.prog Gl 25 (growM 43 6 growE) := by
  refine growM_ok tabOK mixed Tryd.func25 (by kernel_rfl) (by kernel_rfl) fun n g vs u h => ?_
  unfold growE at h
  split at h
  · rename_i k
    obtain ⟨hn, h⟩ := sem_br_fail h
    have h8 : (n + 60) * 40 ≤ 140737488355328 := of_decide_eq_true hn
    have hx := cx_ok tb43_ok [(0, lp44 n g k)]
    have hL := loopsBy_le [(0, lp44 n g k)]
    have h0 : ∀ L, (loopsBy [(0, lp44 n g k)] 0 (body44 L) (ent44 n g k)).sem = some (en44e n g k 20 (n + 20) (pushM g n (eV (markI (wr IntKind.i64 (iadd 9000 k)))) 20)) := fun L => by
      rw [ent44_eq]
      exact run44 L n g k h8 20 rfl 20 0 _ 21 rfl (by omega)
    exact ⟨rfl, cxOf Gl tb43 [(0, lp44 n g k)], rfl, hx.1, hx.2, _, toldH_le (onP_le hL hL) _ (wc44 _ _ n g k (n + 20) (pushM g n (eV (markI (wr IntKind.i64 (iadd 9000 k)))) 20) (isP_true (h0 _)))⟩
  · cases h

theorem ent45_eq (n : Nat) (g : Nat → V) (k : Int) : ent45 n g k = st45 n g k 0 (fun _ => zeroE) (fun i => nth (ent45 n g k).t i) := by kernel_rfl

def ent56 (n : Nat) (y : Nat → Int) (k : Int)  : St := ⟨[(.ref 0), (iV k), undefV, undefV, (iV 0), undefV, undefV, undefV, undefV, undefV, undefV, undefV, undefV, undefV, undefV, undefV], [(.xrow Bool.false 3 1 n (fun i => (iV (y i))))]⟩

def lp56 (n : Nat) (y : Nat → Int) (k : Int) : Lp := ⟨[true, true, false, false, true, false, false, false, false, false, false, false, false, false, false, false], 1, [false, false, false, false, false, false, false, false, false, false, false, false, false, false, false, false], 1, n + 1⟩
def st56 (n : Nat) (y : Nat → Int) (k : Int) (i : Nat) (z : Nat → Int) (j : Nat → V) : St := ⟨[.ref 0, iV k, j 2, j 3, iV (Int.ofNat i), j 5, j 6, j 7, j 8, j 9, j 10, j 11, j 12, j 13, j 14, j 15], [.xrow false 3 1 n (fun i => iV (z i))]⟩
def en56e (n : Nat) (y : Nat → Int) (k : Int) (i : Nat) (z : Nat → Int) : Ex × St := (.ex 0, ⟨[.und, .und, .und, .und, .und, .und, .und, .und, .und, .und, .und, .und, .und, .und, .und, .und], [.xrow false 3 1 n (fun i => iV (z i))]⟩)
def ent57 (n : Nat) (g : Nat → V) (k : Int)  : St := ⟨[(.ref 0), (iV k), undefV, undefV, (iV 0), undefV, undefV, undefV, undefV, undefV, undefV, undefV, undefV, undefV], [(.xrow Bool.true 3 1 n g)]⟩

def lp57 (n : Nat) (g : Nat → V) (k : Int) : Lp := ⟨[true, true, false, false, true, false, false, false, false, false, false, false, false, false], 1, [false, false, false, false, false, false, false, false, false, false, false, false, false, false], 1, 21⟩
def st57 (n : Nat) (g : Nat → V) (k : Int) (i m : Nat) (x : Nat → V) (j : Nat → V) : St := ⟨[.ref 0, iV k, j 2, j 3, iV (Int.ofNat i), j 5, j 6, j 7, j 8, j 9, j 10, j 11, j 12, j 13], [.xrow true 3 1 m x]⟩
def en57e (n : Nat) (g : Nat → V) (k : Int) (i m : Nat) (x : Nat → V) : Ex × St := (.ex 0, ⟨[.und, .und, .und, .und, .und, .und, .und, .und, .und, .und, .und, .und, .und, .und], [.xrow true 3 1 m x]⟩)
def ent58 (n : Nat) (g : Nat → V) (k : Int)  : St := ⟨[(.ref 0), (iV k), undefV, undefV, (.ref 1), (iV 0), (.ref 1), undefV, undefV, undefV, undefV, undefV, undefV, undefV, undefV, undefV, undefV, undefV, undefV], [(.xrow Bool.true 3 1 n g), (.row 3 1 80 (fun _ => (iV 0)))]⟩

def lp58 (n : Nat) (g : Nat → V) (k : Int) : Lp := ⟨[true, true, false, false, true, true, false, false, false, false, false, false, false, false, false, false, false, false, false], 2, [true, false, false, false, true, false, false, false, false, false, false, false, false, false, false, false, false, false, false], 2, 81⟩
def st58 (n : Nat) (g : Nat → V) (k : Int) (i : Nat) (z : Nat → Int) (j : Nat → V) : St := ⟨[.ref 0, iV k, j 2, j 3, .ref 1, iV (Int.ofNat i), j 6, j 7, j 8, j 9, j 10, j 11, j 12, j 13, j 14, j 15, j 16, j 17, j 18], [.xrow true 3 1 n g, .row 3 1 80 (fun i => iV (z i))]⟩
def en58e (n : Nat) (g : Nat → V) (k : Int) (i : Nat) (z : Nat → Int) : Ex × St := (.ex 0, ⟨[.ref 0, .und, .und, .und, .ref 1, .und, .und, .und, .und, .und, .und, .und, .und, .und, .und, .und, .und, .und, .und], [.xrow true 3 1 n g, .row 3 1 80 (fun i => iV (z i))]⟩)
theorem ent56_eq (n : Nat) (y : Nat → Int) (k : Int) : ent56 n y k = st56 n y k 0 y (fun i => nth (ent56 n y k).t i) := by kernel_rfl

/-- What it leaves: marks. -/
def markNI (n : Nat) (g : Nat → V) : List V → T (Nat → V)
  | [.val (.int .i64 k)] => .br (smallN n) (.br (allN n fun i => okI (g i)) (.leaf fun _ => iV (wr IntKind.i64 (isub (-1000000) k))) .fail) .fail
  | _ => .fail

theorem ent57_eq (n : Nat) (g : Nat → V) (k : Int) : ent57 n g k = st57 n g k 0 (n + 0) g (fun i => nth (ent57 n g k).t i) := by kernel_rfl

def growI (n : Nat) (_ : Nat → V) : List V → T Unit
  | [.val (.int .i64 _)] => .br (apOK n 80 8) (.leaf ()) .fail
  | _ => .fail

theorem ent58_eq (n : Nat) (g : Nat → V) (k : Int) : ent58 n g k = st58 n g k 0 (fun _ => 0) (fun i => nth (ent58 n g k).t i) := by kernel_rfl

#print axioms m43
end Go.Proofs.YtkcbdemfmjciiaaDoor.Ed


