/-
  Layer 4: which edges lead to other threads and locations, how many; whether all edges may be. No conditions.
-/
import Derived.Test.YtkcbdemfmjciiaaGreatDoorEdL
namespace Go.Proofs.YtkcbdemfmjciiaaGreatDoor.Ed
open Go.Sy

def commB (e : E6) : Bool := band (ile 1 e.kind) (ile e.kind 3)
def outB (e : E6) : Bool := band (commB e) e.ext
def movB (e : E6) : Bool := band (bnot (commB e)) (bnot e.same)

theorem tree108 (e : E6) : (finF (evalF tab (cxOf Gl [] []) Tryz.f79 [eV e] [])).sem = (sel (ile 1 (e).kind) (sel (ile 1 (e).kind) (sel (ile 1 (e).kind) (sel (ile 1 (e).kind) (some ((bV (ile (e).kind 3)), [])) (some ((bV Bool.false), []))) (sel (ile 1 (e).kind) (some (undefV, [])) (some ((bV Bool.false), [])))) (sel (ile 1 (e).kind) none (sel (ile 1 (e).kind) (some (undefV, [])) (some ((bV Bool.false), []))))) (sel (ile 1 (e).kind) none (sel (ile 1 (e).kind) none (sel (ile 1 (e).kind) (some (undefV, [])) (some ((bV Bool.false), [])))))) := by kernel_rfl
theorem p108 : PureC Tryz.prog Gl 79 (edgeT fun e => bV (commB e)) := by
  refine PureC.congr (pureC_body tabOK mixed Tryz.func79 (by kernel_rfl) (by kernel_rfl) (Γ := cxOf Gl [] []) (cx_ok AllPure.nil _)) fun vs r h => ?_
  obtain ⟨e, rfl, rfl⟩ := edgeT_some h
  refine (tree108 e).trans ?_
  unfold commB
  cases ile 1 e.kind <;> rfl

theorem ofNat_0 (i : Nat) : ile 0 (Int.ofNat i) = true := le_true (by simp)

noncomputable def tb88 : List (Nat × (List V → T (V × List Blk))) := (79, edgeT fun e => bV (commB e)) :: []
theorem tb88_ok : AllPure Tryz.prog Gl tb88 := .cons p108 .nil
theorem tree88 (e : E6) : (finF (evalF tab (cxOf Gl tb88 []) Tryz.f41 [eV e] [])).sem = (sel (commB e) (sel (commB e) (sel (commB e) (some ((bV (e).ext), [])) (some ((bV Bool.false), []))) (sel (commB e) (some (undefV, [])) (some ((bV Bool.false), [])))) (sel (commB e) none (sel (commB e) (some (undefV, [])) (some ((bV Bool.false), []))))) := by kernel_rfl
theorem p88 : PureC Tryz.prog Gl 41 (edgeT fun e => bV (outB e)) := by
  refine PureC.congr (pureC_body tabOK mixed Tryz.func41 (by kernel_rfl) (by kernel_rfl) (Γ := cxOf Gl tb88 []) (cx_ok tb88_ok _)) fun vs r h => ?_
  obtain ⟨e, rfl, rfl⟩ := edgeT_some h
  refine (tree88 e).trans ?_
  unfold outB
  cases commB e <;> rfl
theorem tree89 (e : E6) : (finF (evalF tab (cxOf Gl tb88 []) Tryz.f42 [eV e] [])).sem = (sel (bnot (commB e)) (sel (bnot (commB e)) (sel (bnot (commB e)) (sel (bnot (commB e)) (some ((bV (bnot (e).same)), [])) (some ((bV Bool.false), []))) (sel (bnot (commB e)) (some (undefV, [])) (some ((bV Bool.false), [])))) (sel (bnot (commB e)) none (sel (bnot (commB e)) (some (undefV, [])) (some ((bV Bool.false), []))))) (sel (bnot (commB e)) none (sel (bnot (commB e)) none (sel (bnot (commB e)) (some (undefV, [])) (some ((bV Bool.false), [])))))) := by kernel_rfl
theorem p89 : PureC Tryz.prog Gl 42 (edgeT fun e => bV (movB e)) := by
  refine PureC.congr (pureC_body tabOK mixed Tryz.func42 (by kernel_rfl) (by kernel_rfl) (Γ := cxOf Gl tb88 []) (cx_ok tb88_ok _)) fun vs r h => ?_
  obtain ⟨e, rfl, rfl⟩ := edgeT_some h
  refine (tree89 e).trans ?_
  unfold movB
  cases commB e <;> rfl

theorem commB_eq (e : E6) : commB e = bor (ieq e.kind 1) (bor (ieq e.kind 2) (ieq e.kind 3)) := by
  unfold commB
  rw [Bool.eq_iff_iff]
  simp [band, bor, ile, ieq]
  omega

theorem tree60 (e : E6) : (finF (evalF tab (cxOf Gl [] []) Tryz.f32 [eV e] [])).sem = (sel (ieq (e).kind 1) (sel (ieq (e).kind 1) (sel (ieq (e).kind 1) (sel (ieq (e).kind 1) (some ((bV (e).ext), [])) none) none) none) (sel (ieq (e).kind 1) (sel (ieq (e).kind 1) (sel (ieq (e).kind 1) (some ((bV (e).ext), [])) none) none) (sel (ieq (e).kind 1) (sel (ieq (e).kind 1) (some ((bV (e).ext), [])) none) (sel (ieq (e).kind 1) (some ((bV (e).ext), [])) (sel (ieq (e).kind 2) (sel (ieq (e).kind 2) (sel (ieq (e).kind 2) (sel (ieq (e).kind 2) (some ((bV (e).ext), [])) none) none) none) (sel (ieq (e).kind 2) (sel (ieq (e).kind 2) (sel (ieq (e).kind 2) (some ((bV (e).ext), [])) none) none) (sel (ieq (e).kind 2) (sel (ieq (e).kind 2) (some ((bV (e).ext), [])) none) (sel (ieq (e).kind 2) (some ((bV (e).ext), [])) (sel (ieq (e).kind 3) (sel (ieq (e).kind 3) (sel (ieq (e).kind 3) (some ((bV (e).ext), [])) (some ((bV Bool.false), []))) (sel (ieq (e).kind 3) (some (undefV, [])) (some ((bV Bool.false), [])))) (sel (ieq (e).kind 3) none (sel (ieq (e).kind 3) (some (undefV, [])) (some ((bV Bool.false), []))))))))))))) := by kernel_rfl
theorem p60 : PureC Tryz.prog Gl 32 (edgeT fun e => bV (outB e)) := by
  refine PureC.congr (pureC_body tabOK mixed Tryz.func32 (by kernel_rfl) (by kernel_rfl) (Γ := cxOf Gl [] []) (cx_ok AllPure.nil _)) fun vs r h => ?_
  obtain ⟨e, rfl, rfl⟩ := edgeT_some h
  refine (tree60 e).trans ?_
  unfold outB
  rw [commB_eq]
  cases ieq e.kind 1 <;> cases ieq e.kind 2 <;> cases ieq e.kind 3 <;> rfl
theorem tree61 (e : E6) : (finF (evalF tab (cxOf Gl [] []) Tryz.f33 [eV e] [])).sem = (sel (bnot (ieq (e).kind 1)) (sel (bnot (ieq (e).kind 1)) (sel (bnot (ieq (e).kind 1)) (sel (bnot (ieq (e).kind 1)) (sel (bnot (ieq (e).kind 2)) (sel (bnot (ieq (e).kind 2)) (sel (bnot (ieq (e).kind 2)) (sel (bnot (ieq (e).kind 2)) (sel (bnot (ieq (e).kind 3)) (sel (bnot (ieq (e).kind 3)) (sel (bnot (ieq (e).kind 3)) (sel (bnot (ieq (e).kind 3)) (some ((bV (bnot (e).same)), [])) (some ((bV Bool.false), []))) (sel (bnot (ieq (e).kind 3)) (some (undefV, [])) (some ((bV Bool.false), [])))) (sel (bnot (ieq (e).kind 3)) none (sel (bnot (ieq (e).kind 3)) (some (undefV, [])) (some ((bV Bool.false), []))))) (sel (bnot (ieq (e).kind 3)) none (sel (bnot (ieq (e).kind 3)) none (sel (bnot (ieq (e).kind 3)) (some (undefV, [])) (some ((bV Bool.false), [])))))) (some ((bV Bool.false), []))) (sel (bnot (ieq (e).kind 2)) none (some ((bV Bool.false), [])))) (sel (bnot (ieq (e).kind 2)) none (sel (bnot (ieq (e).kind 2)) none (some ((bV Bool.false), []))))) (sel (bnot (ieq (e).kind 2)) none (sel (bnot (ieq (e).kind 2)) none (sel (bnot (ieq (e).kind 2)) none (some ((bV Bool.false), [])))))) (some ((bV Bool.false), []))) (sel (bnot (ieq (e).kind 1)) none (some ((bV Bool.false), [])))) (sel (bnot (ieq (e).kind 1)) none (sel (bnot (ieq (e).kind 1)) none (some ((bV Bool.false), []))))) (sel (bnot (ieq (e).kind 1)) none (sel (bnot (ieq (e).kind 1)) none (sel (bnot (ieq (e).kind 1)) none (some ((bV Bool.false), [])))))) := by kernel_rfl
theorem p61 : PureC Tryz.prog Gl 33 (edgeT fun e => bV (movB e)) := by
  refine PureC.congr (pureC_body tabOK mixed Tryz.func33 (by kernel_rfl) (by kernel_rfl) (Γ := cxOf Gl [] []) (cx_ok AllPure.nil _)) fun vs r h => ?_
  obtain ⟨e, rfl, rfl⟩ := edgeT_some h
  refine (tree61 e).trans ?_
  unfold movB
  rw [commB_eq]
  cases ieq e.kind 1 <;> cases ieq e.kind 2 <;> cases ieq e.kind 3 <;> rfl

noncomputable def tbY : List (Nat × (List V → T (V × List Blk))) := (47, edgeT fun e => iV (codeF e)) :: (30, edgeT fun e => iV (codeF e)) :: (41, edgeT fun e => bV (outB e)) :: (42, edgeT fun e => bV (movB e)) :: []
theorem tbY_ok : AllPure Tryz.prog Gl tbY := .cons p28 <| .cons p29 <| .cons p88 <| .cons p89 .nil

def lp87o (n : Nat) (f : Nat → E6) : Lp := ⟨[false, true, false, false, false, true, false, false, true, true, true, false, false, false, false, false, false, false, false, false, false], 0, [false, false, false, false, false, true, false, false, false, false, false, false, false, false, false, false, false, false, false, false, false], 0, n + 1⟩
def st87o (n : Nat) (f : Nat → E6) (s : Int) (i : Nat) (j : Nat → V) : St := ⟨[j 0, .fn 41 [], j 2, j 3, j 4, iV s, j 6, j 7, .sl 6 n (fun i => (eV (f i))), iV (Int.ofNat n), iV (Int.ofNat i), j 11, j 12, j 13, j 14, j 15, j 16, j 17, j 18, j 19, j 20], []⟩
def en87oa (n : Nat) (f : Nat → E6) (s : Int) (i : Nat) : Ex × St := (.ex 0, ⟨[.und, .und, .und, .und, .und, iV s, .und, .und, .und, .und, .und, .und, .und, .und, .und, .und, .und, .und, .und, .und, .und], []⟩)
noncomputable def body87o (L : Nat → (St → T (Ex × St)) → St → T (Ex × St)) : St → T (Ex × St) := fun st => evalC tab ⟨callT tbY, L, Gl⟩ (loopBody Tryz.f40 0) 0 st
theorem rc87oa (L : Nat → (St → T (Ex × St)) → St → T (Ex × St)) (n : Nat) (f : Nat → E6) (s : Int) (i : Nat)  (j : Nat → V) (h0 : ilt (Int.ofNat i) (Int.ofNat n) = false) : ((body87o L (st87o n f s i j)).bind fun r => T.leaf (cutR (lp87o n f) r)).sem = some ((.ex 0), ⟨[.und, .und, .und, .und, .und, (iV s), .und, .und, .und, .und, .und, .und, .und, .und, .und, .und, .und, .und, .und, .und, .und], []⟩) := by
  exact sem_of_path (ds := [false]) (cs := [(ilt (Int.ofNat i) (Int.ofNat n))]) (by kernel_rfl) (by simp only [h0] <;> rfl)
theorem rc87ot (L : Nat → (St → T (Ex × St)) → St → T (Ex × St)) (n : Nat) (f : Nat → E6) (s : Int) (i : Nat)  (j : Nat → V) (h0 : ilt (Int.ofNat i) (Int.ofNat n) = true) (h10 : ile 0 (Int.ofNat i) = true) (h1 : outB (f i) = true) : ((body87o L (st87o n f s i j)).bind fun r => T.leaf (cutR (lp87o n f) r)).sem = some (.nm, ⟨[.und, (.fn 41 []), .und, .und, .und, (iV (wr IntKind.i64 (iadd s 1))), .und, .und, (.sl 6 n (fun i => (eV (f i)))), (iV (Int.ofNat n)), (iV (wr IntKind.i64 (iadd (Int.ofNat i) 1))), .und, .und, .und, .und, .und, .und, .und, .und, .und, .und], []⟩) := by
  exact sem_of_path (ds := [true, true, true]) (cs := [(ilt (Int.ofNat i) (Int.ofNat n)), (band (ile 0 (Int.ofNat i)) (ilt (Int.ofNat i) (Int.ofNat n))), (outB (f i))]) (by kernel_rfl) (by simp only [h0, h10, h1] <;> rfl)
theorem rc87of (L : Nat → (St → T (Ex × St)) → St → T (Ex × St)) (n : Nat) (f : Nat → E6) (s : Int) (i : Nat)  (j : Nat → V) (h0 : ilt (Int.ofNat i) (Int.ofNat n) = true) (h10 : ile 0 (Int.ofNat i) = true) (h1 : outB (f i) = false) : ((body87o L (st87o n f s i j)).bind fun r => T.leaf (cutR (lp87o n f) r)).sem = some (.nm, ⟨[.und, (.fn 41 []), .und, .und, .und, (iV s), .und, .und, (.sl 6 n (fun i => (eV (f i)))), (iV (Int.ofNat n)), (iV (wr IntKind.i64 (iadd (Int.ofNat i) 1))), .und, .und, .und, .und, .und, .und, .und, .und, .und, .und], []⟩) := by
  exact sem_of_path (ds := [true, true, false]) (cs := [(ilt (Int.ofNat i) (Int.ofNat n)), (band (ile 0 (Int.ofNat i)) (ilt (Int.ofNat i) (Int.ofNat n))), (outB (f i))]) (by kernel_rfl) (by simp only [h0, h10, h1] <;> rfl)
def jk87o (n : Nat) (f : Nat → E6)  : Nat → V
  | 0 => (.sl 6 n (fun i => (eV (f i))))
  | 4 => (iV 0)
  | _ => undefV

theorem wc87o (L : Nat → (St → T (Ex × St)) → St → T (Ex × St)) (p0 : (St → T (Ex × St)) → St → Bool) (n : Nat) (f : Nat → E6) (s : Int) (i : Nat)  (hp0 : p0 (body87o (onP 0 p0 (en87oa n f s i) L)) (st87o n f 0 0 (jk87o n f )) = true) : (finF (evalF tab ⟨callT tbY, (onP 0 p0 (en87oa n f s i) L), Gl⟩ Tryz.f40 [edgesV n f, .fn 41 []] [])).sem = some ((iV s), []) := by
  exact sem_of_path (ds := [true]) (cs := [(p0 (body87o (onP 0 p0 (en87oa n f s i) L)) (st87o n f 0 0 (jk87o n f )))]) (by kernel_rfl) (by simp only [hp0] <;> rfl)
def lp87m (n : Nat) (f : Nat → E6) : Lp := ⟨[false, true, false, false, false, true, false, false, true, true, true, false, false, false, false, false, false, false, false, false, false], 0, [false, false, false, false, false, true, false, false, false, false, false, false, false, false, false, false, false, false, false, false, false], 0, n + 1⟩
def st87m (n : Nat) (f : Nat → E6) (s : Int) (i : Nat) (j : Nat → V) : St := ⟨[j 0, .fn 42 [], j 2, j 3, j 4, iV s, j 6, j 7, .sl 6 n (fun i => (eV (f i))), iV (Int.ofNat n), iV (Int.ofNat i), j 11, j 12, j 13, j 14, j 15, j 16, j 17, j 18, j 19, j 20], []⟩
def en87ma (n : Nat) (f : Nat → E6) (s : Int) (i : Nat) : Ex × St := (.ex 0, ⟨[.und, .und, .und, .und, .und, iV s, .und, .und, .und, .und, .und, .und, .und, .und, .und, .und, .und, .und, .und, .und, .und], []⟩)
noncomputable def body87m (L : Nat → (St → T (Ex × St)) → St → T (Ex × St)) : St → T (Ex × St) := fun st => evalC tab ⟨callT tbY, L, Gl⟩ (loopBody Tryz.f40 0) 0 st
theorem rc87ma (L : Nat → (St → T (Ex × St)) → St → T (Ex × St)) (n : Nat) (f : Nat → E6) (s : Int) (i : Nat)  (j : Nat → V) (h0 : ilt (Int.ofNat i) (Int.ofNat n) = false) : ((body87m L (st87m n f s i j)).bind fun r => T.leaf (cutR (lp87m n f) r)).sem = some ((.ex 0), ⟨[.und, .und, .und, .und, .und, (iV s), .und, .und, .und, .und, .und, .und, .und, .und, .und, .und, .und, .und, .und, .und, .und], []⟩) := by
  exact sem_of_path (ds := [false]) (cs := [(ilt (Int.ofNat i) (Int.ofNat n))]) (by kernel_rfl) (by simp only [h0] <;> rfl)
theorem rc87mt (L : Nat → (St → T (Ex × St)) → St → T (Ex × St)) (n : Nat) (f : Nat → E6) (s : Int) (i : Nat)  (j : Nat → V) (h0 : ilt (Int.ofNat i) (Int.ofNat n) = true) (h10 : ile 0 (Int.ofNat i) = true) (h1 : movB (f i) = true) : ((body87m L (st87m n f s i j)).bind fun r => T.leaf (cutR (lp87m n f) r)).sem = some (.nm, ⟨[.und, (.fn 42 []), .und, .und, .und, (iV (wr IntKind.i64 (iadd s 1))), .und, .und, (.sl 6 n (fun i => (eV (f i)))), (iV (Int.ofNat n)), (iV (wr IntKind.i64 (iadd (Int.ofNat i) 1))), .und, .und, .und, .und, .und, .und, .und, .und, .und, .und], []⟩) := by
  exact sem_of_path (ds := [true, true, true]) (cs := [(ilt (Int.ofNat i) (Int.ofNat n)), (band (ile 0 (Int.ofNat i)) (ilt (Int.ofNat i) (Int.ofNat n))), (movB (f i))]) (by kernel_rfl) (by simp only [h0, h10, h1] <;> rfl)
theorem rc87mf (L : Nat → (St → T (Ex × St)) → St → T (Ex × St)) (n : Nat) (f : Nat → E6) (s : Int) (i : Nat)  (j : Nat → V) (h0 : ilt (Int.ofNat i) (Int.ofNat n) = true) (h10 : ile 0 (Int.ofNat i) = true) (h1 : movB (f i) = false) : ((body87m L (st87m n f s i j)).bind fun r => T.leaf (cutR (lp87m n f) r)).sem = some (.nm, ⟨[.und, (.fn 42 []), .und, .und, .und, (iV s), .und, .und, (.sl 6 n (fun i => (eV (f i)))), (iV (Int.ofNat n)), (iV (wr IntKind.i64 (iadd (Int.ofNat i) 1))), .und, .und, .und, .und, .und, .und, .und, .und, .und, .und], []⟩) := by
  exact sem_of_path (ds := [true, true, false]) (cs := [(ilt (Int.ofNat i) (Int.ofNat n)), (band (ile 0 (Int.ofNat i)) (ilt (Int.ofNat i) (Int.ofNat n))), (movB (f i))]) (by kernel_rfl) (by simp only [h0, h10, h1] <;> rfl)
def jk87m (n : Nat) (f : Nat → E6)  : Nat → V
  | 0 => (.sl 6 n (fun i => (eV (f i))))
  | 4 => (iV 0)
  | _ => undefV

theorem wc87m (L : Nat → (St → T (Ex × St)) → St → T (Ex × St)) (p0 : (St → T (Ex × St)) → St → Bool) (n : Nat) (f : Nat → E6) (s : Int) (i : Nat)  (hp0 : p0 (body87m (onP 0 p0 (en87ma n f s i) L)) (st87m n f 0 0 (jk87m n f )) = true) : (finF (evalF tab ⟨callT tbY, (onP 0 p0 (en87ma n f s i) L), Gl⟩ Tryz.f40 [edgesV n f, .fn 42 []] [])).sem = some ((iV s), []) := by
  exact sem_of_path (ds := [true]) (cs := [(p0 (body87m (onP 0 p0 (en87ma n f s i) L)) (st87m n f 0 0 (jk87m n f )))]) (by kernel_rfl) (by simp only [hp0] <;> rfl)


/-- How many of the first i are so. -/
def cntB (p : Nat → Bool) : Nat → Nat
  | 0 => 0
  | i + 1 => match p i with
    | true => cntB p i + 1
    | false => cntB p i

theorem cntB_le (p : Nat → Bool) : ∀ i, cntB p i ≤ i
  | 0 => Nat.le_refl _
  | i + 1 => by
    have := cntB_le p i
    unfold cntB
    split <;> omega

theorem run87o (L : Nat → (St → T (Ex × St)) → St → T (Ex × St)) (n : Nat) (f : Nat → E6) (hn : n ≤ 4611686018427387904) : ∀ (e i : Nat) (j : Nat → V) (q : Nat), n = i + e → e < q →
    (iterT (body87o L) (lp87o n f) q (st87o n f (Int.ofNat (cntB (fun k => outB (f k)) i)) i j)).sem = some (en87oa n f (Int.ofNat (cntB (fun k => outB (f k)) n)) 0)
  | 0, i, j, q + 1, h, _ => by
    have : n = i := by omega
    subst this
    exact iter_round (rc87oa L n f _ _ j (ofNat_ge (Nat.le_refl _)))
  | e + 1, i, j, q + 1, h, h2 => by
    have hc := cntB_le (fun k => outB (f k)) i
    cases hp : outB (f i) with
    | true =>
      rw [iter_round (rc87ot L n f _ i j (ofNat_lt (by omega)) (ofNat_0 _) hp), goOn_nm, succ_wr (show i < n by omega) hn, succ_wr (show cntB (fun k => outB (f k)) i < n by omega) hn,
        show cntB (fun k => outB (f k)) i + 1 = cntB (fun k => outB (f k)) (i + 1) by rw [cntB, hp]]
      exact run87o L n f hn e (i + 1) (fun _ => .und) q (by omega) (by omega)
    | false =>
      rw [iter_round (rc87of L n f _ i j (ofNat_lt (by omega)) (ofNat_0 _) hp), goOn_nm, succ_wr (show i < n by omega) hn,
        show cntB (fun k => outB (f k)) i = cntB (fun k => outB (f k)) (i + 1) by rw [cntB, hp]]
      exact run87o L n f hn e (i + 1) (fun _ => .und) q (by omega) (by omega)

theorem run87m (L : Nat → (St → T (Ex × St)) → St → T (Ex × St)) (n : Nat) (f : Nat → E6) (hn : n ≤ 4611686018427387904) : ∀ (e i : Nat) (j : Nat → V) (q : Nat), n = i + e → e < q →
    (iterT (body87m L) (lp87m n f) q (st87m n f (Int.ofNat (cntB (fun k => movB (f k)) i)) i j)).sem = some (en87ma n f (Int.ofNat (cntB (fun k => movB (f k)) n)) 0)
  | 0, i, j, q + 1, h, _ => by
    have : n = i := by omega
    subst this
    exact iter_round (rc87ma L n f _ _ j (ofNat_ge (Nat.le_refl _)))
  | e + 1, i, j, q + 1, h, h2 => by
    have hc := cntB_le (fun k => movB (f k)) i
    cases hp : movB (f i) with
    | true =>
      rw [iter_round (rc87mt L n f _ i j (ofNat_lt (by omega)) (ofNat_0 _) hp), goOn_nm, succ_wr (show i < n by omega) hn, succ_wr (show cntB (fun k => movB (f k)) i < n by omega) hn,
        show cntB (fun k => movB (f k)) i + 1 = cntB (fun k => movB (f k)) (i + 1) by rw [cntB, hp]]
      exact run87m L n f hn e (i + 1) (fun _ => .und) q (by omega) (by omega)
    | false =>
      rw [iter_round (rc87mf L n f _ i j (ofNat_lt (by omega)) (ofNat_0 _) hp), goOn_nm, succ_wr (show i < n by omega) hn,
        show cntB (fun k => movB (f k)) i = cntB (fun k => movB (f k)) (i + 1) by rw [cntB, hp]]
      exact run87m L n f hn e (i + 1) (fun _ => .und) q (by omega) (by omega)

def countT : List V → T (V × List Blk)
  | [v, .fn g []] => apL v fun n f => .br (smallN n) (match Nat.beq g 41, Nat.beq g 42 with
    | true, _ => out (iV (Int.ofNat (cntB (fun k => outB (f k)) n)))
    | false, true => out (iV (Int.ofNat (cntB (fun k => movB (f k)) n)))
    | false, false => .fail) .fail
  | _ => .fail

theorem p87 : PureC Tryz.prog Gl 40 countT := by
  refine pureC_intro tabOK mixed Tryz.func40 (by kernel_rfl) (by kernel_rfl) fun vs v h' h => ?_
  unfold countT at h
  split at h
  · rename_i u g
    obtain ⟨n, f, ha, h1⟩ := apL_some h
    obtain ⟨hn, hq⟩ := sem_br_fail h1
    clear h h1
    have hn : n ≤ 4611686018427387904 := of_decide_eq_true hn
    have hA : ArgLE [u, .fn g []] [edgesV n f, .fn g []] := fun S w cs hv => by
      obtain ⟨c, l, rfl, q1, q2⟩ := hv
      exact ⟨c, l, rfl, ha S w c q1, q2⟩
    split at hq
    · rename_i h1
      have h1 := Nat.eq_of_beq_eq_true h1
      subst h1
      have := sem_leaf hq
      simp only [Prod.mk.injEq] at this
      obtain ⟨rfl, rfl⟩ := this
      have hx := cx_ok tbY_ok [(0, lp87o n f)]
      have hL := loopsBy_le [(0, lp87o n f)]
      exact ⟨_, cxOf Gl tbY [(0, lp87o n f)], [], hA, rfl, hx.1, hx.2, told_le (onP_le hL hL) _ (wc87o _ _ n f _ 0 (isP_true (run87o _ n f hn n 0 _ (n + 1) (by omega) (by omega)))), RowsLE.refl _⟩
    · rename_i h2
      have h2 := Nat.eq_of_beq_eq_true h2
      subst h2
      have := sem_leaf hq
      simp only [Prod.mk.injEq] at this
      obtain ⟨rfl, rfl⟩ := this
      have hx := cx_ok tbY_ok [(0, lp87m n f)]
      have hL := loopsBy_le [(0, lp87m n f)]
      exact ⟨_, cxOf Gl tbY [(0, lp87m n f)], [], hA, rfl, hx.1, hx.2, told_le (onP_le hL hL) _ (wc87m _ _ n f _ 0 (isP_true (run87m _ n f hn n 0 _ (n + 1) (by omega) (by omega)))), RowsLE.refl _⟩
    · cases hq
  · cases h

end Go.Proofs.YtkcbdemfmjciiaaGreatDoor.Ed




