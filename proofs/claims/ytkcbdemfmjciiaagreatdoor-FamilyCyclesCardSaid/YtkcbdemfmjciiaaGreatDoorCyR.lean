/-
  crowded: the first event whose part has too many. No conditions.
-/
import Derived.Test.YtkcbdemfmjciiaaGreatDoorCyQ
namespace Go.Proofs.YtkcbdemfmjciiaaGreatDoor.Ed
open Go.Sy


theorem pp_le {v u : V} (h : ∀ (S : Nat → Prop) (w : World) (c : Value), VR S w v noK c → VR S w u noK c) (S : Nat → Prop) (w : World) (κ : Nat → Option Value) (c : Value) (hv : VR S w (.pp (.agg [v])) κ c) : VR S w (.pp (.agg [u])) κ c := by
  obtain ⟨b, o, cv, q1, ⟨ca, q2, a, l', q3, q4, q5⟩, q6⟩ := hv
  exact ⟨b, o, cv, q1, ⟨ca, q2, a, l', q3, h S w a q4, q5⟩, q6⟩

def isWT : List V → T (V × List Blk)
  | [.val (.int .i64 i), .pp (.agg [v])] => apL v fun n f => .br (band (ile 0 i) (ilt i (Int.ofNat n))) (out (bV (isW (f (toN i))))) .fail
  | _ => .fail
def trueT : List V → T (V × List Blk)
  | [.val (.int .i64 _)] => out (bV true)
  | _ => .fail

theorem wc90 (L : Nat → (St → T (Ex × St)) → St → T (Ex × St)) (i : Int) (n : Nat) (f : Nat → E6) (h0 : band (ile 0 i) (ilt i (Int.ofNat n)) = true) : (finF (evalF tab ⟨callT tb0, L, Gl⟩ Tryz.f43 [iV i, .pp (.agg [edgesV n f])] [])).sem = some ((bV (ieq ((f (toN i))).src 2)), []) := by
  exact sem_of_path (ds := [true]) (cs := [(band (ile 0 i) (ilt i (Int.ofNat n)))]) (by kernel_rfl) (by simp only [h0] <;> rfl)
theorem wc93 (L : Nat → (St → T (Ex × St)) → St → T (Ex × St)) (i : Int)  : (finF (evalF tab ⟨callT tb0, L, Gl⟩ Tryz.f46 [iV i] [])).sem = some ((bV Bool.true), []) := by
  exact sem_of_path (ds := []) (cs := []) (by kernel_rfl) (by rfl)

theorem p90 : PureC Tryz.prog Gl 43 isWT := by
  refine pureC_intro tabOK mixed Tryz.func43 (by kernel_rfl) (by kernel_rfl) fun vs v h' h => ?_
  unfold isWT at h
  split at h
  · rename_i i u
    obtain ⟨n, f, ha, h1⟩ := apL_some h
    obtain ⟨hi, hq⟩ := sem_br_fail h1
    have := sem_leaf hq
    simp only [Prod.mk.injEq] at this
    obtain ⟨rfl, rfl⟩ := this
    have hA : ArgLE [.val (.int .i64 i), .pp (.agg [u])] [iV i, .pp (.agg [edgesV n f])] := fun S w cs hv => by
      obtain ⟨c, l, rfl, q1, c2, l2, rfl, q2, q3⟩ := hv
      exact ⟨c, _, rfl, q1, c2, l2, rfl, pp_le ha S w noK c2 q2, q3⟩
    have hx := cx_ok tb0_ok []
    exact ⟨_, cxOf Gl tb0 [], _, hA, rfl, hx.1, hx.2, wc90 _ i n f hi, RowsLE.refl _⟩
  · cases h

theorem p93 : PureC Tryz.prog Gl 46 trueT := by
  refine pureC_intro tabOK mixed Tryz.func46 (by kernel_rfl) (by kernel_rfl) fun vs v h' h => ?_
  unfold trueT at h
  split at h
  · have := sem_leaf h
    simp only [Prod.mk.injEq] at this
    obtain ⟨rfl, rfl⟩ := this
    have hx := cx_ok tb0_ok []
    exact ⟨_, cxOf Gl tb0 [], _, ArgLE.refl _, rfl, hx.1, hx.2, wc93 _ _, RowsLE.refl _⟩
  · cases h

noncomputable def tb91 : List (Nat × (List V → T (V × List Blk))) := (43, isWT) :: (46, trueT) :: []
theorem tb91_ok : AllPure Tryz.prog Gl tb91 := .cons p90 <| .cons p93 .nil

/-- How many so far have a number: as a map holds it. -/
def gK (l : Nat → Int) (c : Nat → Bool) (i : Nat) (x : Int) : Int := Int.ofNat (cntB (cntP l c x) i)

theorem gK_0 (l : Nat → Int) (c : Nat → Bool) : gK l c 0 = fun _ => 0 := rfl

theorem gK_no {l : Nat → Int} {c : Nat → Bool} {i : Nat} (h : c i = false) : gK l c (i + 1) = gK l c i := by
  funext x
  unfold gK
  rw [cntB_f]
  rw [cntP, h]
  cases ieq (l i) x <;> rfl

theorem gK_yes {l : Nat → Int} {c : Nat → Bool} {i n : Nat} (h : c i = true) (hi : i < n) (hn : n ≤ 4611686018427387904) : (fun k => sel (ieq k (l i)) (wr IntKind.i64 (iadd (gK l c i (l i)) 1)) (gK l c i k)) = gK l c (i + 1) := by
  funext x
  by_cases hx : x = l i
  · subst hx
    have h1 : ieq (l i) (l i) = true := by simp [ieq]
    rw [h1]
    show wr IntKind.i64 (iadd (Int.ofNat (cntB (cntP l c (l i)) i)) 1) = _
    have := cntB_le (cntP l c (l i)) i
    rw [succ_wr (show cntB (cntP l c (l i)) i < n by omega) hn]
    unfold gK
    rw [cntB_t (show cntP l c (l i) i = true by rw [cntP, h, h1]; rfl)]
  · have h1 : ieq x (l i) = false := by simp [ieq, hx]
    rw [h1]
    show gK l c i x = _
    unfold gK
    rw [cntB_f (show cntP l c x i = false by rw [cntP, show ieq (l i) x = false by simp [ieq]; omega]; rfl)]

theorem fit_cnt {a : Nat} (h : a ≤ 4611686018427387904) : fitI (Int.ofNat a) = true := by
  simp only [fitI, Bool.and_eq_true, decide_eq_true_eq, Int.ofNat_eq_natCast]
  omega

def okP (n : Nat) (l : Nat → Int) : Bool := allN n fun i => fitI (l i)
/-- Those whose number too many have. -/
def tooMany (n : Nat) (l : Nat → Int) (c : Nat → Bool) (q : Int) (i : Nat) : Bool := band (c i) (ilt q (cntK n l c (l i)))
def crR (n : Nat) (l : Nat → Int) (c : Nat → Bool) (q : Int) : Int × Bool :=
  match firstQ (tooMany n l c q) n 0 with
  | some t => (Int.ofNat t, true)
  | none => (0, false)
def lp91w (n : Nat) (f : Nat → E6) (l : Nat → Int) (q : Int) : Lp := ⟨[true, true, true, false, false, false, true, true, true, false, false, false, false, false, true, true, true, false, false, false, false, false, false, false, false, false, false, false, false, false, false, false, false, false, false, false, false, false, false, false, false, false, false, false, false, false, false, false], 1, [true, true, true, false, false, false, true, true, true, false, false, false, false, false, false, false, false, false, false, false, false, false, false, false, false, false, false, false, false, false, false, false, false, false, false, false, false, false, false, false, false, false, false, false, false, false, false, false], 1, n + 1⟩
def st91w (n : Nat) (f : Nat → E6) (l : Nat → Int) (q : Int) (t : Nat) (g : Int → Int) (i : Nat) (j : Nat → V) : St := ⟨[.sl 1 n (fun k => iV (l k)), .fn 43 [.pp (.agg [edgesV n f])], iV q, j 3, j 4, j 5, iV 0, bV false, .ref 0, j 9, j 10, j 11, j 12, j 13, .sl 1 n (fun k => iV (l k)), iV (Int.ofNat n), iV (Int.ofNat i), j 17, j 18, j 19, j 20, j 21, j 22, j 23, j 24, j 25, j 26, j 27, j 28, j 29, j 30, j 31, j 32, j 33, j 34, j 35, j 36, j 37, j 38, j 39, j 40, j 41, j 42, j 43, j 44, j 45, j 46, j 47], [.imap 102 t g]⟩
def en91we (n : Nat) (f : Nat → E6) (l : Nat → Int) (q : Int) (t : Nat) (g : Int → Int) (i : Nat) : Ex × St := (.ex 0, ⟨[.sl 1 n (fun k => iV (l k)), .fn 43 [.pp (.agg [edgesV n f])], iV q, .und, .und, .und, iV 0, bV false, .ref 0, .und, .und, .und, .und, .und, .und, .und, .und, .und, .und, .und, .und, .und, .und, .und, .und, .und, .und, .und, .und, .und, .und, .und, .und, .und, .und, .und, .und, .und, .und, .und, .und, .und, .und, .und, .und, .und, .und, .und], [.imap 102 t g]⟩)
noncomputable def body91w (L : Nat → (St → T (Ex × St)) → St → T (Ex × St)) : St → T (Ex × St) := fun st => evalC tab ⟨callT tb91, L, Gl⟩ (loopBody Tryz.f44 0) 0 st
theorem rc91we (L : Nat → (St → T (Ex × St)) → St → T (Ex × St)) (n : Nat) (f : Nat → E6) (l : Nat → Int) (q : Int) (t : Nat) (g : Int → Int) (i : Nat)  (j : Nat → V) (h0 : ilt (Int.ofNat i) (Int.ofNat n) = false) : ((body91w L (st91w n f l q t g i j)).bind fun r => T.leaf (cutR (lp91w n f l q) r)).sem = some ((.ex 0), ⟨[(.sl 1 n (fun k => (iV (l k)))), (.fn 43 [(.pp (.agg [(.sl 6 n (fun i => (eV (f i))))]))]), (iV q), .und, .und, .und, (iV 0), (bV Bool.false), (.ref 0), .und, .und, .und, .und, .und, .und, .und, .und, .und, .und, .und, .und, .und, .und, .und, .und, .und, .und, .und, .und, .und, .und, .und, .und, .und, .und, .und, .und, .und, .und, .und, .und, .und, .und, .und, .und, .und, .und, .und], [(.imap 102 t g)]⟩) := by
  exact sem_of_path (ds := [false]) (cs := [(ilt (Int.ofNat i) (Int.ofNat n))]) (by kernel_rfl) (by simp only [h0] <;> rfl)
theorem rc91wn (L : Nat → (St → T (Ex × St)) → St → T (Ex × St)) (n : Nat) (f : Nat → E6) (l : Nat → Int) (q : Int) (t : Nat) (g : Int → Int) (i : Nat)  (j : Nat → V) (h0 : ilt (Int.ofNat i) (Int.ofNat n) = true) (h1 : band (ile 0 (Int.ofNat i)) (ilt (Int.ofNat i) (Int.ofNat n)) = true) (h2 : isW (f i) = false) : ((body91w L (st91w n f l q t g i j)).bind fun r => T.leaf (cutR (lp91w n f l q) r)).sem = some (.nm, ⟨[(.sl 1 n (fun k => (iV (l k)))), (.fn 43 [(.pp (.agg [(.sl 6 n (fun i => (eV (f i))))]))]), (iV q), .und, .und, .und, (iV 0), (bV Bool.false), (.ref 0), .und, .und, .und, .und, .und, (.sl 1 n (fun k => (iV (l k)))), (iV (Int.ofNat n)), (iV (wr IntKind.i64 (iadd (Int.ofNat i) 1))), .und, .und, .und, .und, .und, .und, .und, .und, .und, .und, .und, .und, .und, .und, .und, .und, .und, .und, .und, .und, .und, .und, .und, .und, .und, .und, .und, .und, .und, .und, .und], [(.imap 102 t g)]⟩) := by
  exact sem_of_path (ds := [true, true, true, true, false]) (cs := [(ilt (Int.ofNat i) (Int.ofNat n)), (band (ile 0 (Int.ofNat i)) (ilt (Int.ofNat i) (Int.ofNat n))), (allN n (fun _ => Bool.true)), (band (ile 0 (Int.ofNat i)) (ilt (Int.ofNat i) (Int.ofNat n))), (isW (f i))]) (by kernel_rfl) (by simp only [h1] <;> simp only [h0, h2, allN_true] <;> rfl)
theorem rc91wy (L : Nat → (St → T (Ex × St)) → St → T (Ex × St)) (n : Nat) (f : Nat → E6) (l : Nat → Int) (q : Int) (t : Nat) (g : Int → Int) (i : Nat)  (j : Nat → V) (h0 : ilt (Int.ofNat i) (Int.ofNat n) = true) (h1 : band (ile 0 (Int.ofNat i)) (ilt (Int.ofNat i) (Int.ofNat n)) = true) (h2 : isW (f i) = true) (h4 : fitI (l i) = true) (h3 : nlt t 4611686018427387904 = true) (h5 : fitI (wr IntKind.i64 (iadd (g (l i)) 1)) = true) : ((body91w L (st91w n f l q t g i j)).bind fun r => T.leaf (cutR (lp91w n f l q) r)).sem = some (.nm, ⟨[(.sl 1 n (fun k => (iV (l k)))), (.fn 43 [(.pp (.agg [(.sl 6 n (fun i => (eV (f i))))]))]), (iV q), .und, .und, .und, (iV 0), (bV Bool.false), (.ref 0), .und, .und, .und, .und, .und, (.sl 1 n (fun k => (iV (l k)))), (iV (Int.ofNat n)), (iV (wr IntKind.i64 (iadd (Int.ofNat i) 1))), .und, .und, .und, .und, .und, .und, .und, .und, .und, .und, .und, .und, .und, .und, .und, .und, .und, .und, .und, .und, .und, .und, .und, .und, .und, .und, .und, .und, .und, .und, .und], [(.imap 102 (nadd t 1) (fun z => (sel (ieq z (l i)) (wr IntKind.i64 (iadd (g (l i)) 1)) (g z))))]⟩) := by
  exact sem_of_path (ds := [true, true, true, true, true, true, true, true, true]) (cs := [(ilt (Int.ofNat i) (Int.ofNat n)), (band (ile 0 (Int.ofNat i)) (ilt (Int.ofNat i) (Int.ofNat n))), (allN n (fun _ => Bool.true)), (band (ile 0 (Int.ofNat i)) (ilt (Int.ofNat i) (Int.ofNat n))), (isW (f i)), (fitI (l i)), (nlt t 4611686018427387904), (fitI (l i)), (fitI (wr IntKind.i64 (iadd (g (l i)) 1)))]) (by kernel_rfl) (by simp only [h1] <;> simp only [h0, h2, h4, h3, h5, allN_true] <;> rfl)
def jk91w (n : Nat) (f : Nat → E6) (l : Nat → Int) (q : Int)  : Nat → V
  | 13 => (.ref 0)
  | _ => undefV

def lp91_2w (n : Nat) (f : Nat → E6) (l : Nat → Int) (q : Int) : Lp := ⟨[false, true, true, false, false, false, true, true, true, false, false, false, false, false, false, false, false, false, false, false, false, false, false, false, false, false, false, false, false, true, true, true, false, false, false, false, false, false, false, false, false, false, false, false, false, false, false, false], 1, [false, false, false, false, false, false, true, true, false, false, false, false, false, false, false, false, false, false, false, false, false, false, false, false, false, false, false, false, false, false, false, false, false, false, false, false, false, false, false, false, false, false, false, false, false, false, false, false], 0, n + 1⟩
def st91_2w (n : Nat) (f : Nat → E6) (l : Nat → Int) (q : Int) (t : Nat) (g : Int → Int) (i : Nat) (j : Nat → V) : St := ⟨[j 0, .fn 43 [.pp (.agg [edgesV n f])], iV q, j 3, j 4, j 5, iV 0, bV false, .ref 0, j 9, j 10, j 11, j 12, j 13, j 14, j 15, j 16, j 17, j 18, j 19, j 20, j 21, j 22, j 23, j 24, j 25, j 26, j 27, j 28, .sl 1 n (fun k => iV (l k)), iV (Int.ofNat n), iV (Int.ofNat i), j 32, j 33, j 34, j 35, j 36, j 37, j 38, j 39, j 40, j 41, j 42, j 43, j 44, j 45, j 46, j 47], [.imap 102 t g]⟩
def en91_2we (n : Nat) (f : Nat → E6) (l : Nat → Int) (q : Int) (t : Nat) (g : Int → Int) (i : Nat) : Ex × St := (.ex 2, ⟨[.und, .und, .und, .und, .und, .und, iV 0, bV false, .und, .und, .und, .und, .und, .und, .und, .und, .und, .und, .und, .und, .und, .und, .und, .und, .und, .und, .und, .und, .und, .und, .und, .und, .und, .und, .und, .und, .und, .und, .und, .und, .und, .und, .und, .und, .und, .und, .und, .und], []⟩)
def en91_2wh (n : Nat) (f : Nat → E6) (l : Nat → Int) (q : Int) (t : Nat) (g : Int → Int) (i : Nat) : Ex × St := (.rt, ⟨[.und, .und, .und, .und, .und, .und, iV (Int.ofNat i), bV true, .und, .und, .und, .und, .und, .und, .und, .und, .und, .und, .und, .und, .und, .und, .und, .und, .und, .und, .und, .und, .und, .und, .und, .und, .und, .und, .und, .und, .und, .und, .und, .und, .und, .und, .und, .und, .und, .und, .und, .und], []⟩)
noncomputable def body91_2w (L : Nat → (St → T (Ex × St)) → St → T (Ex × St)) : St → T (Ex × St) := fun st => evalC tab ⟨callT tb91, L, Gl⟩ (loopBody Tryz.f44 2) 2 st
theorem rd91we (L : Nat → (St → T (Ex × St)) → St → T (Ex × St)) (n : Nat) (f : Nat → E6) (l : Nat → Int) (q : Int) (t : Nat) (g : Int → Int) (i : Nat)  (j : Nat → V) (h0 : ilt (Int.ofNat i) (Int.ofNat n) = false) : ((body91_2w L (st91_2w n f l q t g i j)).bind fun r => T.leaf (cutR (lp91_2w n f l q) r)).sem = some ((.ex 2), ⟨[.und, .und, .und, .und, .und, .und, (iV 0), (bV Bool.false), .und, .und, .und, .und, .und, .und, .und, .und, .und, .und, .und, .und, .und, .und, .und, .und, .und, .und, .und, .und, .und, .und, .und, .und, .und, .und, .und, .und, .und, .und, .und, .und, .und, .und, .und, .und, .und, .und, .und, .und], []⟩) := by
  exact sem_of_path (ds := [false]) (cs := [(ilt (Int.ofNat i) (Int.ofNat n))]) (by kernel_rfl) (by simp only [h0] <;> rfl)
theorem rd91wa (L : Nat → (St → T (Ex × St)) → St → T (Ex × St)) (n : Nat) (f : Nat → E6) (l : Nat → Int) (q : Int) (t : Nat) (g : Int → Int) (i : Nat)  (j : Nat → V) (h0 : ilt (Int.ofNat i) (Int.ofNat n) = true) (h1 : band (ile 0 (Int.ofNat i)) (ilt (Int.ofNat i) (Int.ofNat n)) = true) (h2 : isW (f i) = false) : ((body91_2w L (st91_2w n f l q t g i j)).bind fun r => T.leaf (cutR (lp91_2w n f l q) r)).sem = some (.nm, ⟨[.und, (.fn 43 [(.pp (.agg [(.sl 6 n (fun i => (eV (f i))))]))]), (iV q), .und, .und, .und, (iV 0), (bV Bool.false), (.ref 0), .und, .und, .und, .und, .und, .und, .und, .und, .und, .und, .und, .und, .und, .und, .und, .und, .und, .und, .und, .und, (.sl 1 n (fun k => (iV (l k)))), (iV (Int.ofNat n)), (iV (wr IntKind.i64 (iadd (Int.ofNat i) 1))), .und, .und, .und, .und, .und, .und, .und, .und, .und, .und, .und, .und, .und, .und, .und, .und], [(.imap 102 t g)]⟩) := by
  exact sem_of_path (ds := [true, true, true, true, false, false, false, false, false, false, false]) (cs := [(ilt (Int.ofNat i) (Int.ofNat n)), (band (ile 0 (Int.ofNat i)) (ilt (Int.ofNat i) (Int.ofNat n))), (allN n (fun _ => Bool.true)), (band (ile 0 (Int.ofNat i)) (ilt (Int.ofNat i) (Int.ofNat n))), (isW (f i)), (isW (f i)), (isW (f i)), (isW (f i)), (isW (f i)), (isW (f i)), Bool.false]) (by kernel_rfl) (by simp only [h1] <;> simp only [h0, h2, allN_true] <;> rfl)
theorem rd91wb (L : Nat → (St → T (Ex × St)) → St → T (Ex × St)) (n : Nat) (f : Nat → E6) (l : Nat → Int) (q : Int) (t : Nat) (g : Int → Int) (i : Nat)  (j : Nat → V) (h0 : ilt (Int.ofNat i) (Int.ofNat n) = true) (h1 : band (ile 0 (Int.ofNat i)) (ilt (Int.ofNat i) (Int.ofNat n)) = true) (h2 : isW (f i) = true) (h3 : fitI (l i) = true) (h4 : ilt q (g (l i)) = false) : ((body91_2w L (st91_2w n f l q t g i j)).bind fun r => T.leaf (cutR (lp91_2w n f l q) r)).sem = some (.nm, ⟨[.und, (.fn 43 [(.pp (.agg [(.sl 6 n (fun i => (eV (f i))))]))]), (iV q), .und, .und, .und, (iV 0), (bV Bool.false), (.ref 0), .und, .und, .und, .und, .und, .und, .und, .und, .und, .und, .und, .und, .und, .und, .und, .und, .und, .und, .und, .und, (.sl 1 n (fun k => (iV (l k)))), (iV (Int.ofNat n)), (iV (wr IntKind.i64 (iadd (Int.ofNat i) 1))), .und, .und, .und, .und, .und, .und, .und, .und, .und, .und, .und, .und, .und, .und, .und, .und], [(.imap 102 t g)]⟩) := by
  exact sem_of_path (ds := [true, true, true, true, true, true, true, true, true, true, true, false]) (cs := [(ilt (Int.ofNat i) (Int.ofNat n)), (band (ile 0 (Int.ofNat i)) (ilt (Int.ofNat i) (Int.ofNat n))), (allN n (fun _ => Bool.true)), (band (ile 0 (Int.ofNat i)) (ilt (Int.ofNat i) (Int.ofNat n))), (isW (f i)), (isW (f i)), (isW (f i)), (fitI (l i)), (isW (f i)), (isW (f i)), (isW (f i)), (ilt q (g (l i)))]) (by kernel_rfl) (by simp only [h1] <;> simp only [h0, h2, h3, h4, allN_true] <;> rfl)
theorem rd91wc (L : Nat → (St → T (Ex × St)) → St → T (Ex × St)) (n : Nat) (f : Nat → E6) (l : Nat → Int) (q : Int) (t : Nat) (g : Int → Int) (i : Nat)  (j : Nat → V) (h0 : ilt (Int.ofNat i) (Int.ofNat n) = true) (h1 : band (ile 0 (Int.ofNat i)) (ilt (Int.ofNat i) (Int.ofNat n)) = true) (h2 : isW (f i) = true) (h3 : fitI (l i) = true) (h4 : ilt q (g (l i)) = true) : ((body91_2w L (st91_2w n f l q t g i j)).bind fun r => T.leaf (cutR (lp91_2w n f l q) r)).sem = some (.rt, ⟨[.und, .und, .und, .und, .und, .und, (iV (Int.ofNat i)), (bV Bool.true), .und, .und, .und, .und, .und, .und, .und, .und, .und, .und, .und, .und, .und, .und, .und, .und, .und, .und, .und, .und, .und, .und, .und, .und, .und, .und, .und, .und, .und, .und, .und, .und, .und, .und, .und, .und, .und, .und, .und, .und], []⟩) := by
  exact sem_of_path (ds := [true, true, true, true, true, true, true, true, true, true, true, true]) (cs := [(ilt (Int.ofNat i) (Int.ofNat n)), (band (ile 0 (Int.ofNat i)) (ilt (Int.ofNat i) (Int.ofNat n))), (allN n (fun _ => Bool.true)), (band (ile 0 (Int.ofNat i)) (ilt (Int.ofNat i) (Int.ofNat n))), (isW (f i)), (isW (f i)), (isW (f i)), (fitI (l i)), (isW (f i)), (isW (f i)), (isW (f i)), (ilt q (g (l i)))]) (by kernel_rfl) (by simp only [h1] <;> simp only [h0, h2, h3, h4, allN_true] <;> rfl)
def jk91_2w (n : Nat) (f : Nat → E6) (l : Nat → Int) (q : Int) (t : Nat) (g : Int → Int) (i : Nat) : Nat → V
  | 0 => (.sl 1 n (fun k => (iV (l k))))
  | 3 => .und
  | 4 => .und
  | 5 => .und
  | 9 => .und
  | 10 => .und
  | 11 => .und
  | 12 => .und
  | 13 => .und
  | 14 => .und
  | 15 => .und
  | 16 => .und
  | 17 => .und
  | 18 => .und
  | 19 => .und
  | 20 => .und
  | 21 => .und
  | 22 => .und
  | 23 => .und
  | 24 => .und
  | 25 => .und
  | 26 => .und
  | 27 => .und
  | 28 => .und
  | 32 => .und
  | 33 => .und
  | 34 => .und
  | 35 => .und
  | 36 => .und
  | 37 => .und
  | 38 => .und
  | 39 => .und
  | 40 => .und
  | 41 => .und
  | 42 => .und
  | 43 => .und
  | 44 => .und
  | 45 => .und
  | 46 => .und
  | 47 => .und
  | _ => undefV

theorem wc91we (L : Nat → (St → T (Ex × St)) → St → T (Ex × St)) (p0 : (St → T (Ex × St)) → St → Bool) (p2 : (St → T (Ex × St)) → St → Bool) (n : Nat) (f : Nat → E6) (l : Nat → Int) (q : Int) (t : Nat) (g : Int → Int) (i m : Nat)  (hp0 : p0 (body91w (onP 0 p0 (en91we n f l q t g i) (onP 2 p2 (en91_2we n f l q t g m) L))) (st91w n f l q 0 (fun _ => 0) 0 (jk91w n f l q )) = true) (hp2 : p2 (body91_2w (onP 0 p0 (en91we n f l q t g i) (onP 2 p2 (en91_2we n f l q t g m) L))) (st91_2w n f l q t g 0 (jk91_2w n f l q t g i)) = true) : (finF (evalF tab ⟨callT tb91, (onP 0 p0 (en91we n f l q t g i) (onP 2 p2 (en91_2we n f l q t g m) L)), Gl⟩ Tryz.f44 [intsV n l, .fn 43 [.pp (.agg [edgesV n f])], iV q] [])).sem = some ((.tup [(iV 0), (bV Bool.false)]), []) := by
  exact sem_of_path (ds := [true, true]) (cs := [(p0 (body91w (onP 0 p0 (en91we n f l q t g i) (onP 2 p2 (en91_2we n f l q t g m) L))) (st91w n f l q 0 (fun _ => 0) 0 (jk91w n f l q ))), (p2 (body91_2w (onP 0 p0 (en91we n f l q t g i) (onP 2 p2 (en91_2we n f l q t g m) L))) (st91_2w n f l q t g 0 (jk91_2w n f l q t g i)))]) (by kernel_rfl) (by simp only [hp0, hp2] <;> rfl)

theorem wc91wh (L : Nat → (St → T (Ex × St)) → St → T (Ex × St)) (p0 : (St → T (Ex × St)) → St → Bool) (p2 : (St → T (Ex × St)) → St → Bool) (n : Nat) (f : Nat → E6) (l : Nat → Int) (q : Int) (t : Nat) (g : Int → Int) (i m : Nat)  (hp0 : p0 (body91w (onP 0 p0 (en91we n f l q t g i) (onP 2 p2 (en91_2wh n f l q t g m) L))) (st91w n f l q 0 (fun _ => 0) 0 (jk91w n f l q )) = true) (hp2 : p2 (body91_2w (onP 0 p0 (en91we n f l q t g i) (onP 2 p2 (en91_2wh n f l q t g m) L))) (st91_2w n f l q t g 0 (jk91_2w n f l q t g i)) = true) : (finF (evalF tab ⟨callT tb91, (onP 0 p0 (en91we n f l q t g i) (onP 2 p2 (en91_2wh n f l q t g m) L)), Gl⟩ Tryz.f44 [intsV n l, .fn 43 [.pp (.agg [edgesV n f])], iV q] [])).sem = some ((.tup [(iV (Int.ofNat m)), (bV Bool.true)]), []) := by
  exact sem_of_path (ds := [true, true]) (cs := [(p0 (body91w (onP 0 p0 (en91we n f l q t g i) (onP 2 p2 (en91_2wh n f l q t g m) L))) (st91w n f l q 0 (fun _ => 0) 0 (jk91w n f l q ))), (p2 (body91_2w (onP 0 p0 (en91we n f l q t g i) (onP 2 p2 (en91_2wh n f l q t g m) L))) (st91_2w n f l q t g 0 (jk91_2w n f l q t g i)))]) (by kernel_rfl) (by simp only [hp0, hp2] <;> rfl)

theorem run91w (L : Nat → (St → T (Ex × St)) → St → T (Ex × St)) (n : Nat) (f : Nat → E6) (l : Nat → Int) (q : Int) (hn : n ≤ 4611686018427387904) (ho : okP n l = true) : ∀ (d i : Nat) (j : Nat → V) (p : Nat), n = i + d → d < p →
    (iterT (body91w L) (lp91w n f l q) p (st91w n f l q (cntB (fun i => isW (f i)) i) (gK l (fun i => isW (f i)) i) i j)).sem = some (en91we n f l q (cntB (fun i => isW (f i)) n) (gK l (fun i => isW (f i)) n) n)
  | 0, i, j, p + 1, h, _ => by
    have : n = i := by omega
    subst this
    exact iter_round (rc91we L n f l q (cntB (fun i => isW (f i)) n) (gK l (fun i => isW (f i)) n) n j (ofNat_ge (Nat.le_refl _)))
  | d + 1, i, j, p + 1, h, h2 => by
    have hl : i < n := by omega
    have hc := cntB_le (fun i => isW (f i)) i
    have hc2 := cntB_le (cntP l (fun i => isW (f i)) (l i)) i
    have ht : nlt (cntB (fun i => isW (f i)) i) 4611686018427387904 = true := by simp only [nlt, decide_eq_true_eq]; omega
    have hf : fitI (wr IntKind.i64 (iadd (gK l (fun i => isW (f i)) i (l i)) 1)) = true := by
      show fitI (wr IntKind.i64 (iadd (Int.ofNat (cntB (cntP l (fun i => isW (f i)) (l i)) i)) 1)) = true
      rw [succ_wr (show cntB (cntP l (fun i => isW (f i)) (l i)) i < n by omega) hn]
      exact fit_cnt (by omega)
    cases cw : isW (f i) with
    | false =>
      rw [iter_round (rc91wn L n f l q (cntB (fun i => isW (f i)) i) (gK l (fun i => isW (f i)) i) i j (ofNat_lt hl) (ofNat_in hl) cw), goOn_nm, succ_wr hl hn, ← gK_no (l := l) (c := (fun i => isW (f i))) cw, ← cntB_f (p := (fun i => isW (f i))) cw]
      exact run91w L n f l q hn ho d (i + 1) (fun _ => .und) p (by omega) (by omega)
    | true =>
      rw [iter_round (rc91wy L n f l q (cntB (fun i => isW (f i)) i) (gK l (fun i => isW (f i)) i) i j (ofNat_lt hl) (ofNat_in hl) cw (allN_iff.1 ho i hl) ht hf), goOn_nm, succ_wr hl hn, gK_yes (l := l) (c := (fun i => isW (f i))) (i := i) cw hl hn, show nadd (cntB (fun i => isW (f i)) i) 1 = cntB (fun i => isW (f i)) (i + 1) from (cntB_t (p := (fun i => isW (f i))) cw).symm]
      exact run91w L n f l q hn ho d (i + 1) (fun _ => .und) p (by omega) (by omega)

theorem run91dw (L : Nat → (St → T (Ex × St)) → St → T (Ex × St)) (n : Nat) (f : Nat → E6) (l : Nat → Int) (q : Int) (t : Nat) (hn : n ≤ 4611686018427387904) (ho : okP n l = true) : ∀ (d i : Nat) (j : Nat → V) (p : Nat), n = i + d → d < p →
    (iterT (body91_2w L) (lp91_2w n f l q) p (st91_2w n f l q t (gK l (fun i => isW (f i)) n) i j)).sem = some (match firstQ (tooMany n l (fun i => isW (f i)) q) d i with
      | none => en91_2we n f l q t (gK l (fun i => isW (f i)) n) 0
      | some m => en91_2wh n f l q t (gK l (fun i => isW (f i)) n) m)
  | 0, i, j, p + 1, h, _ => by
    have : n = i := by omega
    subst this
    exact iter_round (rd91we L n f l q t (gK l (fun i => isW (f i)) n) n j (ofNat_ge (Nat.le_refl _)))
  | d + 1, i, j, p + 1, h, h2 => by
    have hl : i < n := by omega
    cases cw : isW (f i) with
    | false =>
      rw [firstQ_f (show tooMany n l (fun i => isW (f i)) q i = false by unfold tooMany; rw [show (fun i => isW (f i)) i = false from cw]; rfl), iter_round (rd91wa L n f l q t (gK l (fun i => isW (f i)) n) i j (ofNat_lt hl) (ofNat_in hl) cw), goOn_nm, succ_wr hl hn]
      exact run91dw L n f l q t hn ho d (i + 1) (fun _ => .und) p (by omega) (by omega)
    | true =>
      cases cg : ilt q (gK l (fun i => isW (f i)) n (l i)) with
      | false =>
        rw [firstQ_f (show tooMany n l (fun i => isW (f i)) q i = false by unfold tooMany; rw [show ilt q (cntK n l (fun i => isW (f i)) (l i)) = false from cg]; cases (fun i => isW (f i)) i <;> rfl), iter_round (rd91wb L n f l q t (gK l (fun i => isW (f i)) n) i j (ofNat_lt hl) (ofNat_in hl) cw (allN_iff.1 ho i hl) cg), goOn_nm, succ_wr hl hn]
        exact run91dw L n f l q t hn ho d (i + 1) (fun _ => .und) p (by omega) (by omega)
      | true =>
        rw [firstQ_t (show tooMany n l (fun i => isW (f i)) q i = true by unfold tooMany; rw [show ilt q (cntK n l (fun i => isW (f i)) (l i)) = true from cg, show (fun i => isW (f i)) i = true from cw]; rfl)]
        exact iter_round (rd91wc L n f l q t (gK l (fun i => isW (f i)) n) i j (ofNat_lt hl) (ofNat_in hl) cw (allN_iff.1 ho i hl) cg)

theorem told91w (n : Nat) (f : Nat → E6) (l : Nat → Int) (q : Int) (hn : n ≤ 4611686018427387904) (ho : okP n l = true) :
    (finF (evalF tab (cxOf Gl tb91 [(0, lp91w n f l q), (2, lp91_2w n f l q)]) Tryz.f44 [intsV n l, .fn 43 [.pp (.agg [edgesV n f])], iV q] [])).sem = some (.tup [iV (crR n l (fun i => isW (f i)) q).1, bV (crR n l (fun i => isW (f i)) q).2], []) := by
  have hL := loopsBy_le [(0, lp91w n f l q), (2, lp91_2w n f l q)]
  have h0 := fun L j => run91w L n f l q hn ho n 0 j (n + 1) (by omega) (by omega)
  have h2 := fun L j => run91dw L n f l q (cntB (fun i => isW (f i)) n) hn ho n 0 j (n + 1) (by omega) (by omega)
  rw [gK_0] at h0
  unfold crR
  cases c1 : firstQ (tooMany n l (fun i => isW (f i)) q) n 0 with
  | some m =>
    rw [c1] at h2
    exact told_le (onP_le (onP_le hL hL) hL) _ (wc91wh _ _ _ n f l q (cntB (fun i => isW (f i)) n) (gK l (fun i => isW (f i)) n) n m (isP_true (h0 _ _)) (isP_true (h2 _ _)))
  | none =>
    rw [c1] at h2
    exact told_le (onP_le (onP_le hL hL) hL) _ (wc91we _ _ _ n f l q (cntB (fun i => isW (f i)) n) (gK l (fun i => isW (f i)) n) n 0 (isP_true (h0 _ _)) (isP_true (h2 _ _)))
def lp91t (n : Nat) (l : Nat → Int) (q : Int) : Lp := ⟨[true, true, true, false, false, false, true, true, true, false, false, false, false, false, true, true, true, false, false, false, false, false, false, false, false, false, false, false, false, false, false, false, false, false, false, false, false, false, false, false, false, false, false, false, false, false, false, false], 1, [true, true, true, false, false, false, true, true, true, false, false, false, false, false, false, false, false, false, false, false, false, false, false, false, false, false, false, false, false, false, false, false, false, false, false, false, false, false, false, false, false, false, false, false, false, false, false, false], 1, n + 1⟩
def st91t (n : Nat) (l : Nat → Int) (q : Int) (t : Nat) (g : Int → Int) (i : Nat) (j : Nat → V) : St := ⟨[.sl 1 n (fun k => iV (l k)), .fn 46 [], iV q, j 3, j 4, j 5, iV 0, bV false, .ref 0, j 9, j 10, j 11, j 12, j 13, .sl 1 n (fun k => iV (l k)), iV (Int.ofNat n), iV (Int.ofNat i), j 17, j 18, j 19, j 20, j 21, j 22, j 23, j 24, j 25, j 26, j 27, j 28, j 29, j 30, j 31, j 32, j 33, j 34, j 35, j 36, j 37, j 38, j 39, j 40, j 41, j 42, j 43, j 44, j 45, j 46, j 47], [.imap 102 t g]⟩
def en91te (n : Nat) (l : Nat → Int) (q : Int) (t : Nat) (g : Int → Int) (i : Nat) : Ex × St := (.ex 0, ⟨[.sl 1 n (fun k => iV (l k)), .fn 46 [], iV q, .und, .und, .und, iV 0, bV false, .ref 0, .und, .und, .und, .und, .und, .und, .und, .und, .und, .und, .und, .und, .und, .und, .und, .und, .und, .und, .und, .und, .und, .und, .und, .und, .und, .und, .und, .und, .und, .und, .und, .und, .und, .und, .und, .und, .und, .und, .und], [.imap 102 t g]⟩)
noncomputable def body91t (L : Nat → (St → T (Ex × St)) → St → T (Ex × St)) : St → T (Ex × St) := fun st => evalC tab ⟨callT tb91, L, Gl⟩ (loopBody Tryz.f44 0) 0 st
theorem rc91te (L : Nat → (St → T (Ex × St)) → St → T (Ex × St)) (n : Nat) (l : Nat → Int) (q : Int) (t : Nat) (g : Int → Int) (i : Nat)  (j : Nat → V) (h0 : ilt (Int.ofNat i) (Int.ofNat n) = false) : ((body91t L (st91t n l q t g i j)).bind fun r => T.leaf (cutR (lp91t n l q) r)).sem = some ((.ex 0), ⟨[(.sl 1 n (fun k => (iV (l k)))), (.fn 46 []), (iV q), .und, .und, .und, (iV 0), (bV Bool.false), (.ref 0), .und, .und, .und, .und, .und, .und, .und, .und, .und, .und, .und, .und, .und, .und, .und, .und, .und, .und, .und, .und, .und, .und, .und, .und, .und, .und, .und, .und, .und, .und, .und, .und, .und, .und, .und, .und, .und, .und, .und], [(.imap 102 t g)]⟩) := by
  exact sem_of_path (ds := [false]) (cs := [(ilt (Int.ofNat i) (Int.ofNat n))]) (by kernel_rfl) (by simp only [h0] <;> rfl)
theorem rc91ty (L : Nat → (St → T (Ex × St)) → St → T (Ex × St)) (n : Nat) (l : Nat → Int) (q : Int) (t : Nat) (g : Int → Int) (i : Nat)  (j : Nat → V) (h0 : ilt (Int.ofNat i) (Int.ofNat n) = true) (h1 : band (ile 0 (Int.ofNat i)) (ilt (Int.ofNat i) (Int.ofNat n)) = true) (h3 : fitI (l i) = true) (h2 : nlt t 4611686018427387904 = true) (h4 : fitI (wr IntKind.i64 (iadd (g (l i)) 1)) = true) : ((body91t L (st91t n l q t g i j)).bind fun r => T.leaf (cutR (lp91t n l q) r)).sem = some (.nm, ⟨[(.sl 1 n (fun k => (iV (l k)))), (.fn 46 []), (iV q), .und, .und, .und, (iV 0), (bV Bool.false), (.ref 0), .und, .und, .und, .und, .und, (.sl 1 n (fun k => (iV (l k)))), (iV (Int.ofNat n)), (iV (wr IntKind.i64 (iadd (Int.ofNat i) 1))), .und, .und, .und, .und, .und, .und, .und, .und, .und, .und, .und, .und, .und, .und, .und, .und, .und, .und, .und, .und, .und, .und, .und, .und, .und, .und, .und, .und, .und, .und, .und], [(.imap 102 (nadd t 1) (fun z => (sel (ieq z (l i)) (wr IntKind.i64 (iadd (g (l i)) 1)) (g z))))]⟩) := by
  exact sem_of_path (ds := [true, true, true, true, true, true, true]) (cs := [(ilt (Int.ofNat i) (Int.ofNat n)), (band (ile 0 (Int.ofNat i)) (ilt (Int.ofNat i) (Int.ofNat n))), Bool.true, (fitI (l i)), (nlt t 4611686018427387904), (fitI (l i)), (fitI (wr IntKind.i64 (iadd (g (l i)) 1)))]) (by kernel_rfl) (by simp only [h1] <;> simp only [h0, h3, h2, h4] <;> rfl)
def jk91t (n : Nat) (l : Nat → Int) (q : Int)  : Nat → V
  | 13 => (.ref 0)
  | _ => undefV

def lp91_2t (n : Nat) (l : Nat → Int) (q : Int) : Lp := ⟨[false, true, true, false, false, false, true, true, true, false, false, false, false, false, false, false, false, false, false, false, false, false, false, false, false, false, false, false, false, true, true, true, false, false, false, false, false, false, false, false, false, false, false, false, false, false, false, false], 1, [false, false, false, false, false, false, true, true, false, false, false, false, false, false, false, false, false, false, false, false, false, false, false, false, false, false, false, false, false, false, false, false, false, false, false, false, false, false, false, false, false, false, false, false, false, false, false, false], 0, n + 1⟩
def st91_2t (n : Nat) (l : Nat → Int) (q : Int) (t : Nat) (g : Int → Int) (i : Nat) (j : Nat → V) : St := ⟨[j 0, .fn 46 [], iV q, j 3, j 4, j 5, iV 0, bV false, .ref 0, j 9, j 10, j 11, j 12, j 13, j 14, j 15, j 16, j 17, j 18, j 19, j 20, j 21, j 22, j 23, j 24, j 25, j 26, j 27, j 28, .sl 1 n (fun k => iV (l k)), iV (Int.ofNat n), iV (Int.ofNat i), j 32, j 33, j 34, j 35, j 36, j 37, j 38, j 39, j 40, j 41, j 42, j 43, j 44, j 45, j 46, j 47], [.imap 102 t g]⟩
def en91_2te (n : Nat) (l : Nat → Int) (q : Int) (t : Nat) (g : Int → Int) (i : Nat) : Ex × St := (.ex 2, ⟨[.und, .und, .und, .und, .und, .und, iV 0, bV false, .und, .und, .und, .und, .und, .und, .und, .und, .und, .und, .und, .und, .und, .und, .und, .und, .und, .und, .und, .und, .und, .und, .und, .und, .und, .und, .und, .und, .und, .und, .und, .und, .und, .und, .und, .und, .und, .und, .und, .und], []⟩)
def en91_2th (n : Nat) (l : Nat → Int) (q : Int) (t : Nat) (g : Int → Int) (i : Nat) : Ex × St := (.rt, ⟨[.und, .und, .und, .und, .und, .und, iV (Int.ofNat i), bV true, .und, .und, .und, .und, .und, .und, .und, .und, .und, .und, .und, .und, .und, .und, .und, .und, .und, .und, .und, .und, .und, .und, .und, .und, .und, .und, .und, .und, .und, .und, .und, .und, .und, .und, .und, .und, .und, .und, .und, .und], []⟩)
noncomputable def body91_2t (L : Nat → (St → T (Ex × St)) → St → T (Ex × St)) : St → T (Ex × St) := fun st => evalC tab ⟨callT tb91, L, Gl⟩ (loopBody Tryz.f44 2) 2 st
theorem rd91te (L : Nat → (St → T (Ex × St)) → St → T (Ex × St)) (n : Nat) (l : Nat → Int) (q : Int) (t : Nat) (g : Int → Int) (i : Nat)  (j : Nat → V) (h0 : ilt (Int.ofNat i) (Int.ofNat n) = false) : ((body91_2t L (st91_2t n l q t g i j)).bind fun r => T.leaf (cutR (lp91_2t n l q) r)).sem = some ((.ex 2), ⟨[.und, .und, .und, .und, .und, .und, (iV 0), (bV Bool.false), .und, .und, .und, .und, .und, .und, .und, .und, .und, .und, .und, .und, .und, .und, .und, .und, .und, .und, .und, .und, .und, .und, .und, .und, .und, .und, .und, .und, .und, .und, .und, .und, .und, .und, .und, .und, .und, .und, .und, .und], []⟩) := by
  exact sem_of_path (ds := [false]) (cs := [(ilt (Int.ofNat i) (Int.ofNat n))]) (by kernel_rfl) (by simp only [h0] <;> rfl)
theorem rd91tb (L : Nat → (St → T (Ex × St)) → St → T (Ex × St)) (n : Nat) (l : Nat → Int) (q : Int) (t : Nat) (g : Int → Int) (i : Nat)  (j : Nat → V) (h0 : ilt (Int.ofNat i) (Int.ofNat n) = true) (h1 : band (ile 0 (Int.ofNat i)) (ilt (Int.ofNat i) (Int.ofNat n)) = true) (h2 : fitI (l i) = true) (h3 : ilt q (g (l i)) = false) : ((body91_2t L (st91_2t n l q t g i j)).bind fun r => T.leaf (cutR (lp91_2t n l q) r)).sem = some (.nm, ⟨[.und, (.fn 46 []), (iV q), .und, .und, .und, (iV 0), (bV Bool.false), (.ref 0), .und, .und, .und, .und, .und, .und, .und, .und, .und, .und, .und, .und, .und, .und, .und, .und, .und, .und, .und, .und, (.sl 1 n (fun k => (iV (l k)))), (iV (Int.ofNat n)), (iV (wr IntKind.i64 (iadd (Int.ofNat i) 1))), .und, .und, .und, .und, .und, .und, .und, .und, .und, .und, .und, .und, .und, .und, .und, .und], [(.imap 102 t g)]⟩) := by
  exact sem_of_path (ds := [true, true, true, true, true, true, true, true, true, false]) (cs := [(ilt (Int.ofNat i) (Int.ofNat n)), (band (ile 0 (Int.ofNat i)) (ilt (Int.ofNat i) (Int.ofNat n))), Bool.true, Bool.true, Bool.true, (fitI (l i)), Bool.true, Bool.true, Bool.true, (ilt q (g (l i)))]) (by kernel_rfl) (by simp only [h1] <;> simp only [h0, h2, h3] <;> rfl)
theorem rd91tc (L : Nat → (St → T (Ex × St)) → St → T (Ex × St)) (n : Nat) (l : Nat → Int) (q : Int) (t : Nat) (g : Int → Int) (i : Nat)  (j : Nat → V) (h0 : ilt (Int.ofNat i) (Int.ofNat n) = true) (h1 : band (ile 0 (Int.ofNat i)) (ilt (Int.ofNat i) (Int.ofNat n)) = true) (h2 : fitI (l i) = true) (h3 : ilt q (g (l i)) = true) : ((body91_2t L (st91_2t n l q t g i j)).bind fun r => T.leaf (cutR (lp91_2t n l q) r)).sem = some (.rt, ⟨[.und, .und, .und, .und, .und, .und, (iV (Int.ofNat i)), (bV Bool.true), .und, .und, .und, .und, .und, .und, .und, .und, .und, .und, .und, .und, .und, .und, .und, .und, .und, .und, .und, .und, .und, .und, .und, .und, .und, .und, .und, .und, .und, .und, .und, .und, .und, .und, .und, .und, .und, .und, .und, .und], []⟩) := by
  exact sem_of_path (ds := [true, true, true, true, true, true, true, true, true, true]) (cs := [(ilt (Int.ofNat i) (Int.ofNat n)), (band (ile 0 (Int.ofNat i)) (ilt (Int.ofNat i) (Int.ofNat n))), Bool.true, Bool.true, Bool.true, (fitI (l i)), Bool.true, Bool.true, Bool.true, (ilt q (g (l i)))]) (by kernel_rfl) (by simp only [h1] <;> simp only [h0, h2, h3] <;> rfl)
def jk91_2t (n : Nat) (l : Nat → Int) (q : Int) (t : Nat) (g : Int → Int) (i : Nat) : Nat → V
  | 0 => (.sl 1 n (fun k => (iV (l k))))
  | 3 => .und
  | 4 => .und
  | 5 => .und
  | 9 => .und
  | 10 => .und
  | 11 => .und
  | 12 => .und
  | 13 => .und
  | 14 => .und
  | 15 => .und
  | 16 => .und
  | 17 => .und
  | 18 => .und
  | 19 => .und
  | 20 => .und
  | 21 => .und
  | 22 => .und
  | 23 => .und
  | 24 => .und
  | 25 => .und
  | 26 => .und
  | 27 => .und
  | 28 => .und
  | 32 => .und
  | 33 => .und
  | 34 => .und
  | 35 => .und
  | 36 => .und
  | 37 => .und
  | 38 => .und
  | 39 => .und
  | 40 => .und
  | 41 => .und
  | 42 => .und
  | 43 => .und
  | 44 => .und
  | 45 => .und
  | 46 => .und
  | 47 => .und
  | _ => undefV

theorem wc91te (L : Nat → (St → T (Ex × St)) → St → T (Ex × St)) (p0 : (St → T (Ex × St)) → St → Bool) (p2 : (St → T (Ex × St)) → St → Bool) (n : Nat) (l : Nat → Int) (q : Int) (t : Nat) (g : Int → Int) (i m : Nat)  (hp0 : p0 (body91t (onP 0 p0 (en91te n l q t g i) (onP 2 p2 (en91_2te n l q t g m) L))) (st91t n l q 0 (fun _ => 0) 0 (jk91t n l q )) = true) (hp2 : p2 (body91_2t (onP 0 p0 (en91te n l q t g i) (onP 2 p2 (en91_2te n l q t g m) L))) (st91_2t n l q t g 0 (jk91_2t n l q t g i)) = true) : (finF (evalF tab ⟨callT tb91, (onP 0 p0 (en91te n l q t g i) (onP 2 p2 (en91_2te n l q t g m) L)), Gl⟩ Tryz.f44 [intsV n l, .fn 46 [], iV q] [])).sem = some ((.tup [(iV 0), (bV Bool.false)]), []) := by
  exact sem_of_path (ds := [true, true]) (cs := [(p0 (body91t (onP 0 p0 (en91te n l q t g i) (onP 2 p2 (en91_2te n l q t g m) L))) (st91t n l q 0 (fun _ => 0) 0 (jk91t n l q ))), (p2 (body91_2t (onP 0 p0 (en91te n l q t g i) (onP 2 p2 (en91_2te n l q t g m) L))) (st91_2t n l q t g 0 (jk91_2t n l q t g i)))]) (by kernel_rfl) (by simp only [hp0, hp2] <;> rfl)

theorem wc91th (L : Nat → (St → T (Ex × St)) → St → T (Ex × St)) (p0 : (St → T (Ex × St)) → St → Bool) (p2 : (St → T (Ex × St)) → St → Bool) (n : Nat) (l : Nat → Int) (q : Int) (t : Nat) (g : Int → Int) (i m : Nat)  (hp0 : p0 (body91t (onP 0 p0 (en91te n l q t g i) (onP 2 p2 (en91_2th n l q t g m) L))) (st91t n l q 0 (fun _ => 0) 0 (jk91t n l q )) = true) (hp2 : p2 (body91_2t (onP 0 p0 (en91te n l q t g i) (onP 2 p2 (en91_2th n l q t g m) L))) (st91_2t n l q t g 0 (jk91_2t n l q t g i)) = true) : (finF (evalF tab ⟨callT tb91, (onP 0 p0 (en91te n l q t g i) (onP 2 p2 (en91_2th n l q t g m) L)), Gl⟩ Tryz.f44 [intsV n l, .fn 46 [], iV q] [])).sem = some ((.tup [(iV (Int.ofNat m)), (bV Bool.true)]), []) := by
  exact sem_of_path (ds := [true, true]) (cs := [(p0 (body91t (onP 0 p0 (en91te n l q t g i) (onP 2 p2 (en91_2th n l q t g m) L))) (st91t n l q 0 (fun _ => 0) 0 (jk91t n l q ))), (p2 (body91_2t (onP 0 p0 (en91te n l q t g i) (onP 2 p2 (en91_2th n l q t g m) L))) (st91_2t n l q t g 0 (jk91_2t n l q t g i)))]) (by kernel_rfl) (by simp only [hp0, hp2] <;> rfl)

theorem run91t (L : Nat → (St → T (Ex × St)) → St → T (Ex × St)) (n : Nat) (l : Nat → Int) (q : Int) (hn : n ≤ 4611686018427387904) (ho : okP n l = true) : ∀ (d i : Nat) (j : Nat → V) (p : Nat), n = i + d → d < p →
    (iterT (body91t L) (lp91t n l q) p (st91t n l q (cntB (fun _ => true) i) (gK l (fun _ => true) i) i j)).sem = some (en91te n l q (cntB (fun _ => true) n) (gK l (fun _ => true) n) n)
  | 0, i, j, p + 1, h, _ => by
    have : n = i := by omega
    subst this
    exact iter_round (rc91te L n l q (cntB (fun _ => true) n) (gK l (fun _ => true) n) n j (ofNat_ge (Nat.le_refl _)))
  | d + 1, i, j, p + 1, h, h2 => by
    have hl : i < n := by omega
    have hc := cntB_le (fun _ => true) i
    have hc2 := cntB_le (cntP l (fun _ => true) (l i)) i
    have ht : nlt (cntB (fun _ => true) i) 4611686018427387904 = true := by simp only [nlt, decide_eq_true_eq]; omega
    have hf : fitI (wr IntKind.i64 (iadd (gK l (fun _ => true) i (l i)) 1)) = true := by
      show fitI (wr IntKind.i64 (iadd (Int.ofNat (cntB (cntP l (fun _ => true) (l i)) i)) 1)) = true
      rw [succ_wr (show cntB (cntP l (fun _ => true) (l i)) i < n by omega) hn]
      exact fit_cnt (by omega)
    rw [iter_round (rc91ty L n l q (cntB (fun _ => true) i) (gK l (fun _ => true) i) i j (ofNat_lt hl) (ofNat_in hl) (allN_iff.1 ho i hl) ht hf), goOn_nm, succ_wr hl hn, gK_yes (l := l) (c := (fun _ => true)) (i := i) rfl hl hn, show nadd (cntB (fun _ => true) i) 1 = cntB (fun _ => true) (i + 1) from (cntB_t (p := (fun _ => true)) rfl).symm]
    exact run91t L n l q hn ho d (i + 1) (fun _ => .und) p (by omega) (by omega)

theorem run91dt (L : Nat → (St → T (Ex × St)) → St → T (Ex × St)) (n : Nat) (l : Nat → Int) (q : Int) (t : Nat) (hn : n ≤ 4611686018427387904) (ho : okP n l = true) : ∀ (d i : Nat) (j : Nat → V) (p : Nat), n = i + d → d < p →
    (iterT (body91_2t L) (lp91_2t n l q) p (st91_2t n l q t (gK l (fun _ => true) n) i j)).sem = some (match firstQ (tooMany n l (fun _ => true) q) d i with
      | none => en91_2te n l q t (gK l (fun _ => true) n) 0
      | some m => en91_2th n l q t (gK l (fun _ => true) n) m)
  | 0, i, j, p + 1, h, _ => by
    have : n = i := by omega
    subst this
    exact iter_round (rd91te L n l q t (gK l (fun _ => true) n) n j (ofNat_ge (Nat.le_refl _)))
  | d + 1, i, j, p + 1, h, h2 => by
    have hl : i < n := by omega
    cases cg : ilt q (gK l (fun _ => true) n (l i)) with
    | false =>
      rw [firstQ_f (show tooMany n l (fun _ => true) q i = false by unfold tooMany; rw [show ilt q (cntK n l (fun _ => true) (l i)) = false from cg]; cases (fun _ => true) i <;> rfl), iter_round (rd91tb L n l q t (gK l (fun _ => true) n) i j (ofNat_lt hl) (ofNat_in hl) (allN_iff.1 ho i hl) cg), goOn_nm, succ_wr hl hn]
      exact run91dt L n l q t hn ho d (i + 1) (fun _ => .und) p (by omega) (by omega)
    | true =>
      rw [firstQ_t (show tooMany n l (fun _ => true) q i = true by unfold tooMany; rw [show ilt q (cntK n l (fun _ => true) (l i)) = true from cg, show (fun _ => true) i = true from rfl]; rfl)]
      exact iter_round (rd91tc L n l q t (gK l (fun _ => true) n) i j (ofNat_lt hl) (ofNat_in hl) (allN_iff.1 ho i hl) cg)

theorem told91t (n : Nat) (l : Nat → Int) (q : Int) (hn : n ≤ 4611686018427387904) (ho : okP n l = true) :
    (finF (evalF tab (cxOf Gl tb91 [(0, lp91t n l q), (2, lp91_2t n l q)]) Tryz.f44 [intsV n l, .fn 46 [], iV q] [])).sem = some (.tup [iV (crR n l (fun _ => true) q).1, bV (crR n l (fun _ => true) q).2], []) := by
  have hL := loopsBy_le [(0, lp91t n l q), (2, lp91_2t n l q)]
  have h0 := fun L j => run91t L n l q hn ho n 0 j (n + 1) (by omega) (by omega)
  have h2 := fun L j => run91dt L n l q (cntB (fun _ => true) n) hn ho n 0 j (n + 1) (by omega) (by omega)
  rw [gK_0] at h0
  unfold crR
  cases c1 : firstQ (tooMany n l (fun _ => true) q) n 0 with
  | some m =>
    rw [c1] at h2
    exact told_le (onP_le (onP_le hL hL) hL) _ (wc91th _ _ _ n l q (cntB (fun _ => true) n) (gK l (fun _ => true) n) n m (isP_true (h0 _ _)) (isP_true (h2 _ _)))
  | none =>
    rw [c1] at h2
    exact told_le (onP_le (onP_le hL hL) hL) _ (wc91te _ _ _ n l q (cntB (fun _ => true) n) (gK l (fun _ => true) n) n 0 (isP_true (h0 _ _)) (isP_true (h2 _ _)))

def crowdT : List V → T (V × List Blk)
  | [u, .fn 43 [.pp (.agg [v])], .val (.int .i64 q)] => apI u fun m l => apL v fun n f => .br (nbeq n m) (.br (smallN n) (.br (okP m l) (out (.tup [iV (crR m l (fun i => isW (f i)) q).1, bV (crR m l (fun i => isW (f i)) q).2])) .fail) .fail) .fail
  | [u, .fn 46 [], .val (.int .i64 q)] => apI u fun m l => .br (smallN m) (.br (okP m l) (out (.tup [iV (crR m l (fun _ => true) q).1, bV (crR m l (fun _ => true) q).2])) .fail) .fail
  | _ => .fail

theorem p91 : PureC Tryz.prog Gl 44 crowdT := by
  refine pureC_intro tabOK mixed Tryz.func44 (by kernel_rfl) (by kernel_rfl) fun vs v h' h => ?_
  unfold crowdT at h
  split at h
  · rename_i u1 v1 q
    obtain ⟨m, l, ha, h1⟩ := apI_some h
    obtain ⟨n, f, hb, h2⟩ := apL_some h1
    obtain ⟨hm, h3⟩ := sem_br_fail h2
    obtain ⟨hn, h4⟩ := sem_br_fail h3
    obtain ⟨ho, hq⟩ := sem_br_fail h4
    have hm : n = m := Nat.eq_of_beq_eq_true hm
    subst hm
    have := sem_leaf hq
    simp only [Prod.mk.injEq] at this
    obtain ⟨rfl, rfl⟩ := this
    have hn : n ≤ 4611686018427387904 := of_decide_eq_true hn
    have hA : ArgLE [u1, .fn 43 [.pp (.agg [v1])], .val (.int .i64 q)] [intsV n l, .fn 43 [.pp (.agg [edgesV n f])], iV q] := fun S w cs hv => by
      obtain ⟨c, l1, rfl, q1, c2, l2, rfl, ⟨ca, q4, c5, l5, q5, q6, q7⟩, q3⟩ := hv
      exact ⟨c, _, rfl, ha S w c q1, c2, l2, rfl, ⟨ca, q4, c5, l5, q5, pp_le hb S w noK c5 q6, q7⟩, q3⟩
    have hx := cx_ok tb91_ok [(0, lp91w n f l q), (2, lp91_2w n f l q)]
    exact ⟨_, cxOf Gl tb91 [(0, lp91w n f l q), (2, lp91_2w n f l q)], _, hA, rfl, hx.1, hx.2, told91w n f l q hn ho, RowsLE.refl _⟩
  · rename_i u1 q
    obtain ⟨n, l, ha, h1⟩ := apI_some h
    obtain ⟨hn, h4⟩ := sem_br_fail h1
    obtain ⟨ho, hq⟩ := sem_br_fail h4
    have := sem_leaf hq
    simp only [Prod.mk.injEq] at this
    obtain ⟨rfl, rfl⟩ := this
    have hn : n ≤ 4611686018427387904 := of_decide_eq_true hn
    have hA : ArgLE [u1, .fn 46 [], .val (.int .i64 q)] [intsV n l, .fn 46 [], iV q] := fun S w cs hv => by
      obtain ⟨c, l1, rfl, q1, q3⟩ := hv
      exact ⟨c, _, rfl, ha S w c q1, q3⟩
    have hx := cx_ok tb91_ok [(0, lp91t n l q), (2, lp91_2t n l q)]
    exact ⟨_, cxOf Gl tb91 [(0, lp91t n l q), (2, lp91_2t n l q)], _, hA, rfl, hx.1, hx.2, told91t n l q hn ho, RowsLE.refl _⟩
  · cases h

end Go.Proofs.YtkcbdemfmjciiaaGreatDoor.Ed




