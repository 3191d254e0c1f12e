/-
  The law FamilyKnown as a function: its end. Conditions: the listed variables read as listed.
-/
import Derived.Test.YtkcbdemfmjciiaaDoorFaH
namespace Go.Proofs.YtkcbdemfmjciiaaDoor.Fa
open Go.Sy Go Go.Proofs.YtkcbdemfmjciiaaDoor.Ed


theorem onP_mono {L M : Nat → (St → T (Ex × St)) → St → T (Ex × St)} (hL : LLe L L) (hM : LLe M M) (k : Nat) (r : Ex × St) : LLe (onP k (isP L k r) r M) (onP k (isP L k r) r M) := fun id f f' st hf r' hr => by
  unfold onP at hr ⊢
  cases hk : Nat.beq id k with
  | true =>
    rw [hk] at hr
    obtain ⟨h1, h2⟩ := sem_br_fail hr
    unfold isP at h1
    have h1 := @of_decide_eq_true _ (Classical.propDecidable _) h1
    have h3 : isP L k r f' st = true := isP_true (hL k f f' st hf _ h1)
    show sel (isP L k r f' st) _ _ = _
    rw [h3]
    exact h2
  | false =>
    rw [hk] at hr
    exact hM id f f' st hf _ hr

def law5T : List V → T (V × List Blk)
  | [.val (.int .i64 _), u] => apI u fun _ _ => .leaf (bV true, [])
  | _ => .fail

theorem ent5p_eq (n : Int) (m : Nat) (g : Nat → Int) : ent5p n m g = st5 n m g (itmod n 25) (psN (bareS (famK (famS (toN (itmod n 25)))))) (fun i => psG (bareS (famK (famS (toN (itmod n 25))))) i) 1 (fun i => nth (ent5p n m g).t i) := by kernel_rfl
theorem ent5q_eq (n : Int) (m : Nat) (g : Nat → Int) : ent5q n m g = st5 n m g (wr IntKind.i64 (iadd (itmod n 25) 25)) (psN (bareS (famK (famS (toN (wr IntKind.i64 (iadd (itmod n 25) 25))))))) (fun i => psG (bareS (famK (famS (toN (wr IntKind.i64 (iadd (itmod n 25) 25)))))) i) 1 (fun i => nth (ent5q n m g).t i) := by kernel_rfl
theorem ent5p2_eq (n : Int) (m : Nat) (g : Nat → Int) : ent5p2 n m g = st5_2 n m g (itmod n 25) (psN (bareS (famK (famS (toN (itmod n 25)))))) (fun i => psG (bareS (famK (famS (toN (itmod n 25))))) i) 0 (fun i => turnE (psN (bareS (famK (famS (toN (itmod n 25)))))) (fun i => (psG (bareS (famK (famS (toN (itmod n 25))))) i)) n i) (fun i => nth (ent5p2 n m g).t i) := by kernel_rfl
theorem ent5q2_eq (n : Int) (m : Nat) (g : Nat → Int) : ent5q2 n m g = st5_2 n m g (wr IntKind.i64 (iadd (itmod n 25) 25)) (psN (bareS (famK (famS (toN (wr IntKind.i64 (iadd (itmod n 25) 25))))))) (fun i => psG (bareS (famK (famS (toN (wr IntKind.i64 (iadd (itmod n 25) 25)))))) i) 0 (fun i => turnE (psN (bareS (famK (famS (toN (wr IntKind.i64 (iadd (itmod n 25) 25))))))) (fun i => (psG (bareS (famK (famS (toN (wr IntKind.i64 (iadd (itmod n 25) 25)))))) i)) n i) (fun i => nth (ent5q2 n m g).t i) := by kernel_rfl
theorem ent5p4_eq (n : Int) (m : Nat) (g : Nat → Int) (b : Nat) (z : Nat → E6) : cutS [] 1 (ent5p4 n m g b z) = st5_4 n m g (itmod n 25) (famT (psN (bareS (famK (famS (toN (itmod n 25)))))) z) (famE (psN (bareS (famK (famS (toN (itmod n 25)))))) z) 0 (fun i => nth (cutS [] 1 (ent5p4 n m g b z)).t i) := by kernel_rfl
theorem ent5q4_eq (n : Int) (m : Nat) (g : Nat → Int) (b : Nat) (z : Nat → E6) : cutS [] 1 (ent5q4 n m g b z) = st5_4 n m g (wr IntKind.i64 (iadd (itmod n 25) 25)) (famT (psN (bareS (famK (famS (toN (wr IntKind.i64 (iadd (itmod n 25) 25))))))) z) (famE (psN (bareS (famK (famS (toN (wr IntKind.i64 (iadd (itmod n 25) 25))))))) z) 0 (fun i => nth (cutS [] 1 (ent5q4 n m g b z)).t i) := by kernel_rfl

/-- Loop k begins with less. -/
def loopsC (k : Nat) (ks : List Bool) (c : Nat) (loops : List (Nat × Lp)) (id : Nat) (f : St → T (Ex × St)) (st : St) : T (Ex × St) :=
  match Nat.beq id k with
  | true => loopsBy loops id f (cutS ks c st)
  | false => loopsBy loops id f st

theorem loopsC_le (k : Nat) (ks : List Bool) (c : Nat) (ls : List (Nat × Lp)) : LLe (loopsC k ks c ls) (loopsC k ks c ls) := fun id f f' st h => by
  unfold loopsC
  split
  · exact loopsBy_le ls id f f' _ h
  · exact loopsBy_le ls id f f' _ h

def cxC (G : Nat → V) (tbl : List (Nat × (List V → T (V × List Blk)))) (k : Nat) (ks : List Bool) (c : Nat) (loops : List (Nat × Lp)) : Cx := ⟨callT tbl, loopsC k ks c loops, G⟩

theorem cxC_ok {P : Program} {G : Nat → V} {tbl : List (Nat × (List V → T (V × List Blk)))} (h : AllPure P G tbl) (k : Nat) (ks : List Bool) (c : Nat) (loops : List (Nat × Lp)) : CallOK P (cxC G tbl k ks c loops).base ∧ LoopOK (cxC G tbl k ks c loops) := by
  refine ⟨callT_ok rfl h, fun id f st r hr => ?_⟩
  have hr : (loopsC k ks c loops id f st).sem = some r := hr
  have by' : ∀ st, (loopsBy loops id f st).sem = some r → ∃ l m, (iterT f l m st).sem = some r := fun st hr => by
    unfold loopsBy at hr
    split at hr
    · exact ⟨_, _, hr⟩
    · cases hr
  unfold loopsC at hr
  split at hr
  · obtain ⟨l, m, h1⟩ := by' _ hr
    exact ⟨_, l, m, LE_cut _ _ _, h1⟩
  · obtain ⟨l, m, h1⟩ := by' _ hr
    exact ⟨st, l, m, LE.refl _, h1⟩

theorem loops5_2 (n : Int) (m : Nat) (g : Nat → Int) (f : St → T (Ex × St)) (st : St) : loopsC 4 [] 1 [(0, lp5 n m g), (2, lp5_2 n m g), (4, lp5_4 n m g), (6, lp5_6 n m g)] 2 f st = iterT f (lp5_2 n m g) (m + 1) st := rfl
theorem loops5_4 (n : Int) (m : Nat) (g : Nat → Int) (f : St → T (Ex × St)) (st : St) : loopsC 4 [] 1 [(0, lp5 n m g), (2, lp5_2 n m g), (4, lp5_4 n m g), (6, lp5_6 n m g)] 4 f st = iterT f (lp5_4 n m g) 26 (cutS [] 1 st) := rfl

theorem main5p (n : Int) (m : Nat) (g : Nat → Int) (hn : ilt (itmod n 25) 0 = false) (hX : toN (itmod n 25) < 25) (hX0 : band (ile 0 (itmod n 25)) (ilt (itmod n 25) 25) = true) :
    (finF (evalF tab (cxC Gl tb5f 4 [] 1 [(0, lp5 n m g), (2, lp5_2 n m g), (4, lp5_4 n m g), (6, lp5_6 n m g)]) Tryd.f5 [iV n, intsV m g] [])).sem = some (bV true, []) := by
  obtain ⟨hf, hk⟩ := known_fam hX
  have hK : (famK (famS (toN (itmod n 25)))) < 25 := by rw [hk]; exact hX
  obtain ⟨hc1, hc2⟩ := check_fam hK
  have hL := loopsC_le 4 [] 1 [(0, lp5 n m g), (2, lp5_2 n m g), (4, lp5_4 n m g), (6, lp5_6 n m g)]
  have h4 := onP_mono hL hL 4 (en5_4e n m g (itmod n 25) (famT (psN (bareS (famK (famS (toN (itmod n 25)))))) (zRun m (psN (bareS (famK (famS (toN (itmod n 25)))))) g m 0 (fun i => turnE (psN (bareS (famK (famS (toN (itmod n 25)))))) (fun i => psG (bareS (famK (famS (toN (itmod n 25))))) i) n i))) (famE (psN (bareS (famK (famS (toN (itmod n 25)))))) (zRun m (psN (bareS (famK (famS (toN (itmod n 25)))))) g m 0 (fun i => turnE (psN (bareS (famK (famS (toN (itmod n 25)))))) (fun i => psG (bareS (famK (famS (toN (itmod n 25))))) i) n i))) 25)
  have h2 := onP_mono hL h4 2 (en5_2e n m g (itmod n 25) (psN (bareS (famK (famS (toN (itmod n 25)))))) (fun i => psG (bareS (famK (famS (toN (itmod n 25))))) i) 0 (zRun m (psN (bareS (famK (famS (toN (itmod n 25)))))) g m 0 (fun i => turnE (psN (bareS (famK (famS (toN (itmod n 25)))))) (fun i => psG (bareS (famK (famS (toN (itmod n 25))))) i) n i)))
  have h0 := onP_mono hL h2 0 (en5e n m g (itmod n 25) (psN (bareS (famK (famS (toN (itmod n 25)))))) (fun i => psG (bareS (famK (famS (toN (itmod n 25))))) i) 3)
  have hz := fam_z (m := m) (g := g) (n := n) hK
  have hz0 : famE (psN (bareS (famK (famS (toN (itmod n 25)))))) (fun i => psG (bareS (famK (famS (toN (itmod n 25))))) i) = 0 ∧ famT (psN (bareS (famK (famS (toN (itmod n 25)))))) (fun i => psG (bareS (famK (famS (toN (itmod n 25))))) i) = famS (famK (famS (toN (itmod n 25)))) := by
    unfold famE famT
    rw [of_fam hK, (bare_may hK).1]
    exact ⟨rfl, rfl⟩
  have hkk : famS (famK (famS (toN (itmod n 25)))) = famS (toN (itmod n 25)) := by rw [hk]
  have hfit : fitN (psN (bareS (famK (famS (toN (itmod n 25)))))) = true := (bare_may hK).2
  have hp0 : ∀ M', isP (loopsC 4 [] 1 [(0, lp5 n m g), (2, lp5_2 n m g), (4, lp5_4 n m g), (6, lp5_6 n m g)]) 0 (en5e n m g (itmod n 25) (psN (bareS (famK (famS (toN (itmod n 25)))))) (fun i => psG (bareS (famK (famS (toN (itmod n 25))))) i) 3) (body5 M') (ent5p n m g) = true := fun M' => isP_true (by
    rw [ent5p_eq]
    exact run5 M' n m g (itmod n 25) (psN (bareS (famK (famS (toN (itmod n 25)))))) (fun i => psG (bareS (famK (famS (toN (itmod n 25))))) i) hfit hc1 hc2 _)
  have hp2 : ∀ M', isP (loopsC 4 [] 1 [(0, lp5 n m g), (2, lp5_2 n m g), (4, lp5_4 n m g), (6, lp5_6 n m g)]) 2 (en5_2e n m g (itmod n 25) (psN (bareS (famK (famS (toN (itmod n 25)))))) (fun i => psG (bareS (famK (famS (toN (itmod n 25))))) i) 0 (zRun m (psN (bareS (famK (famS (toN (itmod n 25)))))) g m 0 (fun i => turnE (psN (bareS (famK (famS (toN (itmod n 25)))))) (fun i => psG (bareS (famK (famS (toN (itmod n 25))))) i) n i))) (body5_2 M') (ent5p2 n m g) = true := fun M' => isP_true (by
    rw [loops5_2, ent5p2_eq]
    exact run5z M' n m g (itmod n 25) (psN (bareS (famK (famS (toN (itmod n 25)))))) (fun i => psG (bareS (famK (famS (toN (itmod n 25))))) i) (Nat.le_trans (bareF_le hK) (by decide)) m 0 _ _ (m + 1) (by omega) (by omega))
  have hp4 : ∀ M', LLe M' M' → (∀ f' st, M' 6 f' st = iterT f' (lp5_6 n m g) 26 st) → isP (loopsC 4 [] 1 [(0, lp5 n m g), (2, lp5_2 n m g), (4, lp5_4 n m g), (6, lp5_6 n m g)]) 4 (en5_4e n m g (itmod n 25) (famT (psN (bareS (famK (famS (toN (itmod n 25)))))) (zRun m (psN (bareS (famK (famS (toN (itmod n 25)))))) g m 0 (fun i => turnE (psN (bareS (famK (famS (toN (itmod n 25)))))) (fun i => psG (bareS (famK (famS (toN (itmod n 25))))) i) n i))) (famE (psN (bareS (famK (famS (toN (itmod n 25)))))) (zRun m (psN (bareS (famK (famS (toN (itmod n 25)))))) g m 0 (fun i => turnE (psN (bareS (famK (famS (toN (itmod n 25)))))) (fun i => psG (bareS (famK (famS (toN (itmod n 25))))) i) n i))) 25) (body5_4 M') (ent5p4 n m g 0 (zRun m (psN (bareS (famK (famS (toN (itmod n 25)))))) g m 0 (fun i => turnE (psN (bareS (famK (famS (toN (itmod n 25)))))) (fun i => psG (bareS (famK (famS (toN (itmod n 25))))) i) n i))) = true := fun M' hM m6 => isP_true (by
    rw [loops5_4, ent5p4_eq]
    exact run5x M' hM n m g (itmod n 25) (famT (psN (bareS (famK (famS (toN (itmod n 25)))))) (zRun m (psN (bareS (famK (famS (toN (itmod n 25)))))) g m 0 (fun i => turnE (psN (bareS (famK (famS (toN (itmod n 25)))))) (fun i => psG (bareS (famK (famS (toN (itmod n 25))))) i) n i))) (famE (psN (bareS (famK (famS (toN (itmod n 25)))))) (zRun m (psN (bareS (famK (famS (toN (itmod n 25)))))) g m 0 (fun i => turnE (psN (bareS (famK (famS (toN (itmod n 25)))))) (fun i => psG (bareS (famK (famS (toN (itmod n 25))))) i) n i))) m6 25 0 _ 26 rfl (by omega))
  exact told_le (onP_le (onP_le (onP_le hL hL) hL) hL) _ (wf5p _ _ _ _ n m g 0 (zRun m (psN (bareS (famK (famS (toN (itmod n 25)))))) g m 0 (fun i => turnE (psN (bareS (famK (famS (toN (itmod n 25)))))) (fun i => psG (bareS (famK (famS (toN (itmod n 25))))) i) n i)) hn hX0 (decide_eq_true hX) hf hfit (by rw [hz0.1]; rfl) (by rw [hz0.2, hkk]; exact seq_rfl _) (rowsBare_iV) (by rw [hz.1]; rfl) (by rw [hz.2, hkk]; exact seq_rfl _) (hp0 _) (hp2 _) (hp4 _ h0 (fun _ _ => rfl)))

theorem main5q (n : Int) (m : Nat) (g : Nat → Int) (hn : ilt (itmod n 25) 0 = true) (hX : toN (wr IntKind.i64 (iadd (itmod n 25) 25)) < 25) (hX0 : band (ile 0 (wr IntKind.i64 (iadd (itmod n 25) 25))) (ilt (wr IntKind.i64 (iadd (itmod n 25) 25)) 25) = true) :
    (finF (evalF tab (cxC Gl tb5f 4 [] 1 [(0, lp5 n m g), (2, lp5_2 n m g), (4, lp5_4 n m g), (6, lp5_6 n m g)]) Tryd.f5 [iV n, intsV m g] [])).sem = some (bV true, []) := by
  obtain ⟨hf, hk⟩ := known_fam hX
  have hK : (famK (famS (toN (wr IntKind.i64 (iadd (itmod n 25) 25))))) < 25 := by rw [hk]; exact hX
  obtain ⟨hc1, hc2⟩ := check_fam hK
  have hL := loopsC_le 4 [] 1 [(0, lp5 n m g), (2, lp5_2 n m g), (4, lp5_4 n m g), (6, lp5_6 n m g)]
  have h4 := onP_mono hL hL 4 (en5_4e n m g (wr IntKind.i64 (iadd (itmod n 25) 25)) (famT (psN (bareS (famK (famS (toN (wr IntKind.i64 (iadd (itmod n 25) 25))))))) (zRun m (psN (bareS (famK (famS (toN (wr IntKind.i64 (iadd (itmod n 25) 25))))))) g m 0 (fun i => turnE (psN (bareS (famK (famS (toN (wr IntKind.i64 (iadd (itmod n 25) 25))))))) (fun i => psG (bareS (famK (famS (toN (wr IntKind.i64 (iadd (itmod n 25) 25)))))) i) n i))) (famE (psN (bareS (famK (famS (toN (wr IntKind.i64 (iadd (itmod n 25) 25))))))) (zRun m (psN (bareS (famK (famS (toN (wr IntKind.i64 (iadd (itmod n 25) 25))))))) g m 0 (fun i => turnE (psN (bareS (famK (famS (toN (wr IntKind.i64 (iadd (itmod n 25) 25))))))) (fun i => psG (bareS (famK (famS (toN (wr IntKind.i64 (iadd (itmod n 25) 25)))))) i) n i))) 25)
  have h2 := onP_mono hL h4 2 (en5_2e n m g (wr IntKind.i64 (iadd (itmod n 25) 25)) (psN (bareS (famK (famS (toN (wr IntKind.i64 (iadd (itmod n 25) 25))))))) (fun i => psG (bareS (famK (famS (toN (wr IntKind.i64 (iadd (itmod n 25) 25)))))) i) 0 (zRun m (psN (bareS (famK (famS (toN (wr IntKind.i64 (iadd (itmod n 25) 25))))))) g m 0 (fun i => turnE (psN (bareS (famK (famS (toN (wr IntKind.i64 (iadd (itmod n 25) 25))))))) (fun i => psG (bareS (famK (famS (toN (wr IntKind.i64 (iadd (itmod n 25) 25)))))) i) n i)))
  have h0 := onP_mono hL h2 0 (en5e n m g (wr IntKind.i64 (iadd (itmod n 25) 25)) (psN (bareS (famK (famS (toN (wr IntKind.i64 (iadd (itmod n 25) 25))))))) (fun i => psG (bareS (famK (famS (toN (wr IntKind.i64 (iadd (itmod n 25) 25)))))) i) 3)
  have hz := fam_z (m := m) (g := g) (n := n) hK
  have hz0 : famE (psN (bareS (famK (famS (toN (wr IntKind.i64 (iadd (itmod n 25) 25))))))) (fun i => psG (bareS (famK (famS (toN (wr IntKind.i64 (iadd (itmod n 25) 25)))))) i) = 0 ∧ famT (psN (bareS (famK (famS (toN (wr IntKind.i64 (iadd (itmod n 25) 25))))))) (fun i => psG (bareS (famK (famS (toN (wr IntKind.i64 (iadd (itmod n 25) 25)))))) i) = famS (famK (famS (toN (wr IntKind.i64 (iadd (itmod n 25) 25))))) := by
    unfold famE famT
    rw [of_fam hK, (bare_may hK).1]
    exact ⟨rfl, rfl⟩
  have hkk : famS (famK (famS (toN (wr IntKind.i64 (iadd (itmod n 25) 25))))) = famS (toN (wr IntKind.i64 (iadd (itmod n 25) 25))) := by rw [hk]
  have hfit : fitN (psN (bareS (famK (famS (toN (wr IntKind.i64 (iadd (itmod n 25) 25))))))) = true := (bare_may hK).2
  have hp0 : ∀ M', isP (loopsC 4 [] 1 [(0, lp5 n m g), (2, lp5_2 n m g), (4, lp5_4 n m g), (6, lp5_6 n m g)]) 0 (en5e n m g (wr IntKind.i64 (iadd (itmod n 25) 25)) (psN (bareS (famK (famS (toN (wr IntKind.i64 (iadd (itmod n 25) 25))))))) (fun i => psG (bareS (famK (famS (toN (wr IntKind.i64 (iadd (itmod n 25) 25)))))) i) 3) (body5 M') (ent5q n m g) = true := fun M' => isP_true (by
    rw [ent5q_eq]
    exact run5 M' n m g (wr IntKind.i64 (iadd (itmod n 25) 25)) (psN (bareS (famK (famS (toN (wr IntKind.i64 (iadd (itmod n 25) 25))))))) (fun i => psG (bareS (famK (famS (toN (wr IntKind.i64 (iadd (itmod n 25) 25)))))) i) hfit hc1 hc2 _)
  have hp2 : ∀ M', isP (loopsC 4 [] 1 [(0, lp5 n m g), (2, lp5_2 n m g), (4, lp5_4 n m g), (6, lp5_6 n m g)]) 2 (en5_2e n m g (wr IntKind.i64 (iadd (itmod n 25) 25)) (psN (bareS (famK (famS (toN (wr IntKind.i64 (iadd (itmod n 25) 25))))))) (fun i => psG (bareS (famK (famS (toN (wr IntKind.i64 (iadd (itmod n 25) 25)))))) i) 0 (zRun m (psN (bareS (famK (famS (toN (wr IntKind.i64 (iadd (itmod n 25) 25))))))) g m 0 (fun i => turnE (psN (bareS (famK (famS (toN (wr IntKind.i64 (iadd (itmod n 25) 25))))))) (fun i => psG (bareS (famK (famS (toN (wr IntKind.i64 (iadd (itmod n 25) 25)))))) i) n i))) (body5_2 M') (ent5q2 n m g) = true := fun M' => isP_true (by
    rw [loops5_2, ent5q2_eq]
    exact run5z M' n m g (wr IntKind.i64 (iadd (itmod n 25) 25)) (psN (bareS (famK (famS (toN (wr IntKind.i64 (iadd (itmod n 25) 25))))))) (fun i => psG (bareS (famK (famS (toN (wr IntKind.i64 (iadd (itmod n 25) 25)))))) i) (Nat.le_trans (bareF_le hK) (by decide)) m 0 _ _ (m + 1) (by omega) (by omega))
  have hp4 : ∀ M', LLe M' M' → (∀ f' st, M' 6 f' st = iterT f' (lp5_6 n m g) 26 st) → isP (loopsC 4 [] 1 [(0, lp5 n m g), (2, lp5_2 n m g), (4, lp5_4 n m g), (6, lp5_6 n m g)]) 4 (en5_4e n m g (wr IntKind.i64 (iadd (itmod n 25) 25)) (famT (psN (bareS (famK (famS (toN (wr IntKind.i64 (iadd (itmod n 25) 25))))))) (zRun m (psN (bareS (famK (famS (toN (wr IntKind.i64 (iadd (itmod n 25) 25))))))) g m 0 (fun i => turnE (psN (bareS (famK (famS (toN (wr IntKind.i64 (iadd (itmod n 25) 25))))))) (fun i => psG (bareS (famK (famS (toN (wr IntKind.i64 (iadd (itmod n 25) 25)))))) i) n i))) (famE (psN (bareS (famK (famS (toN (wr IntKind.i64 (iadd (itmod n 25) 25))))))) (zRun m (psN (bareS (famK (famS (toN (wr IntKind.i64 (iadd (itmod n 25) 25))))))) g m 0 (fun i => turnE (psN (bareS (famK (famS (toN (wr IntKind.i64 (iadd (itmod n 25) 25))))))) (fun i => psG (bareS (famK (famS (toN (wr IntKind.i64 (iadd (itmod n 25) 25)))))) i) n i))) 25) (body5_4 M') (ent5q4 n m g 0 (zRun m (psN (bareS (famK (famS (toN (wr IntKind.i64 (iadd (itmod n 25) 25))))))) g m 0 (fun i => turnE (psN (bareS (famK (famS (toN (wr IntKind.i64 (iadd (itmod n 25) 25))))))) (fun i => psG (bareS (famK (famS (toN (wr IntKind.i64 (iadd (itmod n 25) 25)))))) i) n i))) = true := fun M' hM m6 => isP_true (by
    rw [loops5_4, ent5q4_eq]
    exact run5x M' hM n m g (wr IntKind.i64 (iadd (itmod n 25) 25)) (famT (psN (bareS (famK (famS (toN (wr IntKind.i64 (iadd (itmod n 25) 25))))))) (zRun m (psN (bareS (famK (famS (toN (wr IntKind.i64 (iadd (itmod n 25) 25))))))) g m 0 (fun i => turnE (psN (bareS (famK (famS (toN (wr IntKind.i64 (iadd (itmod n 25) 25))))))) (fun i => psG (bareS (famK (famS (toN (wr IntKind.i64 (iadd (itmod n 25) 25)))))) i) n i))) (famE (psN (bareS (famK (famS (toN (wr IntKind.i64 (iadd (itmod n 25) 25))))))) (zRun m (psN (bareS (famK (famS (toN (wr IntKind.i64 (iadd (itmod n 25) 25))))))) g m 0 (fun i => turnE (psN (bareS (famK (famS (toN (wr IntKind.i64 (iadd (itmod n 25) 25))))))) (fun i => psG (bareS (famK (famS (toN (wr IntKind.i64 (iadd (itmod n 25) 25)))))) i) n i))) m6 25 0 _ 26 rfl (by omega))
  exact told_le (onP_le (onP_le (onP_le hL hL) hL) hL) _ (wf5q _ _ _ _ n m g 0 (zRun m (psN (bareS (famK (famS (toN (wr IntKind.i64 (iadd (itmod n 25) 25))))))) g m 0 (fun i => turnE (psN (bareS (famK (famS (toN (wr IntKind.i64 (iadd (itmod n 25) 25))))))) (fun i => psG (bareS (famK (famS (toN (wr IntKind.i64 (iadd (itmod n 25) 25)))))) i) n i)) hn hX0 (decide_eq_true hX) hf hfit (by rw [hz0.1]; rfl) (by rw [hz0.2, hkk]; exact seq_rfl _) (rowsBare_iV) (by rw [hz.1]; rfl) (by rw [hz.2, hkk]; exact seq_rfl _) (hp0 _) (hp2 _) (hp4 _ h0 (fun _ _ => rfl)))

theorem tm_range (n : Int) : (ilt (itmod n 25) 0 = false → toN (itmod n 25) < 25 ∧ band (ile 0 (itmod n 25)) (ilt (itmod n 25) 25) = true) ∧
    (ilt (itmod n 25) 0 = true → toN (wr IntKind.i64 (iadd (itmod n 25) 25)) < 25 ∧ band (ile 0 (wr IntKind.i64 (iadd (itmod n 25) 25))) (ilt (wr IntKind.i64 (iadd (itmod n 25) 25)) 25) = true) := by
  have h1 : itmod n 25 < 25 := Int.tmod_lt_of_pos n (by decide)
  have h2 : -25 < itmod n 25 := Int.lt_tmod_of_pos n (by decide)
  generalize itmod n 25 = r at h1 h2 ⊢
  refine ⟨fun h => ?_, fun h => ?_⟩
  · have h : 0 ≤ r := by simpa [ilt] using h
    refine ⟨by unfold toN; omega, ?_⟩
    simp only [band, ile, ilt, Bool.and_eq_true, decide_eq_true_eq]
    omega
  · have h : r < 0 := by simpa [ilt] using h
    have e : wr IntKind.i64 (iadd r 25) = r + 25 := by
      unfold wr iadd IntKind.wrap
      simp [IntKind.bits, IntKind.signed]
      omega
    rw [e]
    refine ⟨by unfold toN; omega, ?_⟩
    simp only [band, ile, ilt, Bool.and_eq_true, decide_eq_true_eq]
    omega

theorem q5 : PureC Tryd.prog Gl 5 law5T := by
  refine pureC_intro tabOK mixed Tryd.func5 (by kernel_rfl) (by kernel_rfl) fun vs v h' h => ?_
  unfold law5T at h
  split at h
  · rename_i n u
    obtain ⟨m, g, h1, h2⟩ := apI_some h
    have := sem_leaf h2
    simp only [Prod.mk.injEq] at this
    obtain ⟨rfl, rfl⟩ := this
    have hA : ArgLE [.val (.int .i64 n), u] [iV n, intsV m g] := fun S w cs hv => by
      obtain ⟨c, l, rfl, q1, c', l', rfl, q2, q3⟩ := hv
      exact ⟨c, _, rfl, q1, c', l', rfl, h1 S w c' q2, q3⟩
    have hx := cxC_ok tb5f_ok 4 [] 1 [(0, lp5 n m g), (2, lp5_2 n m g), (4, lp5_4 n m g), (6, lp5_6 n m g)]
    cases hn : ilt (itmod n 25) 0 with
    | false => exact ⟨_, cxC Gl tb5f 4 [] 1 [(0, lp5 n m g), (2, lp5_2 n m g), (4, lp5_4 n m g), (6, lp5_6 n m g)], _, hA, rfl, hx.1, hx.2, main5p n m g hn ((tm_range n).1 hn).1 ((tm_range n).1 hn).2, RowsLE.refl _⟩
    | true => exact ⟨_, cxC Gl tb5f 4 [] 1 [(0, lp5 n m g), (2, lp5_2 n m g), (4, lp5_4 n m g), (6, lp5_6 n m g)], _, hA, rfl, hx.1, hx.2, main5q n m g hn ((tm_range n).2 hn).1 ((tm_range n).2 hn).2, RowsLE.refl _⟩
  · cases h
#print axioms q5

end Go.Proofs.YtkcbdemfmjciiaaDoor.Fa
