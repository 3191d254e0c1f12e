/-
  A cycle's family, the program's and the document's. Conditions: the listed variables read as listed.
-/
import Derived.Test.YtkcbdemfmjciiaaGreatDoorFaA
namespace Go.Proofs.YtkcbdemfmjciiaaGreatDoor.Fa
open Go.Sy Go Go.Proofs.YtkcbdemfmjciiaaGreatDoor.Ed


/-! ### Rows of edges said otherwise, ahead of a loop -/

def eqRow (blk : Nat) (st : St) : T St := match st.h[blk]? with
  | some (.row e s n x) => .br (allN n fun i => okE (x i)) (.leaf ⟨st.t, st.h.set blk (.row e s n fun i => eV (edE (x i)))⟩) .fail
  | _ => .fail
def loopsE (k blk : Nat) (loops : List (Nat × Lp)) (id : Nat) (f : St → T (Ex × St)) (st : St) : T (Ex × St) :=
  match Nat.beq id k with
  | true => (eqRow blk st).bind fun st => loopsBy loops id f st
  | false => loopsBy loops id f st

theorem loopsE_le (k blk : Nat) (ls : List (Nat × Lp)) : LLe (loopsE k blk ls) (loopsE k blk ls) := fun id f f' st h => by
  unfold loopsE
  split
  · exact TLe.bind (TLe.refl _) fun st => loopsBy_le ls id f f' _ h
  · exact loopsBy_le ls id f f' _ h

theorem loopsE_at {k blk : Nat} {ls : List (Nat × Lp)} {f : St → T (Ex × St)} {st st' : St} {b : Bool} (h : eqRow blk st = .br b (.leaf st') .fail) (hb : b = true) : (loopsE k blk ls k f st).sem = (loopsBy ls k f st').sem := by
  unfold loopsE
  rw [Nat.beq_refl]
  show ((eqRow blk st).bind _).sem = _
  rw [h, hb]
  rfl

def cxE (G : Nat → V) (tbl : List (Nat × (List V → T (V × List Blk)))) (k blk : Nat) (loops : List (Nat × Lp)) : Cx := ⟨callT tbl, loopsE k blk loops, G⟩

theorem cxE_ok {P : Program} {G : Nat → V} {tbl : List (Nat × (List V → T (V × List Blk)))} (h : AllPure P G tbl) (k blk : Nat) (loops : List (Nat × Lp)) : CallOK P (cxE G tbl k blk loops).base ∧ LoopOK (cxE G tbl k blk loops) := by
  refine ⟨callT_ok rfl h, fun id f st r hr => ?_⟩
  have hr : (loopsE k blk loops id f st).sem = some r := hr
  have by' : ∀ st, (loopsBy loops id f st).sem = some r → ∃ l m, (iterT f l m st).sem = some r := fun st hr => by
    unfold loopsBy at hr
    split at hr
    · exact ⟨_, _, hr⟩
    · cases hr
  unfold loopsE at hr
  split at hr
  · obtain ⟨st', h1, h2⟩ := sem_bind_some hr
    unfold eqRow at h1
    split at h1
    · rename_i e s n x hh
      obtain ⟨h3, h4⟩ := sem_br_fail h1
      have := sem_leaf h4
      subst this
      obtain ⟨l, m, h5⟩ := by' _ h2
      exact .weak (LE_row hh fun j hj => (okE_spec (allN_iff.1 h3 j hj)).symm) (iterT_run h5)
    · cases h1
  · obtain ⟨l, m, h1⟩ := by' _ hr
    exact iterT_run h1

/-! ### A cycle's family -/

theorem plain_all : (List.range 112).all (fun k => ieq (codeF (plE (madeE k))) 0) = true := by kernel_rfl
theorem plain_may {e : E6} (h : codeF e = 0) : codeF (plE e) = 0 := by
  rcases codeF_cases e with ⟨k, hk, _, _, h2, _⟩ | ⟨h1, _⟩
  · have := List.all_eq_true.1 plain_all k (List.mem_range.2 hk)
    rw [h2] at this
    exact ieq_eq this
  · rw [h] at h1; cases h1

theorem bare_all : (List.range 25).all (fun b => mayN (psN (bareS b)) (fun i => psG (bareS b) i) && fitN (psN (bareS b))) = true := by kernel_rfl
theorem bare_may {b : Nat} (h : b < 25) : mayN (psN (bareS b)) (fun i => psG (bareS b) i) = true ∧ fitN (psN (bareS b)) = true := by
  have := List.all_eq_true.1 bare_all b (List.mem_range.2 h)
  simpa only [Bool.and_eq_true] using this

def famQ (n : Nat) (f : Nat → E6) (b : Nat) : Bool := sameC n (fun i => plE (f i)) (psN (bareS b)) (fun i => psG (bareS b) i)
def famO (n : Nat) (f : Nat → E6) : Option Nat := firstQ (famQ n f) 25 0
def famT (n : Nat) (f : Nat → E6) : List UInt8 := match mayN n f with
  | true => match famO n f with
    | some k => famS k
    | none => []
  | false => []
def famE (n : Nat) (f : Nat → E6) : Int := match mayN n f with
  | true => match famO n f with
    | some _ => 0
    | none => 4
  | false => 30
def famOfT : List V → T (V × List Blk) := apL1 fun n f => .br (fitN n) (out (.tup [.str (famT n f), iV (famE n f)])) .fail

theorem sameC_congr {n : Nat} {f f' : Nat → E6} {m : Nat} {g : Nat → E6} (h : ∀ i, i < n → f' i = f i) : sameC n f' m g = sameC n f m g := by
  unfold sameC
  rw [← sameR_TB, ← sameR_TB]
  exact sameR_congr (fun i hi => by rw [h i hi]) fun _ _ => rfl
theorem mayN_cong {n : Nat} {f g : Nat → E6} (h : ∀ i, i < n → f i = g i) : mayN n f = mayN n g := mayN_congC h

noncomputable def tb9 : List (Nat × (List V → T (V × List Blk))) := (47, edgeT fun e => iV (codeF e)) :: (48, edgeT fun e => eV (plE e)) :: (14, psT) :: (49, sameCT) :: []
theorem tb9_ok : AllPure Tryz.prog Gl tb9 := .cons p28 <| .cons q31 <| .cons p40 <| .cons p67 .nil
noncomputable def tb10 : List (Nat × (List V → T (V × List Blk))) := (30, edgeT fun e => iV (codeF e)) :: (74, famRowT) :: (76, stripT) :: (77, bareNT) :: (75, refSameT) :: []
theorem tb10_ok : AllPure Tryz.prog Gl tb10 := .cons p29 <| .cons q19 <| .cons q35 <| .cons q36 <| .cons p68 .nil

def lp9 (n : Nat) (f : Nat → E6) : Lp := ⟨[true, false, true, true, true, false, false, false, false, false, false, false, false, false, true, true, true, false, false, false, false, false, false, false, false, false, false, false, false, false, false, false, false, false, false, false, false, false, false, false, false, false, false, false, false, false, false, false, false, false, false, false, false, false, false], 1, [false, false, true, true, true, false, false, false, false, false, false, false, false, false, false, false, false, false, false, false, false, false, false, false, false, false, false, false, false, false, false, false, false, false, false, false, false, false, false, false, false, false, false, false, false, false, false, false, false, false, false, false, false, false, false], 1, n + 1⟩
def st9 (n : Nat) (f : Nat → E6) (b k : Nat) (x : Nat → V) (j : Nat → V) : St := ⟨[.sl 6 n fun k => eV (f k), j 1, .str [], iV 0, .ref 0, j 5, j 6, j 7, j 8, j 9, j 10, j 11, j 12, j 13, .sl 6 n fun k => eV (f k), iV (Int.ofNat n), iV (Int.ofNat b), j 17, j 18, j 19, j 20, j 21, j 22, j 23, j 24, j 25, j 26, j 27, j 28, j 29, j 30, j 31, j 32, j 33, j 34, j 35, j 36, j 37, j 38, j 39, j 40, j 41, j 42, j 43, j 44, j 45, j 46, j 47, j 48, j 49, j 50, j 51, j 52, j 53, j 54], [.row 38 6 k x]⟩
def en9e (n : Nat) (f : Nat → E6) (b k : Nat) (x : Nat → V) : Ex × St := (.ex 0, ⟨[.und, .und, .str [], iV 0, .ref 0, .und, .und, .und, .und, .und, .und, .und, .und, .und, .und, .und, .und, .und, .und, .und, .und, .und, .und, .und, .und, .und, .und, .und, .und, .und, .und, .und, .und, .und, .und, .und, .und, .und, .und, .und, .und, .und, .und, .und, .und, .und, .und, .und, .und, .und, .und, .und, .und, .und, .und], [.row 38 6 k x]⟩)
def en9r (n : Nat) (f : Nat → E6) (b k : Nat) (x : Nat → V) : Ex × St := (.rt, ⟨[.und, .und, .str [], iV 30, .ref 0, .und, .und, .und, .und, .und, .und, .und, .und, .und, .und, .und, .und, .und, .und, .und, .und, .und, .und, .und, .und, .und, .und, .und, .und, .und, .und, .und, .und, .und, .und, .und, .und, .und, .und, .und, .und, .und, .und, .und, .und, .und, .und, .und, .und, .und, .und, .und, .und, .und, .und], [.row 38 6 k x]⟩)
noncomputable def body9 (L : Nat → (St → T (Ex × St)) → St → T (Ex × St)) : St → T (Ex × St) := fun st => evalC tab ⟨callT tb9, L, Gl⟩ (loopBody Tryz.f21 0) 0 st
theorem rf9e (L : Nat → (St → T (Ex × St)) → St → T (Ex × St)) (n : Nat) (f : Nat → E6) (b k : Nat) (x : Nat → V)  (j : Nat → V) (h0 : ilt (Int.ofNat b) (Int.ofNat n) = false) : ((body9 L (st9 n f b k x j)).bind fun r => T.leaf (cutR (lp9 n f) r)).sem = some ((.ex 0), ⟨[.und, .und, (.str []), (iV 0), (.ref 0), .und, .und, .und, .und, .und, .und, .und, .und, .und, .und, .und, .und, .und, .und, .und, .und, .und, .und, .und, .und, .und, .und, .und, .und, .und, .und, .und, .und, .und, .und, .und, .und, .und, .und, .und, .und, .und, .und, .und, .und, .und, .und, .und, .und, .und, .und, .und, .und, .und, .und], [(.row 38 6 k x)]⟩) := by
  exact sem_of_path (ds := [false]) (cs := [(ilt (Int.ofNat b) (Int.ofNat n))]) (by kernel_rfl) (by simp only [h0] <;> rfl)
theorem rf9f (L : Nat → (St → T (Ex × St)) → St → T (Ex × St)) (n : Nat) (f : Nat → E6) (b k : Nat) (x : Nat → V)  (j : Nat → V) (h0 : ilt (Int.ofNat b) (Int.ofNat n) = true) (h18 : ile 0 (Int.ofNat b) = true) (h1 : ieq (codeF (f b)) 0 = false) : ((body9 L (st9 n f b k x j)).bind fun r => T.leaf (cutR (lp9 n f) r)).sem = some (.rt, ⟨[.und, .und, (.str []), (iV (codeF (f b))), (.ref 0), .und, .und, .und, .und, .und, .und, .und, .und, .und, .und, .und, .und, .und, .und, .und, .und, .und, .und, .und, .und, .und, .und, .und, .und, .und, .und, .und, .und, .und, .und, .und, .und, .und, .und, .und, .und, .und, .und, .und, .und, .und, .und, .und, .und, .und, .und, .und, .und, .und, .und], [(.row 38 6 k x)]⟩) := by
  exact sem_of_path (ds := [true, true, true]) (cs := [(ilt (Int.ofNat b) (Int.ofNat n)), (band (ile 0 (Int.ofNat b)) (ilt (Int.ofNat b) (Int.ofNat n))), (bnot (ieq (codeF (f b)) 0))]) (by kernel_rfl) (by simp only [h0, h18, h1] <;> rfl)
def jk9 (n : Nat) (f : Nat → E6)  : Nat → V
  | _ => undefV


theorem rf9n (L : Nat → (St → T (Ex × St)) → St → T (Ex × St)) (n : Nat) (f : Nat → E6) (b k : Nat) (x : Nat → V) (j : Nat → V) (h0 : ilt (Int.ofNat b) (Int.ofNat n) = true) (h18 : ile 0 (Int.ofNat b) = true) (h1 : ieq (codeF (f b)) 0 = true) (h2 : apOK k 1 40 = true) : ((body9 L (st9 n f b k x j)).bind fun r => T.leaf (cutR (lp9 n f) r)).sem = some (.nm, ⟨[(.sl 6 n fun k => eV (f k)), .und, (.str []), (iV 0), (.ref 0), .und, .und, .und, .und, .und, .und, .und, .und, .und, (.sl 6 n fun k => eV (f k)), (iV (Int.ofNat n)), (iV (wr IntKind.i64 (iadd (Int.ofNat b) 1))), .und, .und, .und, .und, .und, .und, .und, .und, .und, .und, .und, .und, .und, .und, .und, .und, .und, .und, .und, .und, .und, .und, .und, .und, .und, .und, .und, .und, .und, .und, .und, .und, .und, .und, .und, .und, .und, .und], [(.row 38 6 (nadd k 1) (pushGet k x (eV (plE (f b)))))]⟩) := by
  exact sem_of_path (ds := [true, true, false, true]) (cs := [(ilt (Int.ofNat b) (Int.ofNat n)), (band (ile 0 (Int.ofNat b)) (ilt (Int.ofNat b) (Int.ofNat n))), (bnot (ieq (codeF (f b)) 0)), (apOK k 1 40)]) (by kernel_rfl) (by simp only [h0, h18, h1, h2] <;> rfl)

theorem wf9r (L : Nat → (St → T (Ex × St)) → St → T (Ex × St)) (p0 : (St → T (Ex × St)) → St → Bool) (n : Nat) (f : Nat → E6) (b k : Nat) (x : Nat → V)  (hp0 : p0 (body9 (onP 0 p0 (en9r n f b k x) L)) (st9 n f 0 0 (fun _ => .und) (jk9 n f )) = true) : (finF (evalF tab ⟨callT tb9, (onP 0 p0 (en9r n f b k x) L), Gl⟩ Tryz.f21 [edgesV n f] [])).sem = some ((.tup [(.str []), (iV 30)]), []) := by
  exact sem_of_path (ds := [true]) (cs := [(p0 (body9 (onP 0 p0 (en9r n f b k x) L)) (st9 n f 0 0 (fun _ => .und) (jk9 n f )))]) (by kernel_rfl) (by simp only [hp0] <;> rfl)

def lp9_2 (n : Nat) (f : Nat → E6) : Lp := ⟨[false, false, true, true, true, false, false, false, false, false, false, false, false, false, false, false, false, false, false, false, false, false, false, false, false, false, false, false, false, false, false, true, false, false, false, false, false, false, false, false, false, false, false, false, false, false, false, false, false, false, false, false, false, false, false], 1, [false, false, true, true, false, false, false, false, false, false, false, false, false, false, false, false, false, false, false, false, false, false, false, false, false, false, false, false, false, false, false, false, false, false, false, false, false, false, false, false, false, false, false, false, false, false, false, false, false, false, false, false, false, false, false], 0, 26⟩
def st9_2 (n : Nat) (f : Nat → E6) (b : Nat) (q : Nat → E6) (j : Nat → V) : St := ⟨[j 0, j 1, .str [], iV 0, .ref 0, j 5, j 6, j 7, j 8, j 9, j 10, j 11, j 12, j 13, j 14, j 15, j 16, j 17, j 18, j 19, j 20, j 21, j 22, j 23, j 24, j 25, j 26, j 27, j 28, j 29, j 30, iV (Int.ofNat b), j 32, j 33, j 34, j 35, j 36, j 37, j 38, j 39, j 40, j 41, j 42, j 43, j 44, j 45, j 46, j 47, j 48, j 49, j 50, j 51, j 52, j 53, j 54], [.row 38 6 n (fun i => eV (q i))]⟩
def en9_2e (n : Nat) (f : Nat → E6) (b : Nat) (q : Nat → E6) : Ex × St := (.ex 2, ⟨[.und, .und, .str [], iV 0, .und, .und, .und, .und, .und, .und, .und, .und, .und, .und, .und, .und, .und, .und, .und, .und, .und, .und, .und, .und, .und, .und, .und, .und, .und, .und, .und, .und, .und, .und, .und, .und, .und, .und, .und, .und, .und, .und, .und, .und, .und, .und, .und, .und, .und, .und, .und, .und, .und, .und, .und], []⟩)
def en9_2r (n : Nat) (f : Nat → E6) (b : Nat) (q : Nat → E6) : Ex × St := (.rt, ⟨[.und, .und, .str (famS b), iV 0, .und, .und, .und, .und, .und, .und, .und, .und, .und, .und, .und, .und, .und, .und, .und, .und, .und, .und, .und, .und, .und, .und, .und, .und, .und, .und, .und, .und, .und, .und, .und, .und, .und, .und, .und, .und, .und, .und, .und, .und, .und, .und, .und, .und, .und, .und, .und, .und, .und, .und, .und], []⟩)
noncomputable def body9_2 (L : Nat → (St → T (Ex × St)) → St → T (Ex × St)) : St → T (Ex × St) := fun st => evalC tab ⟨callT tb9, L, Gl⟩ (loopBody Tryz.f21 2) 2 st
theorem rf9xe (L : Nat → (St → T (Ex × St)) → St → T (Ex × St)) (n : Nat) (f : Nat → E6) (b : Nat) (q : Nat → E6)  (j : Nat → V) (h0 : ilt (Int.ofNat b) 25 = false) : ((body9_2 L (st9_2 n f b q j)).bind fun r => T.leaf (cutR (lp9_2 n f) r)).sem = some ((.ex 2), ⟨[.und, .und, (.str []), (iV 0), .und, .und, .und, .und, .und, .und, .und, .und, .und, .und, .und, .und, .und, .und, .und, .und, .und, .und, .und, .und, .und, .und, .und, .und, .und, .und, .und, .und, .und, .und, .und, .und, .und, .und, .und, .und, .und, .und, .und, .und, .und, .und, .und, .und, .und, .und, .und, .und, .und, .und, .und], []⟩) := by
  exact sem_of_path (ds := [false]) (cs := [(ilt (Int.ofNat b) 25)]) (by kernel_rfl) (by simp only [h0] <;> rfl)

def ent9x (n : Nat) (f : Nat → E6) (b k : Nat) (x : Nat → V) : St := ⟨[.und, .und, (.str []), (iV 0), (.ref 0), .und, .und, .und, .und, .und, .und, .und, .und, .und, .und, .und, .und, .und, .und, .und, .und, .und, .und, .und, .und, .und, .und, .und, .und, .und, .und, (iV 0), .und, .und, .und, .und, .und, .und, .und, .und, .und, .und, .und, .und, .und, .und, .und, .und, .und, .und, .und, .und, .und, .und, .und], [(.row 38 6 k x)]⟩

theorem rf9xn (L : Nat → (St → T (Ex × St)) → St → T (Ex × St)) (n : Nat) (f : Nat → E6) (b : Nat) (q : Nat → E6) (j : Nat → V) (h0 : ilt (Int.ofNat b) 25 = true) (h20 : ile 0 (Int.ofNat b) = true) (h21 : fitN n = true) (h22 : fitN (psN (bareS b)) = true) (h1 : mayN n q = true) (h2 : mayN (psN (bareS b)) (fun i => (psG (bareS b) i)) = true) (h3 : sameC n q (psN (bareS b)) (fun i => (psG (bareS b) i)) = false) : ((body9_2 L (st9_2 n f b q j)).bind fun r => T.leaf (cutR (lp9_2 n f) r)).sem = some (.nm, ⟨[.und, .und, (.str []), (iV 0), (.ref 0), .und, .und, .und, .und, .und, .und, .und, .und, .und, .und, .und, .und, .und, .und, .und, .und, .und, .und, .und, .und, .und, .und, .und, .und, .und, .und, (iV (wr IntKind.i64 (iadd (Int.ofNat b) 1))), .und, .und, .und, .und, .und, .und, .und, .und, .und, .und, .und, .und, .und, .und, .und, .und, .und, .und, .und, .und, .und, .und, .und], [(.row 38 6 n (fun i => (eV (q i))))]⟩) := by
  exact sem_of_path (ds := [true, true, true, true, true, true, true, false]) (cs := [(ilt (Int.ofNat b) 25), (band (ile 0 (Int.ofNat b)) (ilt (Int.ofNat b) 25)), (allN n (fun _ => Bool.true)), (allN (psN (bareS b)) (fun _ => Bool.true)), (fitN n), (fitN (psN (bareS b))), (band (mayN n q) (mayN (psN (bareS b)) (fun i => (psG (bareS b) i)))), (sameC n q (psN (bareS b)) (fun i => (psG (bareS b) i)))]) (by kernel_rfl) (by simp only [h0, h20, h21, h22, h1, h2, h3, allN_true] <;> rfl)

theorem rf9xr (L : Nat → (St → T (Ex × St)) → St → T (Ex × St)) (n : Nat) (f : Nat → E6) (b : Nat) (q : Nat → E6) (j : Nat → V) (h0 : ilt (Int.ofNat b) 25 = true) (h20 : ile 0 (Int.ofNat b) = true) (h21 : fitN n = true) (h22 : fitN (psN (bareS b)) = true) (h1 : mayN n q = true) (h2 : mayN (psN (bareS b)) (fun i => (psG (bareS b) i)) = true) (h3 : sameC n q (psN (bareS b)) (fun i => (psG (bareS b) i)) = true) : ((body9_2 L (st9_2 n f b q j)).bind fun r => T.leaf (cutR (lp9_2 n f) r)).sem = some (.rt, ⟨[.und, .und, (.str (famS b)), (iV 0), .und, .und, .und, .und, .und, .und, .und, .und, .und, .und, .und, .und, .und, .und, .und, .und, .und, .und, .und, .und, .und, .und, .und, .und, .und, .und, .und, .und, .und, .und, .und, .und, .und, .und, .und, .und, .und, .und, .und, .und, .und, .und, .und, .und, .und, .und, .und, .und, .und, .und, .und], []⟩) := by
  exact sem_of_path (ds := [true, true, true, true, true, true, true, true, true]) (cs := [(ilt (Int.ofNat b) 25), (band (ile 0 (Int.ofNat b)) (ilt (Int.ofNat b) 25)), (allN n (fun _ => Bool.true)), (allN (psN (bareS b)) (fun _ => Bool.true)), (fitN n), (fitN (psN (bareS b))), (band (mayN n q) (mayN (psN (bareS b)) (fun i => (psG (bareS b) i)))), (sameC n q (psN (bareS b)) (fun i => (psG (bareS b) i))), (band (ile 0 (Int.ofNat b)) (ilt (Int.ofNat b) 25))]) (by kernel_rfl) (by simp only [h0, h20, h21, h22, h1, h2, h3, allN_true] <;> rfl)

theorem wf9e (L : Nat → (St → T (Ex × St)) → St → T (Ex × St)) (p0 : (St → T (Ex × St)) → St → Bool) (p2 : (St → T (Ex × St)) → St → Bool) (n : Nat) (f : Nat → E6) (b : Nat) (x : Nat → V) (q : Nat → E6)  (hp0 : p0 (body9 (onP 0 p0 (en9e n f n n x) (onP 2 p2 (en9_2e n f b q) L))) (st9 n f 0 0 (fun _ => .und) (jk9 n f )) = true) (hp2 : p2 (body9_2 (onP 0 p0 (en9e n f n n x) (onP 2 p2 (en9_2e n f b q) L))) (ent9x n f n n x) = true) : (finF (evalF tab ⟨callT tb9, (onP 0 p0 (en9e n f n n x) (onP 2 p2 (en9_2e n f b q) L)), Gl⟩ Tryz.f21 [edgesV n f] [])).sem = some ((.tup [(.str []), (iV 4)]), []) := by
  exact sem_of_path (ds := [true, true]) (cs := [(p0 (body9 (onP 0 p0 (en9e n f n n x) (onP 2 p2 (en9_2e n f b q) L))) (st9 n f 0 0 (fun _ => .und) (jk9 n f ))), (p2 (body9_2 (onP 0 p0 (en9e n f n n x) (onP 2 p2 (en9_2e n f b q) L))) (ent9x n f n n x))]) (by kernel_rfl) (by simp only [hp0, hp2] <;> rfl)

theorem wf9x (L : Nat → (St → T (Ex × St)) → St → T (Ex × St)) (p0 : (St → T (Ex × St)) → St → Bool) (p2 : (St → T (Ex × St)) → St → Bool) (n : Nat) (f : Nat → E6) (b : Nat) (x : Nat → V) (q : Nat → E6)  (hp0 : p0 (body9 (onP 0 p0 (en9e n f n n x) (onP 2 p2 (en9_2r n f b q) L))) (st9 n f 0 0 (fun _ => .und) (jk9 n f )) = true) (hp2 : p2 (body9_2 (onP 0 p0 (en9e n f n n x) (onP 2 p2 (en9_2r n f b q) L))) (ent9x n f n n x) = true) : (finF (evalF tab ⟨callT tb9, (onP 0 p0 (en9e n f n n x) (onP 2 p2 (en9_2r n f b q) L)), Gl⟩ Tryz.f21 [edgesV n f] [])).sem = some ((.tup [(.str (famS b)), (iV 0)]), []) := by
  exact sem_of_path (ds := [true, true]) (cs := [(p0 (body9 (onP 0 p0 (en9e n f n n x) (onP 2 p2 (en9_2r n f b q) L))) (st9 n f 0 0 (fun _ => .und) (jk9 n f ))), (p2 (body9_2 (onP 0 p0 (en9e n f n n x) (onP 2 p2 (en9_2r n f b q) L))) (ent9x n f n n x))]) (by kernel_rfl) (by simp only [hp0, hp2] <;> rfl)

theorem run9 (L : Nat → (St → T (Ex × St)) → St → T (Ex × St)) (n : Nat) (f : Nat → E6) (hn : fitN n = true) (ho : ∀ t, t < n → codeF (f t) = 0) : ∀ (d i : Nat) (j : Nat → V) (q : Nat), n = i + d → d < q →
    (iterT (body9 L) (lp9 n f) q (st9 n f i i (pushN (plX f) i) j)).sem = some (en9e n f n n (pushN (plX f) n))
  | 0, i, j, q + 1, h, _ => by
    have : n = i := by omega
    subst this
    exact iter_round (rf9e L n f n n _ j (ofNat_ge (Nat.le_refl _)))
  | d + 1, i, j, q + 1, h, h2 => by
    have hi : i < n := by omega
    have ha : apOK i 1 40 = true := ap_fit hi (Nat.le_refl _) (of_decide_eq_true hn)
    have hr := rf9n L n f i i (pushN (plX f) i) j (ofNat_lt hi) (ile_f i) (by rw [ho i hi]; rfl) ha
    rw [iter_round hr, goOn_nm, succ_wr hi (fit_small hn)]
    exact run9 L n f hn ho d (i + 1) (fun _ => .und) q (by omega) (by omega)

theorem run9f (L : Nat → (St → T (Ex × St)) → St → T (Ex × St)) (n : Nat) (f : Nat → E6) (hn : fitN n = true) (e : Nat) (he : e < n) (hb : codeF (f e) = 30) (ho : ∀ t, t < e → codeF (f t) = 0) : ∀ (d i : Nat) (j : Nat → V) (q : Nat), e = i + d → d < q →
    (iterT (body9 L) (lp9 n f) q (st9 n f i i (pushN (plX f) i) j)).sem = some (en9r n f e e (pushN (plX f) e))
  | 0, i, j, q + 1, h1, _ => by
    have : e = i := by omega
    subst this
    have hr := rf9f L n f e e (pushN (plX f) e) j (ofNat_lt he) (ile_f e) (by rw [hb]; rfl)
    rw [hb] at hr
    exact iter_round hr
  | d + 1, i, j, q + 1, h1, h2 => by
    have hi : i < n := by omega
    have ha : apOK i 1 40 = true := ap_fit hi (Nat.le_refl _) (of_decide_eq_true hn)
    have hr := rf9n L n f i i (pushN (plX f) i) j (ofNat_lt hi) (ile_f i) (by rw [ho i (by omega)]; rfl) ha
    rw [iter_round hr, goOn_nm, succ_wr hi (fit_small hn)]
    exact run9f L n f hn e he hb ho d (i + 1) (fun _ => .und) q (by omega) (by omega)

theorem run9x (L : Nat → (St → T (Ex × St)) → St → T (Ex × St)) (n : Nat) (f : Nat → E6) (hn : fitN n = true) (p : Nat → E6) (hp : ∀ i, i < n → p i = plE (f i)) (hm : mayN n f = true) : ∀ (d i : Nat) (j : Nat → V) (q : Nat), 25 = i + d → d < q →
    (iterT (body9_2 L) (lp9_2 n f) q (st9_2 n f i p j)).sem = some (match firstQ (famQ n f) d i with | some k => en9_2r n f k p | none => en9_2e n f 0 p)
  | 0, i, j, q + 1, h, _ => by
    have : i = 25 := by omega
    subst this
    exact iter_round (rf9xe L n f 25 p j rfl)
  | d + 1, i, j, q + 1, h, h2 => by
    have hi : i < 25 := by omega
    obtain ⟨b1, b2⟩ := bare_may hi
    have hq : mayN n p = true := mayN_iff.2 fun t ht => by rw [hp t ht]; exact plain_may (mayN_iff.1 hm t ht)
    have hs : sameC n p (psN (bareS i)) (fun t => psG (bareS i) t) = famQ n f i := sameC_congr hp
    cases hc : famQ n f i with
    | true =>
      rw [hc] at hs
      rw [firstQ_t (q := famQ n f) hc]
      exact iter_round (rf9xr L n f i p j (ofNat_lt hi) (ile_f i) hn b2 hq b1 hs)
    | false =>
      rw [hc] at hs
      rw [firstQ_f (q := famQ n f) hc, iter_round (rf9xn L n f i p j (ofNat_lt hi) (ile_f i) hn b2 hq b1 hs), goOn_nm, succ_wr hi (by decide)]
      exact run9x L n f hn p hp hm d (i + 1) (fun _ => .und) q (by omega) (by omega)

theorem plX_ok (n : Nat) (f : Nat → E6) : (allN n fun i => okE (pushN (plX f) n i)) = true := allN_iff.2 fun i hi => by
  rw [pushN_eq (plX f) n i hi]
  rfl

theorem ent9x_eq (n : Nat) (f : Nat → E6) (x : Nat → V) : (eqRow 0 (ent9x n f n n x)) = .br (allN n fun i => okE (x i)) (.leaf (st9_2 n f 0 (fun i => edE (x i)) (fun i => nth (ent9x n f n n x).t i))) .fail := by kernel_rfl

theorem q9 : PureC Tryz.prog Gl 21 famOfT := by
  refine pureC_intro tabOK mixed Tryz.func21 (by kernel_rfl) (by kernel_rfl) fun vs v h' h => ?_
  obtain ⟨n, f, ha, h1⟩ := apL1_some h
  obtain ⟨hn, hq⟩ := sem_br_fail h1
  have := sem_leaf hq
  simp only [Prod.mk.injEq] at this
  obtain ⟨rfl, rfl⟩ := this
  have hx := cxE_ok tb9_ok 2 0 [(0, lp9 n f), (2, lp9_2 n f)]
  have hL := loopsE_le 2 0 [(0, lp9 n f), (2, lp9_2 n f)]
  refine ⟨_, cxE Gl tb9 2 0 [(0, lp9 n f), (2, lp9_2 n f)], _, ha, rfl, hx.1, hx.2, ?_, RowsLE.refl _⟩
  unfold famT famE
  cases hm : mayN n f with
  | false =>
    obtain ⟨e, h1, h2, h3⟩ := may_no hm
    exact told_le (onP_le hL hL) _ (wf9r _ _ n f e e (pushN (plX f) e) (isP_true (run9f _ n f hn e h1 h2 h3 e 0 (jk9 n f) (n + 1) (by omega) (by omega))))
  | true =>
    have ho := mayN_iff.1 hm
    have h0 : ∀ L, (loopsE 2 0 [(0, lp9 n f), (2, lp9_2 n f)] 0 (body9 L) (st9 n f 0 0 (fun _ => .und) (jk9 n f))).sem = some (en9e n f n n (pushN (plX f) n)) := fun L => run9 L n f hn ho n 0 (jk9 n f) (n + 1) (by omega) (by omega)
    have h2 : ∀ L, (loopsE 2 0 [(0, lp9 n f), (2, lp9_2 n f)] 2 (body9_2 L) (ent9x n f n n (pushN (plX f) n))).sem = some (match firstQ (famQ n f) 25 0 with | some k => en9_2r n f k (fun i => edE (pushN (plX f) n i)) | none => en9_2e n f 0 (fun i => edE (pushN (plX f) n i))) := fun L => by
      rw [loopsE_at (ent9x_eq n f (pushN (plX f) n)) (plX_ok n f)]
      exact run9x L n f hn (fun i => edE (pushN (plX f) n i)) (fun i hi => by rw [pushN_eq (plX f) n i hi]; rfl) hm 25 0 (fun i => nth (ent9x n f n n (pushN (plX f) n)).t i) 26 rfl (by omega)
    unfold famO
    cases hc : firstQ (famQ n f) 25 0 with
    | some k =>
      rw [hc] at h2
      exact told_le (onP_le (onP_le hL hL) hL) _ (wf9x _ _ _ n f k (pushN (plX f) n) (fun i => edE (pushN (plX f) n i)) (isP_true (h0 _)) (isP_true (h2 _)))
    | none =>
      rw [hc] at h2
      exact told_le (onP_le (onP_le hL hL) hL) _ (wf9e _ _ _ n f 0 (pushN (plX f) n) (fun i => edE (pushN (plX f) n i)) (isP_true (h0 _)) (isP_true (h2 _)))

def lp10 (n : Nat) (f : Nat → E6) : Lp := ⟨[true, false, true, true, true, false, false, false, false, false, false, false, false, false, false, false, false, false, false, false, false, false, false, false, false, false, false, false, false, false, false, false, false, false, false, false, false, false, false, false, false], 0, [true, false, true, true, false, false, false, false, false, false, false, false, false, false, false, false, false, false, false, false, false, false, false, false, false, false, false, false, false, false, false, false, false, false, false, false, false, false, false, false, false], 0, n + 1⟩
def st10 (n : Nat) (f : Nat → E6) (b : Nat) (j : Nat → V) : St := ⟨[.sl 6 n fun k => eV (f k), j 1, .str [], iV 0, iV (Int.ofNat b), j 5, j 6, j 7, j 8, j 9, j 10, j 11, j 12, j 13, j 14, j 15, j 16, j 17, j 18, j 19, j 20, j 21, j 22, j 23, j 24, j 25, j 26, j 27, j 28, j 29, j 30, j 31, j 32, j 33, j 34, j 35, j 36, j 37, j 38, j 39, j 40], []⟩
def en10e (n : Nat) (f : Nat → E6) (b : Nat) : Ex × St := (.ex 0, ⟨[.sl 6 n fun k => eV (f k), .und, .str [], iV 0, .und, .und, .und, .und, .und, .und, .und, .und, .und, .und, .und, .und, .und, .und, .und, .und, .und, .und, .und, .und, .und, .und, .und, .und, .und, .und, .und, .und, .und, .und, .und, .und, .und, .und, .und, .und, .und], []⟩)
def en10r (n : Nat) (f : Nat → E6) (b : Nat) : Ex × St := (.rt, ⟨[.sl 6 n fun k => eV (f k), .und, .str [], iV 30, .und, .und, .und, .und, .und, .und, .und, .und, .und, .und, .und, .und, .und, .und, .und, .und, .und, .und, .und, .und, .und, .und, .und, .und, .und, .und, .und, .und, .und, .und, .und, .und, .und, .und, .und, .und, .und], []⟩)
noncomputable def body10 (L : Nat → (St → T (Ex × St)) → St → T (Ex × St)) : St → T (Ex × St) := fun st => evalC tab ⟨callT tb10, L, Gl⟩ (loopBody Tryz.f38 0) 0 st
theorem rf10e (L : Nat → (St → T (Ex × St)) → St → T (Ex × St)) (n : Nat) (f : Nat → E6) (b : Nat)  (j : Nat → V) (h0 : ilt (Int.ofNat b) (Int.ofNat n) = false) : ((body10 L (st10 n f b j)).bind fun r => T.leaf (cutR (lp10 n f) r)).sem = some ((.ex 0), ⟨[(.sl 6 n (fun k => (eV (f k)))), .und, (.str []), (iV 0), .und, .und, .und, .und, .und, .und, .und, .und, .und, .und, .und, .und, .und, .und, .und, .und, .und, .und, .und, .und, .und, .und, .und, .und, .und, .und, .und, .und, .und, .und, .und, .und, .und, .und, .und, .und, .und], []⟩) := by
  exact sem_of_path (ds := [false]) (cs := [(ilt (Int.ofNat b) (Int.ofNat n))]) (by kernel_rfl) (by simp only [h0] <;> rfl)
theorem rf10n (L : Nat → (St → T (Ex × St)) → St → T (Ex × St)) (n : Nat) (f : Nat → E6) (b : Nat)  (j : Nat → V) (h0 : ilt (Int.ofNat b) (Int.ofNat n) = true) (h18 : ile 0 (Int.ofNat b) = true) (h1 : ieq (codeF (f b)) 0 = true) : ((body10 L (st10 n f b j)).bind fun r => T.leaf (cutR (lp10 n f) r)).sem = some (.nm, ⟨[(.sl 6 n (fun k => (eV (f k)))), .und, (.str []), (iV 0), (iV (wr IntKind.i64 (iadd (Int.ofNat b) 1))), .und, .und, .und, .und, .und, .und, .und, .und, .und, .und, .und, .und, .und, .und, .und, .und, .und, .und, .und, .und, .und, .und, .und, .und, .und, .und, .und, .und, .und, .und, .und, .und, .und, .und, .und, .und], []⟩) := by
  exact sem_of_path (ds := [true, true, false]) (cs := [(ilt (Int.ofNat b) (Int.ofNat n)), (band (ile 0 (Int.ofNat b)) (ilt (Int.ofNat b) (Int.ofNat n))), (bnot (ieq (codeF (f b)) 0))]) (by kernel_rfl) (by simp only [h0, h18, h1] <;> rfl)
theorem rf10f (L : Nat → (St → T (Ex × St)) → St → T (Ex × St)) (n : Nat) (f : Nat → E6) (b : Nat)  (j : Nat → V) (h0 : ilt (Int.ofNat b) (Int.ofNat n) = true) (h18 : ile 0 (Int.ofNat b) = true) (h1 : ieq (codeF (f b)) 0 = false) : ((body10 L (st10 n f b j)).bind fun r => T.leaf (cutR (lp10 n f) r)).sem = some (.rt, ⟨[(.sl 6 n (fun k => (eV (f k)))), .und, (.str []), (iV 30), .und, .und, .und, .und, .und, .und, .und, .und, .und, .und, .und, .und, .und, .und, .und, .und, .und, .und, .und, .und, .und, .und, .und, .und, .und, .und, .und, .und, .und, .und, .und, .und, .und, .und, .und, .und, .und], []⟩) := by
  exact sem_of_path (ds := [true, true, true]) (cs := [(ilt (Int.ofNat b) (Int.ofNat n)), (band (ile 0 (Int.ofNat b)) (ilt (Int.ofNat b) (Int.ofNat n))), (bnot (ieq (codeF (f b)) 0))]) (by kernel_rfl) (by simp only [h0, h18, h1] <;> rfl)
def jk10 (n : Nat) (f : Nat → E6)  : Nat → V
  | _ => undefV

theorem wf10r (L : Nat → (St → T (Ex × St)) → St → T (Ex × St)) (p0 : (St → T (Ex × St)) → St → Bool) (n : Nat) (f : Nat → E6) (b : Nat)  (hp0 : p0 (body10 (onP 0 p0 (en10r n f b) L)) (st10 n f 0 (jk10 n f )) = true) : (finF (evalF tab ⟨callT tb10, (onP 0 p0 (en10r n f b) L), Gl⟩ Tryz.f38 [edgesV n f] [])).sem = some ((.tup [(.str []), (iV 30)]), []) := by
  exact sem_of_path (ds := [true]) (cs := [(p0 (body10 (onP 0 p0 (en10r n f b) L)) (st10 n f 0 (jk10 n f )))]) (by kernel_rfl) (by simp only [hp0] <;> rfl)

def ent10x (n : Nat) (f : Nat → E6) (b : Nat) : St := ⟨[(.sl 6 n (fun k => (eV (f k)))), .und, (.str []), (iV 0), .und, (.ref 0), (iV 0), .und, .und, .und, .und, .und, .und, .und, .und, .und, .und, .und, .und, .und, .und, (.ref 0), .und, .und, .und, .und, .und, .und, .und, .und, .und, .und, .und, .und, .und, .und, .und, .und, .und, .und, .und], [(.row 9 1 25 (fun i => (.str (famS i))))]⟩

def lp10_2 (n : Nat) (f : Nat → E6) : Lp := ⟨[true, false, true, true, false, true, true, false, false, false, false, false, false, false, false, false, false, false, false, false, false, false, false, false, false, false, false, false, false, false, false, false, false, false, false, false, false, false, false, false, false], 1, [false, false, true, true, false, false, false, false, false, false, false, false, false, false, false, false, false, false, false, false, false, false, false, false, false, false, false, false, false, false, false, false, false, false, false, false, false, false, false, false, false], 0, 26⟩
def st10_2 (n : Nat) (f : Nat → E6) (b : Nat) (j : Nat → V) : St := ⟨[.sl 6 n fun k => eV (f k), j 1, .str [], iV 0, j 4, .ref 0, iV (Int.ofNat b), j 7, j 8, j 9, j 10, j 11, j 12, j 13, j 14, j 15, j 16, j 17, j 18, j 19, j 20, j 21, j 22, j 23, j 24, j 25, j 26, j 27, j 28, j 29, j 30, j 31, j 32, j 33, j 34, j 35, j 36, j 37, j 38, j 39, j 40], [.row 9 1 25 (fun i => (.str (famS i)))]⟩
def en10_2e (n : Nat) (f : Nat → E6) (b : Nat) : Ex × St := (.ex 2, ⟨[.und, .und, .str [], iV 0, .und, .und, .und, .und, .und, .und, .und, .und, .und, .und, .und, .und, .und, .und, .und, .und, .und, .und, .und, .und, .und, .und, .und, .und, .und, .und, .und, .und, .und, .und, .und, .und, .und, .und, .und, .und, .und], []⟩)
def en10_2r (n : Nat) (f : Nat → E6) (b : Nat) : Ex × St := (.rt, ⟨[.und, .und, .str (famS b), iV 0, .und, .und, .und, .und, .und, .und, .und, .und, .und, .und, .und, .und, .und, .und, .und, .und, .und, .und, .und, .und, .und, .und, .und, .und, .und, .und, .und, .und, .und, .und, .und, .und, .und, .und, .und, .und, .und], []⟩)
noncomputable def body10_2 (L : Nat → (St → T (Ex × St)) → St → T (Ex × St)) : St → T (Ex × St) := fun st => evalC tab ⟨callT tb10, L, Gl⟩ (loopBody Tryz.f38 2) 2 st
theorem rf10xe (L : Nat → (St → T (Ex × St)) → St → T (Ex × St)) (n : Nat) (f : Nat → E6) (b : Nat)  (j : Nat → V) (h0 : ilt (Int.ofNat b) 25 = false) : ((body10_2 L (st10_2 n f b j)).bind fun r => T.leaf (cutR (lp10_2 n f) r)).sem = some ((.ex 2), ⟨[.und, .und, (.str []), (iV 0), .und, .und, .und, .und, .und, .und, .und, .und, .und, .und, .und, .und, .und, .und, .und, .und, .und, .und, .und, .und, .und, .und, .und, .und, .und, .und, .und, .und, .und, .und, .und, .und, .und, .und, .und, .und, .und], []⟩) := by
  exact sem_of_path (ds := [false]) (cs := [(ilt (Int.ofNat b) 25)]) (by kernel_rfl) (by simp only [h0] <;> rfl)

theorem rf10xn (L : Nat → (St → T (Ex × St)) → St → T (Ex × St)) (n : Nat) (f : Nat → E6) (b : Nat) (j : Nat → V) (h0 : ilt (Int.ofNat b) 25 = true) (h20 : fitN n = true) (h21 : in25 (Int.ofNat b) = true) (h22 : fitN (psN (bareS b)) = true) (h1 : mayN n (fun i => (plE (f i))) = true) (h2 : mayN (psN (bareS b)) (fun i => (psG (bareS b) i)) = true) (h3 : sameR n (fun k => (codeN (plE (f k)))) (psN (bareS b)) (fun k => (codeN (psG (bareS b) k))) = false) : ((body10_2 L (st10_2 n f b j)).bind fun r => T.leaf (cutR (lp10_2 n f) r)).sem = some (.nm, ⟨[(.sl 6 n (fun k => (eV (f k)))), .und, (.str []), (iV 0), .und, (.ref 0), (iV (wr IntKind.i64 (iadd (Int.ofNat b) 1))), .und, .und, .und, .und, .und, .und, .und, .und, .und, .und, .und, .und, .und, .und, .und, .und, .und, .und, .und, .und, .und, .und, .und, .und, .und, .und, .und, .und, .und, .und, .und, .und, .und, .und], [(.row 9 1 25 (fun i => (.str (famS i))))]⟩) := by
  exact sem_of_path (ds := [true, true, true, true, true, true, true, true, true, false]) (cs := [(ilt (Int.ofNat b) 25), (allN n (fun _ => Bool.true)), (fitN n), (in25 (Int.ofNat b)), (allN n (fun _ => Bool.true)), (allN (psN (bareS b)) (fun _ => Bool.true)), (fitN n), (fitN (psN (bareS b))), (band (mayN n (fun i => (plE (f i)))) (mayN (psN (bareS b)) (fun i => (psG (bareS b) i)))), (sameR n (fun k => (codeN (plE (f k)))) (psN (bareS b)) (fun k => (codeN (psG (bareS b) k))))]) (by kernel_rfl) (by simp only [h0, h20, h21, h22, h1, h2, h3, allN_true] <;> rfl)

theorem rf10xr (L : Nat → (St → T (Ex × St)) → St → T (Ex × St)) (n : Nat) (f : Nat → E6) (b : Nat) (j : Nat → V) (h0 : ilt (Int.ofNat b) 25 = true) (h20 : fitN n = true) (h21 : in25 (Int.ofNat b) = true) (h22 : fitN (psN (bareS b)) = true) (h1 : mayN n (fun i => (plE (f i))) = true) (h2 : mayN (psN (bareS b)) (fun i => (psG (bareS b) i)) = true) (h3 : sameR n (fun k => (codeN (plE (f k)))) (psN (bareS b)) (fun k => (codeN (psG (bareS b) k))) = true) (h23 : ile 0 (Int.ofNat b) = true) (h24 : nlt b 25 = true) : ((body10_2 L (st10_2 n f b j)).bind fun r => T.leaf (cutR (lp10_2 n f) r)).sem = some (.rt, ⟨[.und, .und, (.str (famS b)), (iV 0), .und, .und, .und, .und, .und, .und, .und, .und, .und, .und, .und, .und, .und, .und, .und, .und, .und, .und, .und, .und, .und, .und, .und, .und, .und, .und, .und, .und, .und, .und, .und, .und, .und, .und, .und, .und, .und], []⟩) := by
  exact sem_of_path (ds := [true, true, true, true, true, true, true, true, true, true, true, true]) (cs := [(ilt (Int.ofNat b) 25), (allN n (fun _ => Bool.true)), (fitN n), (in25 (Int.ofNat b)), (allN n (fun _ => Bool.true)), (allN (psN (bareS b)) (fun _ => Bool.true)), (fitN n), (fitN (psN (bareS b))), (band (mayN n (fun i => (plE (f i)))) (mayN (psN (bareS b)) (fun i => (psG (bareS b) i)))), (sameR n (fun k => (codeN (plE (f k)))) (psN (bareS b)) (fun k => (codeN (psG (bareS b) k)))), (band (ile 0 (Int.ofNat b)) (ilt (Int.ofNat b) 25)), (nlt b 25)]) (by kernel_rfl) (by simp only [h0, h20, h21, h22, h1, h2, h3, h23, h24, allN_true] <;> rfl)

theorem wf10e (L : Nat → (St → T (Ex × St)) → St → T (Ex × St)) (p0 : (St → T (Ex × St)) → St → Bool) (p2 : (St → T (Ex × St)) → St → Bool) (n : Nat) (f : Nat → E6) (b : Nat)  (hp0 : p0 (body10 (onP 0 p0 (en10e n f n) (onP 2 p2 (en10_2e n f b) L))) (st10 n f 0 (jk10 n f )) = true) (hp2 : p2 (body10_2 (onP 0 p0 (en10e n f n) (onP 2 p2 (en10_2e n f b) L))) (ent10x n f n) = true) : (finF (evalF tab ⟨callT tb10, (onP 0 p0 (en10e n f n) (onP 2 p2 (en10_2e n f b) L)), Gl⟩ Tryz.f38 [edgesV n f] [])).sem = some ((.tup [(.str []), (iV 4)]), []) := by
  exact sem_of_path (ds := [true, true]) (cs := [(p0 (body10 (onP 0 p0 (en10e n f n) (onP 2 p2 (en10_2e n f b) L))) (st10 n f 0 (jk10 n f ))), (p2 (body10_2 (onP 0 p0 (en10e n f n) (onP 2 p2 (en10_2e n f b) L))) (ent10x n f n))]) (by kernel_rfl) (by simp only [hp0, hp2] <;> rfl)

theorem wf10x (L : Nat → (St → T (Ex × St)) → St → T (Ex × St)) (p0 : (St → T (Ex × St)) → St → Bool) (p2 : (St → T (Ex × St)) → St → Bool) (n : Nat) (f : Nat → E6) (b : Nat)  (hp0 : p0 (body10 (onP 0 p0 (en10e n f n) (onP 2 p2 (en10_2r n f b) L))) (st10 n f 0 (jk10 n f )) = true) (hp2 : p2 (body10_2 (onP 0 p0 (en10e n f n) (onP 2 p2 (en10_2r n f b) L))) (ent10x n f n) = true) : (finF (evalF tab ⟨callT tb10, (onP 0 p0 (en10e n f n) (onP 2 p2 (en10_2r n f b) L)), Gl⟩ Tryz.f38 [edgesV n f] [])).sem = some ((.tup [(.str (famS b)), (iV 0)]), []) := by
  exact sem_of_path (ds := [true, true]) (cs := [(p0 (body10 (onP 0 p0 (en10e n f n) (onP 2 p2 (en10_2r n f b) L))) (st10 n f 0 (jk10 n f ))), (p2 (body10_2 (onP 0 p0 (en10e n f n) (onP 2 p2 (en10_2r n f b) L))) (ent10x n f n))]) (by kernel_rfl) (by simp only [hp0, hp2] <;> rfl)

theorem run10 (L : Nat → (St → T (Ex × St)) → St → T (Ex × St)) (n : Nat) (f : Nat → E6) (hn : fitN n = true) (ho : ∀ t, t < n → codeF (f t) = 0) : ∀ (d i : Nat) (j : Nat → V) (q : Nat), n = i + d → d < q →
    (iterT (body10 L) (lp10 n f) q (st10 n f i j)).sem = some (en10e n f n)
  | 0, i, j, q + 1, h, _ => by
    have : n = i := by omega
    subst this
    exact iter_round (rf10e L n f n j (ofNat_ge (Nat.le_refl _)))
  | d + 1, i, j, q + 1, h, h2 => by
    have hi : i < n := by omega
    rw [iter_round (rf10n L n f i j (ofNat_lt hi) (ile_f i) (by rw [ho i hi]; rfl)), goOn_nm, succ_wr hi (fit_small hn)]
    exact run10 L n f hn ho d (i + 1) (fun _ => .und) q (by omega) (by omega)

theorem run10f (L : Nat → (St → T (Ex × St)) → St → T (Ex × St)) (n : Nat) (f : Nat → E6) (hn : fitN n = true) (e : Nat) (he : e < n) (hb : codeF (f e) = 30) (ho : ∀ t, t < e → codeF (f t) = 0) : ∀ (d i : Nat) (j : Nat → V) (q : Nat), e = i + d → d < q →
    (iterT (body10 L) (lp10 n f) q (st10 n f i j)).sem = some (en10r n f e)
  | 0, i, j, q + 1, h1, _ => by
    have : e = i := by omega
    subst this
    exact iter_round (rf10f L n f e j (ofNat_lt he) (ile_f e) (by rw [hb]; rfl))
  | d + 1, i, j, q + 1, h1, h2 => by
    have hi : i < n := by omega
    rw [iter_round (rf10n L n f i j (ofNat_lt hi) (ile_f i) (by rw [ho i (by omega)]; rfl)), goOn_nm, succ_wr hi (fit_small hn)]
    exact run10f L n f hn e he hb ho d (i + 1) (fun _ => .und) q (by omega) (by omega)

theorem run10x (L : Nat → (St → T (Ex × St)) → St → T (Ex × St)) (n : Nat) (f : Nat → E6) (hn : fitN n = true) (hm : mayN n f = true) : ∀ (d i : Nat) (j : Nat → V) (q : Nat), 25 = i + d → d < q →
    (iterT (body10_2 L) (lp10_2 n f) q (st10_2 n f i j)).sem = some (match firstQ (famQ n f) d i with | some k => en10_2r n f k | none => en10_2e n f 0)
  | 0, i, j, q + 1, h, _ => by
    have : i = 25 := by omega
    subst this
    exact iter_round (rf10xe L n f 25 j rfl)
  | d + 1, i, j, q + 1, h, h2 => by
    have hi : i < 25 := by omega
    obtain ⟨b1, b2⟩ := bare_may hi
    have hq : mayN n (fun t => plE (f t)) = true := mayN_iff.2 fun t ht => plain_may (mayN_iff.1 hm t ht)
    have hs : sameR n (fun k => codeN (plE (f k))) (psN (bareS i)) (fun k => codeN (psG (bareS i) k)) = famQ n f i := sameR_TB _ _ _ _
    cases hc : famQ n f i with
    | true =>
      rw [hc] at hs
      rw [firstQ_t (q := famQ n f) hc]
      exact iter_round (rf10xr L n f i j (ofNat_lt hi) hn (in25_nat hi) b2 hq b1 hs (ile_f i) (decide_eq_true hi))
    | false =>
      rw [hc] at hs
      rw [firstQ_f (q := famQ n f) hc, iter_round (rf10xn L n f i j (ofNat_lt hi) hn (in25_nat hi) b2 hq b1 hs), goOn_nm, succ_wr hi (by decide)]
      exact run10x L n f hn hm d (i + 1) (fun _ => .und) q (by omega) (by omega)

theorem ent10x_eq (n : Nat) (f : Nat → E6) : ent10x n f n = st10_2 n f 0 (fun i => nth (ent10x n f n).t i) := by kernel_rfl

theorem q10 : PureC Tryz.prog Gl 38 famOfT := by
  refine pureC_intro tabOK mixed Tryz.func38 (by kernel_rfl) (by kernel_rfl) fun vs v h' h => ?_
  obtain ⟨n, f, ha, h1⟩ := apL1_some h
  obtain ⟨hn, hq⟩ := sem_br_fail h1
  have := sem_leaf hq
  simp only [Prod.mk.injEq] at this
  obtain ⟨rfl, rfl⟩ := this
  have hx := cx_ok tb10_ok [(0, lp10 n f), (2, lp10_2 n f)]
  have hL := loopsBy_le [(0, lp10 n f), (2, lp10_2 n f)]
  refine ⟨_, cxOf Gl tb10 [(0, lp10 n f), (2, lp10_2 n f)], _, ha, rfl, hx.1, hx.2, ?_, RowsLE.refl _⟩
  unfold famT famE
  cases hm : mayN n f with
  | false =>
    obtain ⟨e, h1, h2, h3⟩ := may_no hm
    exact told_le (onP_le hL hL) _ (wf10r _ _ n f e (isP_true (run10f _ n f hn e h1 h2 h3 e 0 (jk10 n f) (n + 1) (by omega) (by omega))))
  | true =>
    have ho := mayN_iff.1 hm
    have h0 : ∀ L, (loopsBy [(0, lp10 n f), (2, lp10_2 n f)] 0 (body10 L) (st10 n f 0 (jk10 n f))).sem = some (en10e n f n) := fun L => run10 L n f hn ho n 0 (jk10 n f) (n + 1) (by omega) (by omega)
    have h2 : ∀ L, (loopsBy [(0, lp10 n f), (2, lp10_2 n f)] 2 (body10_2 L) (ent10x n f n)).sem = some (match firstQ (famQ n f) 25 0 with | some k => en10_2r n f k | none => en10_2e n f 0) := fun L => by
      rw [ent10x_eq]
      exact run10x L n f hn hm 25 0 _ 26 rfl (by omega)
    unfold famO
    cases hc : firstQ (famQ n f) 25 0 with
    | some k =>
      rw [hc] at h2
      exact told_le (onP_le (onP_le hL hL) hL) _ (wf10x _ _ _ n f k (isP_true (h0 _)) (isP_true (h2 _)))
    | none =>
      rw [hc] at h2
      exact told_le (onP_le (onP_le hL hL) hL) _ (wf10e _ _ _ n f 0 (isP_true (h0 _)) (isP_true (h2 _)))


end Go.Proofs.YtkcbdemfmjciiaaGreatDoor.Fa


