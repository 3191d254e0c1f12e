/-
  The text of any edges: Print, the program's and the document's; the law CyclePrints as a function. No conditions.
-/
import Derived.Test.YtcaljjnadbpacaaDoorCyJ
namespace Go.Proofs.YtcaljjnadbpacaaDoor.Ed
open Go.Sy


/-! ### Names, one behind the other -/

theorem names_len : (List.range 112).all (fun k => decide ((nameS k).length ≤ 32)) = true := by kernel_rfl
theorem name_len (e : E6) : (nameF e).length ≤ 32 := by
  rcases codeF_cases e with ⟨k, hk, _, _, _, h⟩ | ⟨_, _, h, _⟩
  · rw [h]
    exact of_decide_eq_true (List.all_eq_true.1 names_len k (List.mem_range.2 hk))
  · rw [h]; exact Nat.zero_le _

def nm (f : Nat → E6) (i : Nat) : List UInt8 := nameF (f i)
/-- The names of the first i edges, a blank between. -/
def preL (f : Nat → E6) : Nat → List UInt8
  | 0 => []
  | i + 1 => bif decide (0 < i) then sapp (sapp (preL f i) [32]) (nameF (f i)) else sapp (preL f i) (nameF (f i))

theorem preL_z {f : Nat → E6} {i : Nat} (h : ¬ 0 < i) : preL f (i + 1) = sapp (preL f i) (nameF (f i)) := by rw [preL, decide_eq_false h]; rfl
theorem preL_p {f : Nat → E6} {i : Nat} (h : 0 < i) : preL f (i + 1) = sapp (sapp (preL f i) [32]) (nameF (f i)) := by rw [preL, decide_eq_true h]; rfl

theorem preL_mono (f : Nat → E6) : ∀ {i k : Nat}, i ≤ k → (preL f i).length ≤ (preL f k).length
  | i, 0, h => by
    have : i = 0 := by omega
    subst this
    exact Nat.le_refl _
  | i, k + 1, h => by
    by_cases e : i = k + 1
    · subst e; exact Nat.le_refl _
    · have := preL_mono f (show i ≤ k by omega)
      by_cases hk : 0 < k
      · rw [preL_p hk]
        simp only [sapp, List.length_append]
        omega
      · rw [preL_z hk]
        simp only [sapp, List.length_append]
        omega

theorem preL_le (f : Nat → E6) : ∀ i, (preL f i).length ≤ 33 * i
  | 0 => Nat.le_refl _
  | i + 1 => by
    have h1 := preL_le f i
    have h2 := name_len (f i)
    by_cases hk : 0 < i
    · rw [preL_p hk]
      simp only [sapp, List.length_append, List.length_cons, List.length_nil]
      omega
    · rw [preL_z hk]
      simp only [sapp, List.length_append]
      omega

def sizN (f : Nat → E6) : Nat → Nat
  | 0 => 0
  | i + 1 => sizN f i + ((nameF (f i)).length + 1)

theorem sizN_le (f : Nat → E6) : ∀ i, sizN f i ≤ 33 * i
  | 0 => Nat.le_refl _
  | i + 1 => by
    have h1 := sizN_le f i
    have h2 := name_len (f i)
    unfold sizN
    omega

theorem sizN_len (f : Nat → E6) : ∀ i, sizN f (i + 1) = (preL f (i + 1)).length + 1
  | 0 => by
    rw [preL_z (Nat.lt_irrefl 0)]
    simp [sizN, preL, sapp]
  | i + 1 => by
    have ih := sizN_len f i
    rw [sizN, ih, preL_p (f := f) (i := i + 1) (by omega)]
    simp only [sapp, List.length_append, List.length_cons, List.length_nil]
    omega

theorem join_snoc (x y : List UInt8) (r : List (List UInt8)) (sep : List UInt8) : Lib.join ((x :: r) ++ [y]) sep = Lib.join (x :: r) sep ++ sep ++ y := by
  rw [List.cons_append, Lib.join_cons, Lib.join_cons]
  simp [Lib.joinTail, List.append_assoc]

theorem join_pre (f : Nat → E6) (g : Nat → List UInt8) (n : Nat) (hg : ∀ k, k < n → g k = nameF (f k)) : ∀ i, i ≤ n → Lib.join ((List.range i).map g) [32] = preL f i
  | 0, _ => rfl
  | i + 1, h => by
    have ih := join_pre f g n hg i (by omega)
    rw [List.range_succ, List.map_append, List.map_cons, List.map_nil, hg i (by omega)]
    by_cases hi : 0 < i
    · obtain ⟨m, rfl⟩ : ∃ m, i = m + 1 := ⟨i - 1, by omega⟩
      rw [preL_p hi, ← ih]
      rw [List.range_succ_eq_map, List.map_cons, join_snoc]
      rfl
    · have : i = 0 := by omega
      subst this
      rw [preL_z hi]
      show Lib.join [nameF (f 0)] [32] = _
      rw [Lib.join_one]
      rfl

def rowS (f : Nat → E6) (i k : Nat) : List UInt8 := bif decide (k < i) then nameF (f k) else []
theorem rowS_0 (f : Nat → E6) : rowS f 0 = fun _ => [] := by
  funext k
  simp [rowS]
theorem push_rowS (f : Nat → E6) (i : Nat) : pushGet i (fun k => .str (rowS f i k)) (.str (nameF (f i))) = fun k => .str (rowS f (i + 1) k) := by
  funext k
  rw [pushGet_eq, show Nat.beq k i = decide (k = i) by rw [Bool.eq_iff_iff]; simp]
  unfold rowS
  by_cases h : k = i
  · subst h; simp
  · by_cases h2 : k < i
    · have : k < i + 1 := by omega
      simp [h, h2, this]
    · have : ¬ k < i + 1 := by omega
      simp [h, h2, this]

theorem joinF_pre (f : Nat → E6) (n : Nat) : joinF n (rowS f n) [32] = preL f n :=
  join_pre f (rowS f n) n (fun k hk => by rw [rowS, decide_eq_true hk]; rfl) n (Nat.le_refl n)

theorem pred_wr1 {D : Nat} (h : 0 < D) (hn : D ≤ 9223372036854775807) : wr .i64 (isub (Int.ofNat D) 1) = Int.ofNat (D - 1) := by
  unfold wr isub IntKind.wrap
  simp [IntKind.bits, IntKind.signed]
  omega

def bigL (n : Nat) (f : Nat → E6) : Bool := decide (262144 < (preL f n).length)
def printS (n : Nat) (f : Nat → E6) : List UInt8 := bif mayN n f then (bif bigL n f then [] else preL f n) else []
def printE (n : Nat) (f : Nat → E6) : Int := bif mayN n f then (bif bigL n f then 2 else 0) else 30
def printT : List V → T (V × List Blk) := apL1 fun n f => .br (fitN n) (out (.tup [.str (printS n f), iV (printE n f)])) .fail

/-! ### The program's -/

noncomputable def tb63 : List (Nat × (List V → T (V × List Blk))) := [(26, edgeT nameP), (100, joinT)]
theorem tb63_ok : AllPure Tryd.prog Gl tb63 := .cons p26 <| .cons p100 .nil

def lp63 (n : Nat) (f : Nat → E6) : Lp := ⟨[false, false, true, true, true, true, false, false, false, false, true, true, true, false, false, false, false, false, false, false, false, false, false, false, false, false, false, false, false, false, false, false, false, false, false, false, false, false], 1, [false, false, true, true, true, true, false, false, false, false, false, false, false, false, false, false, false, false, false, false, false, false, false, false, false, false, false, false, false, false, false, false, false, false, false, false, false, false], 1, n + 1⟩
def st63 (n : Nat) (f : Nat → E6) (s : Int) (i : Nat) (h : Nat → List UInt8) (j : Nat → V) : St := ⟨[j 0, j 1, .str [], iV 0, .ref 0, iV s, j 6, j 7, j 8, j 9, .sl 6 n (fun i => (eV (f i))), iV (Int.ofNat n), iV (Int.ofNat i), j 13, j 14, j 15, j 16, j 17, j 18, j 19, j 20, j 21, j 22, j 23, j 24, j 25, j 26, j 27, j 28, j 29, j 30, j 31, j 32, j 33, j 34, j 35, j 36, j 37], [.row 9 1 i (fun k => .str (h k))]⟩
def en63e (n : Nat) (f : Nat → E6) (s : Int) (i : Nat) (h : Nat → List UInt8) : Ex × St := (.ex 0, ⟨[.und, .und, .str [], iV 0, .ref 0, iV s, .und, .und, .und, .und, .und, .und, .und, .und, .und, .und, .und, .und, .und, .und, .und, .und, .und, .und, .und, .und, .und, .und, .und, .und, .und, .und, .und, .und, .und, .und, .und, .und], [.row 9 1 i (fun k => .str (h k))]⟩)
def en63f (n : Nat) (f : Nat → E6) (s : Int) (i : Nat) (h : Nat → List UInt8) : Ex × St := (.rt, ⟨[.und, .und, .str [], iV 30, .ref 0, iV s, .und, .und, .und, .und, .und, .und, .und, .und, .und, .und, .und, .und, .und, .und, .und, .und, .und, .und, .und, .und, .und, .und, .und, .und, .und, .und, .und, .und, .und, .und, .und, .und], [.row 9 1 i (fun k => .str (h k))]⟩)
noncomputable def body63 (L : Nat → (St → T (Ex × St)) → St → T (Ex × St)) : St → T (Ex × St) := fun st => evalC tab ⟨callT tb63, L, Gl⟩ (loopBody Tryd.f63 0) 0 st
theorem rc63e_p (L : Nat → (St → T (Ex × St)) → St → T (Ex × St)) (n : Nat) (f : Nat → E6) (s : Int) (i : Nat) (h : Nat → List UInt8)  (j : Nat → V) : ((body63 L (st63 n f s i h j)).bind fun r => T.leaf (cutR (lp63 n f) r)).path [false] = some ([(ilt (Int.ofNat i) (Int.ofNat n))], ((.ex 0), ⟨[.und, .und, (.str []), (iV 0), (.ref 0), (iV s), .und, .und, .und, .und, .und, .und, .und, .und, .und, .und, .und, .und, .und, .und, .und, .und, .und, .und, .und, .und, .und, .und, .und, .und, .und, .und, .und, .und, .und, .und, .und, .und], [(.row 9 1 i (fun k => (.str (h k))))]⟩)) := by kernel_rfl
theorem rc63e (L : Nat → (St → T (Ex × St)) → St → T (Ex × St)) (n : Nat) (f : Nat → E6) (s : Int) (i : Nat) (h : Nat → List UInt8)  (j : Nat → V) (h0 : ilt (Int.ofNat i) (Int.ofNat n) = false) : ((body63 L (st63 n f s i h j)).bind fun r => T.leaf (cutR (lp63 n f) r)).sem = some ((.ex 0), ⟨[.und, .und, (.str []), (iV 0), (.ref 0), (iV s), .und, .und, .und, .und, .und, .und, .und, .und, .und, .und, .und, .und, .und, .und, .und, .und, .und, .und, .und, .und, .und, .und, .und, .und, .und, .und, .und, .und, .und, .und, .und, .und], [(.row 9 1 i (fun k => (.str (h k))))]⟩) := by
  exact sem_of_path (rc63e_p L n f s i h j) (by simp only [h0] <;> rfl)
theorem rc63f_p (L : Nat → (St → T (Ex × St)) → St → T (Ex × St)) (n : Nat) (f : Nat → E6) (s : Int) (i : Nat) (h : Nat → List UInt8)  (j : Nat → V) : ((body63 L (st63 n f s i h j)).bind fun r => T.leaf (cutR (lp63 n f) r)).path [true, true, true] = some ([(ilt (Int.ofNat i) (Int.ofNat n)), (band (ile 0 (Int.ofNat i)) (ilt (Int.ofNat i) (Int.ofNat n))), (bnot (ieq (codeF (f i)) 0))], (.rt, ⟨[.und, .und, (.str []), (iV 30), (.ref 0), (iV s), .und, .und, .und, .und, .und, .und, .und, .und, .und, .und, .und, .und, .und, .und, .und, .und, .und, .und, .und, .und, .und, .und, .und, .und, .und, .und, .und, .und, .und, .und, .und, .und], [(.row 9 1 i (fun k => (.str (h k))))]⟩)) := by kernel_rfl
theorem rc63f (L : Nat → (St → T (Ex × St)) → St → T (Ex × St)) (n : Nat) (f : Nat → E6) (s : Int) (i : Nat) (h : Nat → List UInt8)  (j : Nat → V) (h0 : ilt (Int.ofNat i) (Int.ofNat n) = true) (h1 : band (ile 0 (Int.ofNat i)) (ilt (Int.ofNat i) (Int.ofNat n)) = true) (h2 : ieq (codeF (f i)) 0 = false) : ((body63 L (st63 n f s i h j)).bind fun r => T.leaf (cutR (lp63 n f) r)).sem = some (.rt, ⟨[.und, .und, (.str []), (iV 30), (.ref 0), (iV s), .und, .und, .und, .und, .und, .und, .und, .und, .und, .und, .und, .und, .und, .und, .und, .und, .und, .und, .und, .und, .und, .und, .und, .und, .und, .und, .und, .und, .und, .und, .und, .und], [(.row 9 1 i (fun k => (.str (h k))))]⟩) := by
  exact sem_of_path (rc63f_p L n f s i h j) (by simp only [h1] <;> simp only [h0, h2] <;> rfl)
theorem rc63n_p (L : Nat → (St → T (Ex × St)) → St → T (Ex × St)) (n : Nat) (f : Nat → E6) (s : Int) (i : Nat) (h : Nat → List UInt8)  (j : Nat → V) : ((body63 L (st63 n f s i h j)).bind fun r => T.leaf (cutR (lp63 n f) r)).path [true, true, false, true] = some ([(ilt (Int.ofNat i) (Int.ofNat n)), (band (ile 0 (Int.ofNat i)) (ilt (Int.ofNat i) (Int.ofNat n))), (bnot (ieq (codeF (f i)) 0)), (apOK i 1 16)], (.nm, ⟨[.und, .und, (.str []), (iV 0), (.ref 0), (iV (wr IntKind.i64 (iadd s (wr IntKind.i64 (iadd (Int.ofNat (slen (nameF (f i)))) 1))))), .und, .und, .und, .und, (.sl 6 n (fun i => (eV (f i)))), (iV (Int.ofNat n)), (iV (wr IntKind.i64 (iadd (Int.ofNat i) 1))), .und, .und, .und, .und, .und, .und, .und, .und, .und, .und, .und, .und, .und, .und, .und, .und, .und, .und, .und, .und, .und, .und, .und, .und, .und], [(.row 9 1 (nadd i 1) (pushGet i (fun k => (.str (h k))) (.str (nameF (f i)))))]⟩)) := by kernel_rfl
theorem rc63n (L : Nat → (St → T (Ex × St)) → St → T (Ex × St)) (n : Nat) (f : Nat → E6) (s : Int) (i : Nat) (h : Nat → List UInt8)  (j : Nat → V) (h0 : ilt (Int.ofNat i) (Int.ofNat n) = true) (h1 : band (ile 0 (Int.ofNat i)) (ilt (Int.ofNat i) (Int.ofNat n)) = true) (h2 : ieq (codeF (f i)) 0 = true) (h3 : apOK i 1 16 = true) : ((body63 L (st63 n f s i h j)).bind fun r => T.leaf (cutR (lp63 n f) r)).sem = some (.nm, ⟨[.und, .und, (.str []), (iV 0), (.ref 0), (iV (wr IntKind.i64 (iadd s (wr IntKind.i64 (iadd (Int.ofNat (slen (nameF (f i)))) 1))))), .und, .und, .und, .und, (.sl 6 n (fun i => (eV (f i)))), (iV (Int.ofNat n)), (iV (wr IntKind.i64 (iadd (Int.ofNat i) 1))), .und, .und, .und, .und, .und, .und, .und, .und, .und, .und, .und, .und, .und, .und, .und, .und, .und, .und, .und, .und, .und, .und, .und, .und, .und], [(.row 9 1 (nadd i 1) (pushGet i (fun k => (.str (h k))) (.str (nameF (f i)))))]⟩) := by
  exact sem_of_path (rc63n_p L n f s i h j) (by simp only [h1] <;> simp only [h0, h2, h3] <;> rfl)

def ent63 (n : Nat) (f : Nat → E6)  : St := ⟨[(.sl 6 n (fun i => (eV (f i)))), undefV, (.str []), (iV 0), (.ref 0), (iV 0), undefV, undefV, undefV, undefV, (.sl 6 n (fun i => (eV (f i)))), (iV (Int.ofNat n)), (iV 0), undefV, undefV, undefV, undefV, undefV, undefV, undefV, undefV, undefV, undefV, undefV, undefV, undefV, undefV, undefV, undefV, undefV, undefV, undefV, undefV, undefV, undefV, undefV, undefV, undefV], [(.row 9 1 0 (fun _ => .und))]⟩

theorem wc63f_p (L : Nat → (St → T (Ex × St)) → St → T (Ex × St)) (p0 : (St → T (Ex × St)) → St → Bool) (n : Nat) (f : Nat → E6) (s : Int) (i : Nat) (h : Nat → List UInt8) : (finF (evalF tab ⟨callT tb63, (onP 0 p0 (en63f n f s i h) L), Gl⟩ Tryd.f63 [edgesV n f] [])).path [true] = some ([(p0 (body63 (onP 0 p0 (en63f n f s i h) L)) (ent63 n f))], ((.tup [(.str []), (iV 30)]), [])) := by kernel_rfl
theorem wc63f (L : Nat → (St → T (Ex × St)) → St → T (Ex × St)) (p0 : (St → T (Ex × St)) → St → Bool) (n : Nat) (f : Nat → E6) (s : Int) (i : Nat) (h : Nat → List UInt8)  (hp0 : p0 (body63 (onP 0 p0 (en63f n f s i h) L)) (ent63 n f) = true) : (finF (evalF tab ⟨callT tb63, (onP 0 p0 (en63f n f s i h) L), Gl⟩ Tryd.f63 [edgesV n f] [])).sem = some ((.tup [(.str []), (iV 30)]), []) := by
  exact sem_of_path (wc63f_p L p0 n f s i h) (by simp only [hp0] <;> rfl)

theorem wc63g_p (L : Nat → (St → T (Ex × St)) → St → T (Ex × St)) (p0 : (St → T (Ex × St)) → St → Bool) (n : Nat) (f : Nat → E6) (s : Int) (h : Nat → List UInt8) : (finF (evalF tab ⟨callT tb63, (onP 0 p0 (en63e n f s n h) L), Gl⟩ Tryd.f63 [edgesV n f] [])).path [true, true] = some ([(p0 (body63 (onP 0 p0 (en63e n f s n h) L)) (ent63 n f)), (ilt 262144 (wr IntKind.i64 (isub s 1)))], ((.tup [(.str []), (iV 2)]), [])) := by kernel_rfl
theorem wc63g (L : Nat → (St → T (Ex × St)) → St → T (Ex × St)) (p0 : (St → T (Ex × St)) → St → Bool) (n : Nat) (f : Nat → E6) (s : Int) (h : Nat → List UInt8) (h0 : ilt 262144 (wr IntKind.i64 (isub s 1)) = true) (hp0 : p0 (body63 (onP 0 p0 (en63e n f s n h) L)) (ent63 n f) = true) : (finF (evalF tab ⟨callT tb63, (onP 0 p0 (en63e n f s n h) L), Gl⟩ Tryd.f63 [edgesV n f] [])).sem = some ((.tup [(.str []), (iV 2)]), []) := by
  exact sem_of_path (wc63g_p L p0 n f s h) (by simp only [hp0] <;> simp only [h0] <;> rfl)

theorem wc63z_p (L : Nat → (St → T (Ex × St)) → St → T (Ex × St)) (p0 : (St → T (Ex × St)) → St → Bool) (n : Nat) (f : Nat → E6) (s : Int) (h : Nat → List UInt8) : (finF (evalF tab ⟨callT tb63, (onP 0 p0 (en63e n f s n h) L), Gl⟩ Tryd.f63 [edgesV n f] [])).path [true, false, true, true] = some ([(p0 (body63 (onP 0 p0 (en63e n f s n h) L)) (ent63 n f)), (ilt 262144 (wr IntKind.i64 (isub s 1))), (allN n (fun _ => Bool.true)), (joinOK n h [32])], ((.tup [(.str (joinF n h [32])), (iV 0)]), [])) := by kernel_rfl
theorem wc63z (L : Nat → (St → T (Ex × St)) → St → T (Ex × St)) (p0 : (St → T (Ex × St)) → St → Bool) (n : Nat) (f : Nat → E6) (s : Int) (h : Nat → List UInt8) (h0 : ilt 262144 (wr IntKind.i64 (isub s 1)) = false) (h1 : joinOK n h [32] = true) (hp0 : p0 (body63 (onP 0 p0 (en63e n f s n h) L)) (ent63 n f) = true) : (finF (evalF tab ⟨callT tb63, (onP 0 p0 (en63e n f s n h) L), Gl⟩ Tryd.f63 [edgesV n f] [])).sem = some ((.tup [(.str (joinF n h [32])), (iV 0)]), []) := by
  exact sem_of_path (wc63z_p L p0 n f s h) (by simp only [hp0] <;> simp only [h0, h1, allN_true] <;> rfl)

theorem run63 (L : Nat → (St → T (Ex × St)) → St → T (Ex × St)) (n : Nat) (f : Nat → E6) (h8 : n * 40 ≤ 140737488355328) (e : Nat) (he : e ≤ n) (ho : ∀ k, k < e → codeF (f k) = 0) : ∀ (d i : Nat) (j : Nat → V) (q : Nat), e = i + d → n - i < q →
    (iterT (body63 L) (lp63 n f) q (st63 n f (Int.ofNat (sizN f i)) i (rowS f i) j)).sem = (iterT (body63 L) (lp63 n f) (q - d) (st63 n f (Int.ofNat (sizN f e)) e (rowS f e) (match d with | 0 => j | _ + 1 => fun _ => .und))).sem
  | 0, i, j, q, h, _ => by
    have : e = i := by omega
    subst this
    rfl
  | d + 1, i, j, q + 1, h, h2 => by
    have hl : i < n := by omega
    have hz := sizN_le f i
    have hz2 := name_len (f i)
    have h9 : (i + 1) * 16 ≤ 140737488355328 := by omega
    have ha : apOK i 1 16 = true := decide_eq_true h9
    have c1 : ieq (codeF (f i)) 0 = true := by rw [ho i (by omega)]; rfl
    have e3 : wr IntKind.i64 (iadd (Int.ofNat (sizN f i)) (wr IntKind.i64 (iadd (Int.ofNat (slen (nameF (f i)))) 1))) = (Int.ofNat (sizN f (i + 1))) := by
      have hs : slen (nameF (f i)) = (nameF (f i)).length := rfl
      rw [wr_one (by omega), wr_add (by omega)]
      rfl
    rw [iter_round (rc63n L n f (Int.ofNat (sizN f i)) i (rowS f i) j (ofNat_lt hl) (ofNat_in hl) c1 ha), goOn_nm, succ_wr hl (by omega), e3, push_rowS]
    have := run63 L n f h8 e he ho d (i + 1) (fun _ => .und) q (by omega) (by omega)
    rw [show q + 1 - (d + 1) = q - d by omega]
    refine Eq.trans this ?_
    cases d <;> rfl

theorem ent63_eq (n : Nat) (f : Nat → E6) : fillS (ent63 n f) [(0, .str [])] = st63 n f 0 0 (fun _ => []) (fun i => nth (ent63 n f).t i) := by kernel_rfl
def zs63 : List (Nat × List (Nat × V)) := [(0, [(0, .str [])])]

theorem told63 (n : Nat) (f : Nat → E6) (hF : fitN n = true) :
    (finF (evalF tab (cxZ Gl tb63 zs63 [(0, lp63 n f)]) Tryd.f63 [edgesV n f] [])).sem = some (.tup [.str (printS n f), iV (printE n f)], []) := by
  have h8 : n * 40 ≤ 140737488355328 := of_decide_eq_true hF
  have hL := loopsZ_le zs63 [(0, lp63 n f)]
  have start : ∀ L e, e ≤ n → (∀ k, k < e → codeF (f k) = 0) → ∃ j, (loopsZ zs63 [(0, lp63 n f)] 0 (body63 L) (ent63 n f)).sem = (iterT (body63 L) (lp63 n f) (n + 1 - e) (st63 n f (Int.ofNat (sizN f e)) e (rowS f e) j)).sem := fun L e he ho => by
    have h := run63 L n f h8 e he ho e 0 (fun i => nth (ent63 n f).t i) (n + 1) (by omega) (by omega)
    refine ⟨_, Eq.trans ?_ h⟩
    show (iterT (body63 L) (lp63 n f) (n + 1) (fillS (ent63 n f) [(0, .str [])])).sem = _
    rw [ent63_eq, ← rowS_0 f]
    rfl
  unfold printS printE
  cases hm : mayN n f with
  | false =>
    obtain ⟨e, he, hb, ho⟩ := may_no hm
    have h0 : ∀ L, (loopsZ zs63 [(0, lp63 n f)] 0 (body63 L) (ent63 n f)).sem = some (en63f n f (Int.ofNat (sizN f e)) e (rowS f e)) := fun L => by
      obtain ⟨j, h⟩ := start L e (Nat.le_of_lt he) ho
      rw [h, show n + 1 - e = (n - e) + 1 by omega]
      have c1 : ieq (codeF (f e)) 0 = false := by rw [hb]; rfl
      exact iter_round (rc63f L n f (Int.ofNat (sizN f e)) e (rowS f e) j (ofNat_lt he) (ofNat_in he) c1)
    exact told_le (onP_le hL hL) _ (wc63f _ _ n f (Int.ofNat (sizN f e)) e (rowS f e) (isP_true (h0 _)))
  | true =>
    have h0 : ∀ L, (loopsZ zs63 [(0, lp63 n f)] 0 (body63 L) (ent63 n f)).sem = some (en63e n f (Int.ofNat (sizN f n)) n (rowS f n)) := fun L => by
      obtain ⟨j, h⟩ := start L n (Nat.le_refl n) (mayN_iff.1 hm)
      rw [h, show n + 1 - n = 0 + 1 by omega]
      exact iter_round (rc63e L n f (Int.ofNat (sizN f n)) n (rowS f n) j (ofNat_ge (Nat.le_refl _)))
    have hg : ilt 262144 (wr IntKind.i64 (isub (Int.ofNat (sizN f n)) 1)) = bigL n f := by
      cases n with
      | zero => rfl
      | succ m =>
        have h1 := sizN_len f m
        have h2 := sizN_le f (m + 1)
        rw [pred_wr1 (by omega) (by omega), show (262144 : Int) = Int.ofNat 262144 from rfl, ilt_nat, h1]
        rfl
    cases hb : bigL n f with
    | true =>
      rw [hb] at hg
      exact told_le (onP_le hL hL) _ (wc63g _ _ n f (Int.ofNat (sizN f n)) (rowS f n) hg (isP_true (h0 _)))
    | false =>
      rw [hb] at hg
      have hlen : (preL f n).length ≤ 262144 := by
        have := of_decide_eq_false hb
        omega
      have hj : joinOK n (rowS f n) [32] = true := by
        simp only [joinOK, joinF_pre, Bool.and_eq_true, decide_eq_true_eq]
        omega
      have hw := told_le (onP_le hL hL) _ (wc63z _ _ n f (Int.ofNat (sizN f n)) (rowS f n) hg hj (isP_true (h0 _)))
      rw [joinF_pre] at hw
      exact hw

theorem p63 : PureC Tryd.prog Gl 63 printT := by
  refine pureC_intro tabOK mixed Tryd.func63 (by kernel_rfl) (by kernel_rfl) fun vs v h' h => ?_
  obtain ⟨n, f, ha, h1⟩ := apL1_some h
  obtain ⟨hn, hq⟩ := sem_br_fail h1
  have := sem_leaf hq
  simp only [Prod.mk.injEq] at this
  obtain ⟨rfl, rfl⟩ := this
  have hx := cxZ_ok tb63_ok zs63 [(0, lp63 n f)]
  exact ⟨_, cxZ Gl tb63 zs63 [(0, lp63 n f)], _, ha, rfl, hx.1, hx.2, told63 n f hn, RowsLE.refl _⟩

/-! ### The document's -/

noncomputable def tb64 : List (Nat × (List V → T (V × List Blk))) := [(27, edgeT nameP), (98, mayT)]
theorem tb64_ok : AllPure Tryd.prog Gl tb64 := .cons p27 <| .cons p98 .nil
def tooL (f : Nat → E6) (i : Nat) : Bool := ilt 262144 (Int.ofNat (slen (preL f (i + 1))))

theorem firstQ_no {q : Nat → Bool} : ∀ {d i : Nat}, firstQ q d i = none → ∀ k, i ≤ k → k < i + d → q k = false
  | 0, i, _, k, h1, h2 => by omega
  | d + 1, i, h, k, h1, h2 => by
    cases hq : q i with
    | true => rw [firstQ_t hq] at h; cases h
    | false =>
      rw [firstQ_f hq] at h
      by_cases e : k = i
      · rw [e]; exact hq
      · exact firstQ_no h k (by omega) (by omega)

def lp64 (n : Nat) (f : Nat → E6) : Lp := ⟨[true, false, true, true, true, true, false, false, false, false, false, false, false, false, false, false, false, false, false, false, false, false, false, false, false, false, false, false, false, false, false, false, false, false, false, false], 0, [false, false, true, true, true, false, false, false, false, false, false, false, false, false, false, false, false, false, false, false, false, false, false, false, false, false, false, false, false, false, false, false, false, false, false, false], 0, n + 1⟩
def st64 (n : Nat) (f : Nat → E6) (o : List UInt8) (i : Nat) (j : Nat → V) : St := ⟨[.sl 6 n (fun i => (eV (f i))), j 1, .str [], iV 0, .str o, iV (Int.ofNat i), j 6, j 7, j 8, j 9, j 10, j 11, j 12, j 13, j 14, j 15, j 16, j 17, j 18, j 19, j 20, j 21, j 22, j 23, j 24, j 25, j 26, j 27, j 28, j 29, j 30, j 31, j 32, j 33, j 34, j 35], []⟩
def en64e (n : Nat) (f : Nat → E6) (o : List UInt8) (i : Nat) : Ex × St := (.ex 0, ⟨[.und, .und, .str [], iV 0, .str o, .und, .und, .und, .und, .und, .und, .und, .und, .und, .und, .und, .und, .und, .und, .und, .und, .und, .und, .und, .und, .und, .und, .und, .und, .und, .und, .und, .und, .und, .und, .und], []⟩)
def en64g (n : Nat) (f : Nat → E6) (o : List UInt8) (i : Nat) : Ex × St := (.rt, ⟨[.und, .und, .str [], iV 2, .str o, .und, .und, .und, .und, .und, .und, .und, .und, .und, .und, .und, .und, .und, .und, .und, .und, .und, .und, .und, .und, .und, .und, .und, .und, .und, .und, .und, .und, .und, .und, .und], []⟩)
noncomputable def body64 (L : Nat → (St → T (Ex × St)) → St → T (Ex × St)) : St → T (Ex × St) := fun st => evalC tab ⟨callT tb64, L, Gl⟩ (loopBody Tryd.f64 0) 0 st
theorem rc64e_p (L : Nat → (St → T (Ex × St)) → St → T (Ex × St)) (n : Nat) (f : Nat → E6) (o : List UInt8) (i : Nat)  (j : Nat → V) : ((body64 L (st64 n f o i j)).bind fun r => T.leaf (cutR (lp64 n f) r)).path [false] = some ([(ilt (Int.ofNat i) (Int.ofNat n))], ((.ex 0), ⟨[.und, .und, (.str []), (iV 0), (.str o), .und, .und, .und, .und, .und, .und, .und, .und, .und, .und, .und, .und, .und, .und, .und, .und, .und, .und, .und, .und, .und, .und, .und, .und, .und, .und, .und, .und, .und, .und, .und], []⟩)) := by kernel_rfl
theorem rc64e (L : Nat → (St → T (Ex × St)) → St → T (Ex × St)) (n : Nat) (f : Nat → E6) (o : List UInt8) (i : Nat)  (j : Nat → V) (h0 : ilt (Int.ofNat i) (Int.ofNat n) = false) : ((body64 L (st64 n f o i j)).bind fun r => T.leaf (cutR (lp64 n f) r)).sem = some ((.ex 0), ⟨[.und, .und, (.str []), (iV 0), (.str o), .und, .und, .und, .und, .und, .und, .und, .und, .und, .und, .und, .und, .und, .und, .und, .und, .und, .und, .und, .und, .und, .und, .und, .und, .und, .und, .und, .und, .und, .und, .und], []⟩) := by
  exact sem_of_path (rc64e_p L n f o i j) (by simp only [h0] <;> rfl)
theorem rc64zn_p (L : Nat → (St → T (Ex × St)) → St → T (Ex × St)) (n : Nat) (f : Nat → E6) (o : List UInt8) (i : Nat)  (j : Nat → V) : ((body64 L (st64 n f o i j)).bind fun r => T.leaf (cutR (lp64 n f) r)).path [true, false, true, true, false] = some ([(ilt (Int.ofNat i) (Int.ofNat n)), (ilt 0 (Int.ofNat i)), (band (ile 0 (Int.ofNat i)) (ilt (Int.ofNat i) (Int.ofNat n))), (strOK o (nameF (f i))), (ilt 262144 (Int.ofNat (slen (sapp o (nameF (f i))))))], (.nm, ⟨[(.sl 6 n (fun i => (eV (f i)))), .und, (.str []), (iV 0), (.str (sapp o (nameF (f i)))), (iV (wr IntKind.i64 (iadd (Int.ofNat i) 1))), .und, .und, .und, .und, .und, .und, .und, .und, .und, .und, .und, .und, .und, .und, .und, .und, .und, .und, .und, .und, .und, .und, .und, .und, .und, .und, .und, .und, .und, .und], []⟩)) := by kernel_rfl
theorem rc64zn (L : Nat → (St → T (Ex × St)) → St → T (Ex × St)) (n : Nat) (f : Nat → E6) (o : List UInt8) (i : Nat)  (j : Nat → V) (h0 : ilt (Int.ofNat i) (Int.ofNat n) = true) (h2 : ilt 0 (Int.ofNat i) = false) (h1 : band (ile 0 (Int.ofNat i)) (ilt (Int.ofNat i) (Int.ofNat n)) = true) (h14 : strOK o (nameF (f i)) = true) (h3 : ilt 262144 (Int.ofNat (slen (sapp o (nameF (f i))))) = false) : ((body64 L (st64 n f o i j)).bind fun r => T.leaf (cutR (lp64 n f) r)).sem = some (.nm, ⟨[(.sl 6 n (fun i => (eV (f i)))), .und, (.str []), (iV 0), (.str (sapp o (nameF (f i)))), (iV (wr IntKind.i64 (iadd (Int.ofNat i) 1))), .und, .und, .und, .und, .und, .und, .und, .und, .und, .und, .und, .und, .und, .und, .und, .und, .und, .und, .und, .und, .und, .und, .und, .und, .und, .und, .und, .und, .und, .und], []⟩) := by
  exact sem_of_path (rc64zn_p L n f o i j) (by simp only [h1] <;> simp only [h0, h2, h14, h3] <;> rfl)
theorem rc64zg_p (L : Nat → (St → T (Ex × St)) → St → T (Ex × St)) (n : Nat) (f : Nat → E6) (o : List UInt8) (i : Nat)  (j : Nat → V) : ((body64 L (st64 n f o i j)).bind fun r => T.leaf (cutR (lp64 n f) r)).path [true, false, true, true, true] = some ([(ilt (Int.ofNat i) (Int.ofNat n)), (ilt 0 (Int.ofNat i)), (band (ile 0 (Int.ofNat i)) (ilt (Int.ofNat i) (Int.ofNat n))), (strOK o (nameF (f i))), (ilt 262144 (Int.ofNat (slen (sapp o (nameF (f i))))))], (.rt, ⟨[.und, .und, (.str []), (iV 2), (.str (sapp o (nameF (f i)))), .und, .und, .und, .und, .und, .und, .und, .und, .und, .und, .und, .und, .und, .und, .und, .und, .und, .und, .und, .und, .und, .und, .und, .und, .und, .und, .und, .und, .und, .und, .und], []⟩)) := by kernel_rfl
theorem rc64zg (L : Nat → (St → T (Ex × St)) → St → T (Ex × St)) (n : Nat) (f : Nat → E6) (o : List UInt8) (i : Nat)  (j : Nat → V) (h0 : ilt (Int.ofNat i) (Int.ofNat n) = true) (h2 : ilt 0 (Int.ofNat i) = false) (h1 : band (ile 0 (Int.ofNat i)) (ilt (Int.ofNat i) (Int.ofNat n)) = true) (h14 : strOK o (nameF (f i)) = true) (h3 : ilt 262144 (Int.ofNat (slen (sapp o (nameF (f i))))) = true) : ((body64 L (st64 n f o i j)).bind fun r => T.leaf (cutR (lp64 n f) r)).sem = some (.rt, ⟨[.und, .und, (.str []), (iV 2), (.str (sapp o (nameF (f i)))), .und, .und, .und, .und, .und, .und, .und, .und, .und, .und, .und, .und, .und, .und, .und, .und, .und, .und, .und, .und, .und, .und, .und, .und, .und, .und, .und, .und, .und, .und, .und], []⟩) := by
  exact sem_of_path (rc64zg_p L n f o i j) (by simp only [h1] <;> simp only [h0, h2, h14, h3] <;> rfl)
theorem rc64pn_p (L : Nat → (St → T (Ex × St)) → St → T (Ex × St)) (n : Nat) (f : Nat → E6) (o : List UInt8) (i : Nat)  (j : Nat → V) : ((body64 L (st64 n f o i j)).bind fun r => T.leaf (cutR (lp64 n f) r)).path [true, true, true, true, true, false] = some ([(ilt (Int.ofNat i) (Int.ofNat n)), (ilt 0 (Int.ofNat i)), (strOK o [32]), (band (ile 0 (Int.ofNat i)) (ilt (Int.ofNat i) (Int.ofNat n))), (strOK (sapp o [32]) (nameF (f i))), (ilt 262144 (Int.ofNat (slen (sapp (sapp o [32]) (nameF (f i))))))], (.nm, ⟨[(.sl 6 n (fun i => (eV (f i)))), .und, (.str []), (iV 0), (.str (sapp (sapp o [32]) (nameF (f i)))), (iV (wr IntKind.i64 (iadd (Int.ofNat i) 1))), .und, .und, .und, .und, .und, .und, .und, .und, .und, .und, .und, .und, .und, .und, .und, .und, .und, .und, .und, .und, .und, .und, .und, .und, .und, .und, .und, .und, .und, .und], []⟩)) := by kernel_rfl
theorem rc64pn (L : Nat → (St → T (Ex × St)) → St → T (Ex × St)) (n : Nat) (f : Nat → E6) (o : List UInt8) (i : Nat)  (j : Nat → V) (h0 : ilt (Int.ofNat i) (Int.ofNat n) = true) (h2 : ilt 0 (Int.ofNat i) = true) (h14 : strOK o [32] = true) (h1 : band (ile 0 (Int.ofNat i)) (ilt (Int.ofNat i) (Int.ofNat n)) = true) (h15 : strOK (sapp o [32]) (nameF (f i)) = true) (h3 : ilt 262144 (Int.ofNat (slen (sapp (sapp o [32]) (nameF (f i))))) = false) : ((body64 L (st64 n f o i j)).bind fun r => T.leaf (cutR (lp64 n f) r)).sem = some (.nm, ⟨[(.sl 6 n (fun i => (eV (f i)))), .und, (.str []), (iV 0), (.str (sapp (sapp o [32]) (nameF (f i)))), (iV (wr IntKind.i64 (iadd (Int.ofNat i) 1))), .und, .und, .und, .und, .und, .und, .und, .und, .und, .und, .und, .und, .und, .und, .und, .und, .und, .und, .und, .und, .und, .und, .und, .und, .und, .und, .und, .und, .und, .und], []⟩) := by
  exact sem_of_path (rc64pn_p L n f o i j) (by simp only [h1] <;> simp only [h0, h2, h14, h15, h3] <;> rfl)
theorem rc64pg_p (L : Nat → (St → T (Ex × St)) → St → T (Ex × St)) (n : Nat) (f : Nat → E6) (o : List UInt8) (i : Nat)  (j : Nat → V) : ((body64 L (st64 n f o i j)).bind fun r => T.leaf (cutR (lp64 n f) r)).path [true, true, true, true, true, true] = some ([(ilt (Int.ofNat i) (Int.ofNat n)), (ilt 0 (Int.ofNat i)), (strOK o [32]), (band (ile 0 (Int.ofNat i)) (ilt (Int.ofNat i) (Int.ofNat n))), (strOK (sapp o [32]) (nameF (f i))), (ilt 262144 (Int.ofNat (slen (sapp (sapp o [32]) (nameF (f i))))))], (.rt, ⟨[.und, .und, (.str []), (iV 2), (.str (sapp (sapp o [32]) (nameF (f i)))), .und, .und, .und, .und, .und, .und, .und, .und, .und, .und, .und, .und, .und, .und, .und, .und, .und, .und, .und, .und, .und, .und, .und, .und, .und, .und, .und, .und, .und, .und, .und], []⟩)) := by kernel_rfl
theorem rc64pg (L : Nat → (St → T (Ex × St)) → St → T (Ex × St)) (n : Nat) (f : Nat → E6) (o : List UInt8) (i : Nat)  (j : Nat → V) (h0 : ilt (Int.ofNat i) (Int.ofNat n) = true) (h2 : ilt 0 (Int.ofNat i) = true) (h14 : strOK o [32] = true) (h1 : band (ile 0 (Int.ofNat i)) (ilt (Int.ofNat i) (Int.ofNat n)) = true) (h15 : strOK (sapp o [32]) (nameF (f i)) = true) (h3 : ilt 262144 (Int.ofNat (slen (sapp (sapp o [32]) (nameF (f i))))) = true) : ((body64 L (st64 n f o i j)).bind fun r => T.leaf (cutR (lp64 n f) r)).sem = some (.rt, ⟨[.und, .und, (.str []), (iV 2), (.str (sapp (sapp o [32]) (nameF (f i)))), .und, .und, .und, .und, .und, .und, .und, .und, .und, .und, .und, .und, .und, .und, .und, .und, .und, .und, .und, .und, .und, .und, .und, .und, .und, .und, .und, .und, .und, .und, .und], []⟩) := by
  exact sem_of_path (rc64pg_p L n f o i j) (by simp only [h1] <;> simp only [h0, h2, h14, h15, h3] <;> rfl)
def jk64 (n : Nat) (f : Nat → E6)  : Nat → V
  | 8 => (.sl 6 n (fun i => (eV (f i))))
  | 9 => (bV (mayN n f))
  | 10 => (bV (bnot (mayN n f)))
  | _ => undefV

theorem wc64f_p (L : Nat → (St → T (Ex × St)) → St → T (Ex × St)) (n : Nat) (f : Nat → E6) : (finF (evalF tab ⟨callT tb64, L, Gl⟩ Tryd.f64 [edgesV n f] [])).path [true, true, true] = some ([(allN n (fun _ => Bool.true)), (smallN n), (bnot (mayN n f))], ((.tup [(.str []), (iV 30)]), [])) := by kernel_rfl
theorem wc64f (L : Nat → (St → T (Ex × St)) → St → T (Ex × St)) (n : Nat) (f : Nat → E6) (h0 : smallN n = true) (h1 : mayN n f = false) : (finF (evalF tab ⟨callT tb64, L, Gl⟩ Tryd.f64 [edgesV n f] [])).sem = some ((.tup [(.str []), (iV 30)]), []) := by
  exact sem_of_path (wc64f_p L n f) (by simp only [h0, h1, allN_true] <;> rfl)

theorem wc64g_p (L : Nat → (St → T (Ex × St)) → St → T (Ex × St)) (p0 : (St → T (Ex × St)) → St → Bool) (n : Nat) (f : Nat → E6) (o : List UInt8) (i : Nat) : (finF (evalF tab ⟨callT tb64, (onP 0 p0 (en64g n f o i) L), Gl⟩ Tryd.f64 [edgesV n f] [])).path [true, true, false, true] = some ([(allN n (fun _ => Bool.true)), (smallN n), (bnot (mayN n f)), (p0 (body64 (onP 0 p0 (en64g n f o i) L)) (st64 n f [] 0 (jk64 n f )))], ((.tup [(.str []), (iV 2)]), [])) := by kernel_rfl
theorem wc64g (L : Nat → (St → T (Ex × St)) → St → T (Ex × St)) (p0 : (St → T (Ex × St)) → St → Bool) (n : Nat) (f : Nat → E6) (o : List UInt8) (i : Nat) (h0 : smallN n = true) (h1 : mayN n f = true) (hp0 : p0 (body64 (onP 0 p0 (en64g n f o i) L)) (st64 n f [] 0 (jk64 n f )) = true) : (finF (evalF tab ⟨callT tb64, (onP 0 p0 (en64g n f o i) L), Gl⟩ Tryd.f64 [edgesV n f] [])).sem = some ((.tup [(.str []), (iV 2)]), []) := by
  exact sem_of_path (wc64g_p L p0 n f o i) (by simp only [hp0] <;> simp only [h0, h1, allN_true] <;> rfl)

theorem wc64z_p (L : Nat → (St → T (Ex × St)) → St → T (Ex × St)) (p0 : (St → T (Ex × St)) → St → Bool) (n : Nat) (f : Nat → E6) (o : List UInt8) (i : Nat) : (finF (evalF tab ⟨callT tb64, (onP 0 p0 (en64e n f o i) L), Gl⟩ Tryd.f64 [edgesV n f] [])).path [true, true, false, true] = some ([(allN n (fun _ => Bool.true)), (smallN n), (bnot (mayN n f)), (p0 (body64 (onP 0 p0 (en64e n f o i) L)) (st64 n f [] 0 (jk64 n f )))], ((.tup [(.str o), (iV 0)]), [])) := by kernel_rfl
theorem wc64z (L : Nat → (St → T (Ex × St)) → St → T (Ex × St)) (p0 : (St → T (Ex × St)) → St → Bool) (n : Nat) (f : Nat → E6) (o : List UInt8) (i : Nat) (h0 : smallN n = true) (h1 : mayN n f = true) (hp0 : p0 (body64 (onP 0 p0 (en64e n f o i) L)) (st64 n f [] 0 (jk64 n f )) = true) : (finF (evalF tab ⟨callT tb64, (onP 0 p0 (en64e n f o i) L), Gl⟩ Tryd.f64 [edgesV n f] [])).sem = some ((.tup [(.str o), (iV 0)]), []) := by
  exact sem_of_path (wc64z_p L p0 n f o i) (by simp only [hp0] <;> simp only [h0, h1, allN_true] <;> rfl)

theorem run64 (L : Nat → (St → T (Ex × St)) → St → T (Ex × St)) (n : Nat) (f : Nat → E6) (h8 : n * 40 ≤ 140737488355328) : ∀ (d i : Nat) (j : Nat → V) (q : Nat), n = i + d → d < q →
    (iterT (body64 L) (lp64 n f) q (st64 n f (preL f i) i j)).sem = some (match firstQ (tooL f) d i with
      | none => en64e n f (preL f n) n
      | some t => en64g n f (preL f (t + 1)) t)
  | 0, i, j, q + 1, h, _ => by
    have : n = i := by omega
    subst this
    exact iter_round (rc64e L n f (preL f n) n j (ofNat_ge (Nat.le_refl _)))
  | d + 1, i, j, q + 1, h, h2 => by
    have hl : i < n := by omega
    have g1 := preL_le f i
    have g2 := name_len (f i)
    by_cases hi : 0 < i
    · have hz : ilt 0 (Int.ofNat i) = true := by rw [show (0 : Int) = Int.ofNat 0 from rfl, ilt_nat, decide_eq_true hi]
      have k1 : strOK (preL f i) [32] = true := decide_eq_true (by simp only [List.length_cons, List.length_nil]; omega)
      have k2 : strOK (sapp (preL f i) [32]) (nameF (f i)) = true := decide_eq_true (by simp only [sapp, List.length_append, List.length_cons, List.length_nil]; omega)
      have pl := preL_p (f := f) hi
      cases c1 : ilt 262144 (Int.ofNat (slen (sapp (sapp (preL f i) [32]) (nameF (f i))))) with
        | true =>
          rw [firstQ_t (show tooL f i = true by rw [tooL, pl]; exact c1)]
          show _ = some (en64g n f (preL f (i + 1)) i)
          rw [show en64g n f (preL f (i + 1)) i = en64g n f (sapp (sapp (preL f i) [32]) (nameF (f i))) i by rw [pl]]
          exact iter_round (rc64pg L n f (preL f i) i j (ofNat_lt hl) hz k1 (ofNat_in hl) k2 c1)
        | false =>
          rw [firstQ_f (show tooL f i = false by rw [tooL, pl]; exact c1), iter_round (rc64pn L n f (preL f i) i j (ofNat_lt hl) hz k1 (ofNat_in hl) k2 c1), goOn_nm, succ_wr hl (by omega), ← pl]
          exact run64 L n f h8 d (i + 1) (fun _ => .und) q (by omega) (by omega)
    · have hz : ilt 0 (Int.ofNat i) = false := by rw [show (0 : Int) = Int.ofNat 0 from rfl, ilt_nat, decide_eq_false hi]
      have k3 : strOK (preL f i) (nameF (f i)) = true := decide_eq_true (by omega)
      have pl := preL_z (f := f) hi
      cases c1 : ilt 262144 (Int.ofNat (slen (sapp (preL f i) (nameF (f i))))) with
        | true =>
          rw [firstQ_t (show tooL f i = true by rw [tooL, pl]; exact c1)]
          show _ = some (en64g n f (preL f (i + 1)) i)
          rw [show en64g n f (preL f (i + 1)) i = en64g n f (sapp (preL f i) (nameF (f i))) i by rw [pl]]
          exact iter_round (rc64zg L n f (preL f i) i j (ofNat_lt hl) hz (ofNat_in hl) k3 c1)
        | false =>
          rw [firstQ_f (show tooL f i = false by rw [tooL, pl]; exact c1), iter_round (rc64zn L n f (preL f i) i j (ofNat_lt hl) hz (ofNat_in hl) k3 c1), goOn_nm, succ_wr hl (by omega), ← pl]
          exact run64 L n f h8 d (i + 1) (fun _ => .und) q (by omega) (by omega)

theorem p64 : PureC Tryd.prog Gl 64 printT := by
  refine pureC_intro tabOK mixed Tryd.func64 (by kernel_rfl) (by kernel_rfl) fun vs v h' h => ?_
  obtain ⟨n, f, ha, h1⟩ := apL1_some h
  obtain ⟨hF, hq⟩ := sem_br_fail h1
  have := sem_leaf hq
  simp only [Prod.mk.injEq] at this
  obtain ⟨rfl, rfl⟩ := this
  have h8 : n * 40 ≤ 140737488355328 := of_decide_eq_true hF
  have hs : smallN n = true := fit8_s (fitN_8 hF)
  have hx := cx_ok tb64_ok [(0, lp64 n f)]
  have hL := loopsBy_le [(0, lp64 n f)]
  refine ⟨_, cxOf Gl tb64 [(0, lp64 n f)], _, ha, rfl, hx.1, hx.2, ?_, RowsLE.refl _⟩
  unfold printS printE
  cases hm : mayN n f with
  | false => exact wc64f _ n f hs hm
  | true =>
    have h0 := fun L j => run64 L n f h8 n 0 j (n + 1) (by omega) (by omega)
    have ht : ∀ i, tooL f i = decide (262144 < (preL f (i + 1)).length) := fun i => by
      unfold tooL
      rw [show (262144 : Int) = Int.ofNat 262144 from rfl, ilt_nat]
      rfl
    cases hq : firstQ (tooL f) n 0 with
    | some k =>
      rw [hq] at h0
      obtain ⟨_, hk, hk2⟩ := firstQ_some hq
      have hb : bigL n f = true := by
        rw [ht] at hk2
        have := of_decide_eq_true hk2
        have := preL_mono f (show k + 1 ≤ n by omega)
        exact decide_eq_true (by omega)
      rw [hb]
      exact told_le (onP_le hL hL) _ (wc64g _ _ n f (preL f (k + 1)) k hs hm (isP_true (h0 _ _)))
    | none =>
      rw [hq] at h0
      have hb : bigL n f = false := by
        cases n with
        | zero => rfl
        | succ m =>
          have := firstQ_no hq m (Nat.zero_le m) (by omega)
          rw [ht] at this
          exact this
      rw [hb]
      exact told_le (onP_le hL hL) _ (wc64z _ _ n f (preL f n) n hs hm (isP_true (h0 _ _)))

/-! ### The law -/

noncomputable def tb15 : List (Nat × (List V → T (V × List Blk))) := [(47, lentT), (63, printT), (64, printT), (50, keptT), (46, unitT (bV true))]
theorem tb15_ok : AllPure Tryd.prog Gl tb15 := .cons p47 <| .cons p63 <| .cons p64 <| .cons p50 <| .cons p46 .nil

theorem mayN_congr {n : Nat} {f g : Nat → E6} (h : ∀ i, i < n → g i = f i) : mayN n g = mayN n f := by
  rw [Bool.eq_iff_iff, mayN_iff, mayN_iff]
  exact ⟨fun h1 i hi => by rw [← h i hi]; exact h1 i hi, fun h1 i hi => by rw [h i hi]; exact h1 i hi⟩

theorem preL_congr {f g : Nat → E6} : ∀ n, (∀ i, i < n → g i = f i) → preL g n = preL f n
  | 0, _ => rfl
  | n + 1, h => by rw [preL, preL, preL_congr n fun i hi => h i (by omega), h n (Nat.lt_succ_self n)]
theorem wc15_p (L : Nat → (St → T (Ex × St)) → St → T (Ex × St)) (n : Nat) (f : Nat → E6) : (finF (evalF tab ⟨callT tb15, L, Gl⟩ Tryd.f15 [edgesV n f] [])).path [true, true, true, true, true, true, true, true, true, true, true, true, true, true, true, true, true, true, true, true] = some ([(allN n (fun _ => Bool.true)), (fitN (nadd n 60)), (allN n (fun _ => Bool.true)), (fitN n), (allN n (fun _ => Bool.true)), (fitN n), (seq (printS n (fun i => (lentE n f i))) (printS n f)), (seq (printS n (fun i => (lentE n f i))) (printS n f)), (seq (printS n (fun i => (lentE n f i))) (printS n f)), (seq (printS n (fun i => (lentE n f i))) (printS n f)), (ieq (printE n (fun i => (lentE n f i))) (printE n f)), (ieq (printE n (fun i => (lentE n f i))) (printE n f)), (ieq (printE n (fun i => (lentE n f i))) (printE n f)), (allN (nadd n 40) (fun _ => Bool.true)), (allN n (fun _ => Bool.true)), (fitN (nadd n 60)), (keptB n (nadd n 40) (fun i => (lentE n f i)) n f), (ieq (printE n (fun i => (lentE n f i))) (printE n f)), Bool.true, Bool.true], ((bV Bool.true), [])) := by kernel_rfl
theorem wc15 (L : Nat → (St → T (Ex × St)) → St → T (Ex × St)) (n : Nat) (f : Nat → E6) (h0 : fitN (nadd n 60) = true) (h1 : fitN n = true) (h2 : seq (printS n (fun i => (lentE n f i))) (printS n f) = true) (h3 : ieq (printE n (fun i => (lentE n f i))) (printE n f) = true) (h4 : keptB n (nadd n 40) (fun i => (lentE n f i)) n f = true) : (finF (evalF tab ⟨callT tb15, L, Gl⟩ Tryd.f15 [edgesV n f] [])).sem = some ((bV Bool.true), []) := by
  exact sem_of_path (wc15_p L n f) (by simp only [h0, h1, h2, h3, h4, allN_true] <;> rfl)

def law15T : List V → T (V × List Blk) := apL1 fun n _ => .br (fitN (nadd n 60)) (out (bV true)) .fail

theorem p15 : PureC Tryd.prog Gl 15 law15T := by
  refine pureC_intro tabOK mixed Tryd.func15 (by kernel_rfl) (by kernel_rfl) fun vs v h' h => ?_
  obtain ⟨n, f, ha, h1⟩ := apL1_some h
  obtain ⟨hn, hq⟩ := sem_br_fail h1
  have := sem_leaf hq
  simp only [Prod.mk.injEq] at this
  obtain ⟨rfl, rfl⟩ := this
  have hx := cx_ok tb15_ok []
  have e1 := mayN_congr (n := n) (f := f) (g := fun i => lentE n f i) fun i hi => lentE_lt hi
  have e2 := preL_congr (f := f) (g := fun i => lentE n f i) n fun i hi => lentE_lt hi
  have e3 : bigL n (fun i => lentE n f i) = bigL n f := by unfold bigL; rw [e2]
  have s1 : seq (printS n (fun i => lentE n f i)) (printS n f) = true := by unfold printS; rw [e1, e2, e3]; simp [seq]
  have s2 : ieq (printE n (fun i => lentE n f i)) (printE n f) = true := by unfold printE; rw [e1, e3]; exact ieq_rfl _
  exact ⟨_, cxOf Gl tb15 [], _, ha, rfl, hx.1, hx.2, wc15 _ n f hn (fit60 hn) s1 s2 (kept_lent n f), RowsLE.refl _⟩

theorem law15_sem {n : Nat} (f : Nat → E6) (hn : n * 40 ≤ 140737488351232) : (law15T [edgesV n f]).sem = some (bV true, []) := by
  show (apL (edgesV n f) fun n _ => T.br (fitN (nadd n 60)) (out (bV true)) .fail).sem = _
  rw [apLsem]
  have hn : fitN (nadd n 60) = true := decide_eq_true (by show (n + 60) * 40 ≤ _; omega)
  simp only [hn]
  rfl

#print axioms p15

end Go.Proofs.YtcaljjnadbpacaaDoor.Ed
