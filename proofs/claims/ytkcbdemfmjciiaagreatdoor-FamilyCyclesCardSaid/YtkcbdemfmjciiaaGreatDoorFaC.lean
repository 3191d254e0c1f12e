/-
  A cycle's name, the program's and the document's. Conditions: the listed variables read as listed.
-/
import Derived.Test.YtkcbdemfmjciiaaGreatDoorFaB
import Derived.Test.YtkcbdemfmjciiaaGreatDoorCyU
namespace Go.Proofs.YtkcbdemfmjciiaaGreatDoor.Fa
open Go.Sy Go Go.Proofs.YtkcbdemfmjciiaaGreatDoor.Ed


/-! ### A cycle's name -/

theorem names_lenF : (List.range 112).all (fun k => Nat.ble (nameS k).length 32) = true := by kernel_rfl
theorem name_lenF (e : E6) : (nameF e).length ≤ 32 := by
  rcases codeF_cases e with ⟨k, hk, _, _, _, h⟩ | ⟨_, _, h, _⟩
  · rw [h]
    exact Nat.le_of_ble_eq_true (List.all_eq_true.1 names_lenF k (List.mem_range.2 hk))
  · rw [h]; exact Nat.zero_le _

theorem pickS_len {c : Nat} : ∀ (l : List (List UInt8)), (l.all fun v => Nat.ble v.length c) = true → ∀ i, (pickS l i).length ≤ c
  | [], _, _ => Nat.zero_le _
  | [v], h, i => by
    show v.length ≤ c
    simpa using h
  | v :: u :: l, h, i => by
    simp only [List.all_cons, Bool.and_eq_true] at h
    show (sel (nbeq i 0) v (pickS (u :: l) (nsub i 1))).length ≤ c
    cases nbeq i 0 with
    | true => exact Nat.le_of_ble_eq_true h.1
    | false => exact pickS_len (u :: l) (by simp only [List.all_cons, Bool.and_eq_true]; exact h.2) _
theorem famS_len (i : Nat) : (famS i).length ≤ 20 := pickS_len _ (by kernel_rfl) i

def headT (n : Nat) (f : Nat → E6) : List UInt8 := match ieq (famE n f) 0 with
  | true => famT n f
  | false => [67]
def nmX (n : Nat) (f : Nat → E6) : Nat → List UInt8
  | 0 => headT n f
  | i + 1 => nmX n f i ++ ([43] ++ nameF (canF n f i))
def nmT (n : Nat) (f : Nat → E6) : List UInt8 := nmX n f n
def nameT (a : Int) (n : Nat) (f : Nat → E6) : List UInt8 := match ieq (chkE a n f) 0 with
  | true => nmT n f
  | false => []
def nameE (a : Int) (n : Nat) (f : Nat → E6) : Int := chkE a n f

theorem headT_len (n : Nat) (f : Nat → E6) : (headT n f).length ≤ 20 := by
  unfold headT famT
  split
  · split
    · split
      · exact famS_len _
      · exact Nat.zero_le _
    · exact Nat.zero_le _
  · show 1 ≤ 20; omega
theorem nmX_len (n : Nat) (f : Nat → E6) : ∀ i, (nmX n f i).length ≤ 20 + 33 * i
  | 0 => headT_len n f
  | i + 1 => by
    have h1 := nmX_len n f i
    have h2 := name_lenF (canF n f i)
    simp only [nmX, List.length_append, List.length_cons, List.length_nil]
    omega

noncomputable def tb11f : List (Nat × (List V → T (V × List Blk))) := (20, chkT) :: (21, famOfT) :: (22, canonT) :: (23, edgeT nameP) :: []
theorem tb11f_ok : AllPure Tryz.prog Gl tb11f := .cons p48 <| .cons q9 <| .cons p65 <| .cons p26 .nil
noncomputable def tb40f : List (Nat × (List V → T (V × List Blk))) := (37, refCanT) :: (38, famOfT) :: (29, edgeT nameP) :: []
theorem tb40f_ok : AllPure Tryz.prog Gl tb40f := .cons p66 <| .cons q10 <| .cons p27 .nil

theorem wf11n (L : Nat → (St → T (Ex × St)) → St → T (Ex × St)) (a : Int) (n : Nat) (f : Nat → E6) (h17 : fitN n = true) (h0 : ieq (chkE a n f) 0 = false) : (finF (evalF tab ⟨callT tb11f, L, Gl⟩ Tryz.f12 [iV a, edgesV n f] [])).sem = some ((.tup [(.str []), (iV (chkE a n f))]), []) := by
  exact sem_of_path (ds := [true, true, true]) (cs := [(allN n (fun _ => Bool.true)), (fitN n), (bnot (ieq (chkE a n f) 0))]) (by kernel_rfl) (by simp only [h17, h0, allN_true] <;> rfl)

def lp11 (a : Int) (n : Nat) (f : Nat → E6) : Lp := ⟨[false, false, false, false, true, true, false, false, true, false, false, false, false, false, false, false, false, false, false, false, false, false, false, false, false, false, false, false, false, false, false, false, false, false, false, false, false, true, true, true, false, false, false, false, false, false, false, false, false, false, false, false, false, false], 1, [false, false, false, false, true, true, false, false, true, false, false, false, false, false, false, false, false, false, false, false, false, false, false, false, false, false, false, false, false, false, false, false, false, false, false, false, false, false, false, false, false, false, false, false, false, false, false, false, false, false, false, false, false, false], 0, n + 1⟩
def st11 (a : Int) (n : Nat) (f : Nat → E6) (s : List UInt8) (b : Nat) (j : Nat → V) : St := ⟨[j 0, j 1, j 2, j 3, .str [], iV 0, j 6, j 7, .str s, j 9, j 10, j 11, j 12, j 13, j 14, j 15, j 16, j 17, j 18, j 19, j 20, j 21, j 22, j 23, j 24, j 25, j 26, j 27, j 28, j 29, j 30, j 31, j 32, j 33, j 34, j 35, j 36, .ref 0, iV (Int.ofNat n), iV (Int.ofNat b), j 40, j 41, j 42, j 43, j 44, j 45, j 46, j 47, j 48, j 49, j 50, j 51, j 52, j 53], [.row 38 6 n (fun i => (eV (canF n f i)))]⟩
def en11e (a : Int) (n : Nat) (f : Nat → E6) (s : List UInt8) (b : Nat) : Ex × St := (.ex 0, ⟨[.und, .und, .und, .und, .str [], iV 0, .und, .und, .str s, .und, .und, .und, .und, .und, .und, .und, .und, .und, .und, .und, .und, .und, .und, .und, .und, .und, .und, .und, .und, .und, .und, .und, .und, .und, .und, .und, .und, .und, .und, .und, .und, .und, .und, .und, .und, .und, .und, .und, .und, .und, .und, .und, .und, .und], []⟩)
noncomputable def body11 (L : Nat → (St → T (Ex × St)) → St → T (Ex × St)) : St → T (Ex × St) := fun st => evalC tab ⟨callT tb11f, L, Gl⟩ (loopBody Tryz.f12 0) 0 st
theorem rf11e (L : Nat → (St → T (Ex × St)) → St → T (Ex × St)) (a : Int) (n : Nat) (f : Nat → E6) (s : List UInt8) (b : Nat)  (j : Nat → V) (h0 : ilt (Int.ofNat b) (Int.ofNat n) = false) : ((body11 L (st11 a n f s b j)).bind fun r => T.leaf (cutR (lp11 a n f) r)).sem = some ((.ex 0), ⟨[.und, .und, .und, .und, (.str []), (iV 0), .und, .und, (.str s), .und, .und, .und, .und, .und, .und, .und, .und, .und, .und, .und, .und, .und, .und, .und, .und, .und, .und, .und, .und, .und, .und, .und, .und, .und, .und, .und, .und, .und, .und, .und, .und, .und, .und, .und, .und, .und, .und, .und, .und, .und, .und, .und, .und, .und], []⟩) := by
  exact sem_of_path (ds := [false]) (cs := [(ilt (Int.ofNat b) (Int.ofNat n))]) (by kernel_rfl) (by simp only [h0] <;> rfl)
theorem rf11n (L : Nat → (St → T (Ex × St)) → St → T (Ex × St)) (a : Int) (n : Nat) (f : Nat → E6) (s : List UInt8) (b : Nat)  (j : Nat → V) (h0 : ilt (Int.ofNat b) (Int.ofNat n) = true) (h17 : ile 0 (Int.ofNat b) = true) (h18 : nlt b n = true) (h19 : strOK [43] (nameF (canF n f b)) = true) (h20 : strOK s (sapp [43] (nameF (canF n f b))) = true) : ((body11 L (st11 a n f s b j)).bind fun r => T.leaf (cutR (lp11 a n f) r)).sem = some (.nm, ⟨[.und, .und, .und, .und, (.str []), (iV 0), .und, .und, (.str (sapp s (sapp [43] (nameF (canF n f b))))), .und, .und, .und, .und, .und, .und, .und, .und, .und, .und, .und, .und, .und, .und, .und, .und, .und, .und, .und, .und, .und, .und, .und, .und, .und, .und, .und, .und, (.ref 0), (iV (Int.ofNat n)), (iV (wr IntKind.i64 (iadd (Int.ofNat b) 1))), .und, .und, .und, .und, .und, .und, .und, .und, .und, .und, .und, .und, .und, .und], [(.row 38 6 n (fun i => (eV (canF n f i))))]⟩) := by
  exact sem_of_path (ds := [true, true, true, true, true]) (cs := [(ilt (Int.ofNat b) (Int.ofNat n)), (band (ile 0 (Int.ofNat b)) (ilt (Int.ofNat b) (Int.ofNat n))), (nlt b n), (strOK [43] (nameF (canF n f b))), (strOK s (sapp [43] (nameF (canF n f b))))]) (by kernel_rfl) (by simp only [h0, h17, h18, h19, h20] <;> rfl)

def ent11f (a : Int) (n : Nat) (f : Nat → E6)  : St := ⟨[(iV a), (.sl 6 n (fun i => (eV (f i)))), undefV, undefV, (.str []), (iV 0), (iV (chkE a n f)), (iV (chkI a n f)), (.str (famT n f)), (iV (famE n f)), (.ref 0), (iV 0), undefV, undefV, undefV, undefV, (.tup [(iV (chkE a n f)), (iV (chkI a n f))]), (iV a), (.sl 6 n (fun i => (eV (f i)))), (.tup [(iV (chkE a n f)), (iV (chkI a n f))]), (iV (chkE a n f)), (iV (chkI a n f)), (iV (chkE a n f)), (bV (bnot (ieq (chkE a n f) 0))), undefV, (.tup [(.str (famT n f)), (iV (famE n f))]), (.sl 6 n (fun i => (eV (f i)))), (.tup [(.str (famT n f)), (iV (famE n f))]), (.str (famT n f)), (iV (famE n f)), (iV (famE n f)), (bV (bnot (ieq (famE n f) 0))), (.tup [(.ref 0), (iV 0)]), (.sl 6 n (fun i => (eV (f i)))), (.tup [(.ref 0), (iV 0)]), (.ref 0), (iV 0), (.ref 0), (iV (Int.ofNat n)), (iV 0), undefV, undefV, undefV, undefV, undefV, undefV, undefV, undefV, undefV, undefV, undefV, undefV, undefV, undefV], [(.row 38 6 n (fun i => (eV (canF n f i))))]⟩

theorem wf11f (L : Nat → (St → T (Ex × St)) → St → T (Ex × St)) (p0 : (St → T (Ex × St)) → St → Bool) (a : Int) (n : Nat) (f : Nat → E6) (s : List UInt8) (b : Nat) (h19 : fitN n = true) (h0 : ieq (chkE a n f) 0 = true) (h2 : ieq (famE n f) 0 = true) (h1 : mayN n f = true) (hp0 : p0 (body11 (onP 0 p0 (en11e a n f s b) L)) (ent11f a n f) = true) : (finF (evalF tab ⟨callT tb11f, (onP 0 p0 (en11e a n f s b) L), Gl⟩ Tryz.f12 [iV a, edgesV n f] [])).sem = some ((.tup [(.str s), (iV 0)]), []) := by
  exact sem_of_path (ds := [true, true, false, true, true, false, true, true, true, true]) (cs := [(allN n (fun _ => Bool.true)), (fitN n), (bnot (ieq (chkE a n f) 0)), (allN n (fun _ => Bool.true)), (fitN n), (bnot (ieq (famE n f) 0)), (allN n (fun _ => Bool.true)), (fitN n), (mayN n f), (p0 (body11 (onP 0 p0 (en11e a n f s b) L)) (ent11f a n f))]) (by kernel_rfl) (by simp only [hp0] <;> simp only [h19, h0, h2, h1, allN_true] <;> rfl)

def ent11c (a : Int) (n : Nat) (f : Nat → E6)  : St := ⟨[(iV a), (.sl 6 n (fun i => (eV (f i)))), undefV, undefV, (.str []), (iV 0), (iV (chkE a n f)), (iV (chkI a n f)), (.str [67]), (iV (famE n f)), (.ref 0), (iV 0), undefV, undefV, undefV, undefV, (.tup [(iV (chkE a n f)), (iV (chkI a n f))]), (iV a), (.sl 6 n (fun i => (eV (f i)))), (.tup [(iV (chkE a n f)), (iV (chkI a n f))]), (iV (chkE a n f)), (iV (chkI a n f)), (iV (chkE a n f)), (bV (bnot (ieq (chkE a n f) 0))), undefV, (.tup [(.str (famT n f)), (iV (famE n f))]), (.sl 6 n (fun i => (eV (f i)))), (.tup [(.str (famT n f)), (iV (famE n f))]), (.str (famT n f)), (iV (famE n f)), (iV (famE n f)), (bV (bnot (ieq (famE n f) 0))), (.tup [(.ref 0), (iV 0)]), (.sl 6 n (fun i => (eV (f i)))), (.tup [(.ref 0), (iV 0)]), (.ref 0), (iV 0), (.ref 0), (iV (Int.ofNat n)), (iV 0), undefV, undefV, undefV, undefV, undefV, undefV, undefV, undefV, undefV, undefV, undefV, undefV, undefV, undefV], [(.row 38 6 n (fun i => (eV (canF n f i))))]⟩

theorem wf11c (L : Nat → (St → T (Ex × St)) → St → T (Ex × St)) (p0 : (St → T (Ex × St)) → St → Bool) (a : Int) (n : Nat) (f : Nat → E6) (s : List UInt8) (b : Nat) (h19 : fitN n = true) (h0 : ieq (chkE a n f) 0 = true) (h2 : ieq (famE n f) 0 = false) (h1 : mayN n f = true) (hp0 : p0 (body11 (onP 0 p0 (en11e a n f s b) L)) (ent11c a n f) = true) : (finF (evalF tab ⟨callT tb11f, (onP 0 p0 (en11e a n f s b) L), Gl⟩ Tryz.f12 [iV a, edgesV n f] [])).sem = some ((.tup [(.str s), (iV 0)]), []) := by
  exact sem_of_path (ds := [true, true, false, true, true, true, true, true, true, true]) (cs := [(allN n (fun _ => Bool.true)), (fitN n), (bnot (ieq (chkE a n f) 0)), (allN n (fun _ => Bool.true)), (fitN n), (bnot (ieq (famE n f) 0)), (allN n (fun _ => Bool.true)), (fitN n), (mayN n f), (p0 (body11 (onP 0 p0 (en11e a n f s b) L)) (ent11c a n f))]) (by kernel_rfl) (by simp only [hp0] <;> simp only [h19, h0, h2, h1, allN_true] <;> rfl)

theorem run11 (L : Nat → (St → T (Ex × St)) → St → T (Ex × St)) (a : Int) (n : Nat) (f : Nat → E6) (hn : fitN n = true) : ∀ (d i : Nat) (j : Nat → V) (q : Nat), n = i + d → d < q →
    (iterT (body11 L) (lp11 a n f) q (st11 a n f (nmX n f i) i j)).sem = some (en11e a n f (nmX n f n) n)
  | 0, i, j, q + 1, h, _ => by
    have : n = i := by omega
    subst this
    exact iter_round (rf11e L a n f (nmX n f n) n j (ofNat_ge (Nat.le_refl _)))
  | d + 1, i, j, q + 1, h, h2 => by
    have hi : i < n := by omega
    have h8 : n * 40 ≤ 140737488355328 := of_decide_eq_true hn
    have l1 := nmX_len n f i
    have l2 := name_lenF (canF n f i)
    have c1 : strOK [43] (nameF (canF n f i)) = true := decide_eq_true (by simp only [List.length_cons, List.length_nil]; omega)
    have c2 : strOK (nmX n f i) (sapp [43] (nameF (canF n f i))) = true := decide_eq_true (by simp only [sapp, List.length_append, List.length_cons, List.length_nil]; omega)
    rw [iter_round (rf11n L a n f (nmX n f i) i j (ofNat_lt hi) (ile_f i) (decide_eq_true hi) c1 c2), goOn_nm, succ_wr hi (fit_small hn)]
    exact run11 L a n f hn d (i + 1) (fun _ => .und) q (by omega) (by omega)

theorem ent11f_eq (a : Int) (n : Nat) (f : Nat → E6) : ent11f a n f = st11 a n f (famT n f) 0 (fun i => nth (ent11f a n f).t i) := by kernel_rfl
theorem ent11c_eq (a : Int) (n : Nat) (f : Nat → E6) : ent11c a n f = st11 a n f [67] 0 (fun i => nth (ent11c a n f).t i) := by kernel_rfl

def nameTT : List V → T (V × List Blk)
  | [.val (.int .i64 a), v] => apL v fun n f => .br (fitN n) (out (.tup [.str (nameT a n f), iV (nameE a n f)])) .fail
  | _ => .fail

theorem argF {a : Int} {v u : V} (h : ∀ (S : Nat → Prop) (w : World) (c : Value), VR S w v noK c → VR S w u noK c) : ArgLE [.val (.int .i64 a), v] [iV a, u] := fun S w cs hv => by
  obtain ⟨c, l, rfl, q1, c2, l2, rfl, q2, q3⟩ := hv
  exact ⟨c, _, rfl, q1, c2, _, rfl, h S w c2 q2, q3⟩

theorem q11 : PureC Tryz.prog Gl 12 nameTT := by
  refine pureC_intro tabOK mixed Tryz.func12 (by kernel_rfl) (by kernel_rfl) fun vs v h' h => ?_
  unfold nameTT at h
  split at h
  · rename_i a u
    obtain ⟨n, f, ha, h1⟩ := apL_some h
    obtain ⟨hn, hq⟩ := sem_br_fail h1
    have := sem_leaf hq
    simp only [Prod.mk.injEq] at this
    obtain ⟨rfl, rfl⟩ := this
    have hx := cx_ok tb11f_ok [(0, lp11 a n f)]
    have hL := loopsBy_le [(0, lp11 a n f)]
    refine ⟨_, cxOf Gl tb11f [(0, lp11 a n f)], _, argF ha, rfl, hx.1, hx.2, ?_, RowsLE.refl _⟩
    unfold nameT nameE
    cases hc : ieq (chkE a n f) 0 with
    | false => exact wf11n _ a n f hn hc
    | true =>
      have hm : mayN n f = true := (isCycle_of hc).may
      show _ = some (V.tup [.str (nmT n f), iV (chkE a n f)], ([] : List Blk))
      rw [ieq_eq hc]
      cases hf : ieq (famE n f) 0 with
      | true =>
        have hh : famT n f = headT n f := by unfold headT; rw [hf]
        exact told_le (onP_le hL hL) _ (wf11f _ _ a n f (nmT n f) n hn hc hf hm (isP_true (by rw [ent11f_eq, hh]; exact run11 _ a n f hn n 0 _ (n + 1) (by omega) (by omega))))
      | false =>
        have hh : [67] = headT n f := by unfold headT; rw [hf]
        exact told_le (onP_le hL hL) _ (wf11c _ _ a n f (nmT n f) n hn hc hf hm (isP_true (by rw [ent11c_eq, hh]; exact run11 _ a n f hn n 0 _ (n + 1) (by omega) (by omega))))
  · cases h

def lp40 (n : Nat) (f : Nat → E6) : Lp := ⟨[false, false, true, true, false, true, false, true, false, false, false, false, false, false, false, false, false, false, false, false, false, false, false, false, false, false, false, false, false, false, false, false, false, false, false, false, false, false, false, false, false], 1, [false, false, true, false, false, true, false, false, false, false, false, false, false, false, false, false, false, false, false, false, false, false, false, false, false, false, false, false, false, false, false, false, false, false, false, false, false, false, false, false, false], 0, n + 1⟩
def st40 (n : Nat) (f : Nat → E6) (s : List UInt8) (b : Nat) (j : Nat → V) : St := ⟨[j 0, j 1, .str [], .ref 0, j 4, .str s, j 6, iV (Int.ofNat b), j 8, j 9, j 10, j 11, j 12, j 13, j 14, j 15, j 16, j 17, j 18, j 19, j 20, j 21, j 22, j 23, j 24, j 25, j 26, j 27, j 28, j 29, j 30, j 31, j 32, j 33, j 34, j 35, j 36, j 37, j 38, j 39, j 40], [.row 38 6 n (fun i => (eV (turnE n f (Int.ofNat (refL n (fun k => (codeN (f k))))) i)))]⟩
def en40e (n : Nat) (f : Nat → E6) (s : List UInt8) (b : Nat) : Ex × St := (.ex 0, ⟨[.und, .und, .str [], .und, .und, .str s, .und, .und, .und, .und, .und, .und, .und, .und, .und, .und, .und, .und, .und, .und, .und, .und, .und, .und, .und, .und, .und, .und, .und, .und, .und, .und, .und, .und, .und, .und, .und, .und, .und, .und, .und], []⟩)
noncomputable def body40 (L : Nat → (St → T (Ex × St)) → St → T (Ex × St)) : St → T (Ex × St) := fun st => evalC tab ⟨callT tb40f, L, Gl⟩ (loopBody Tryz.f18 0) 0 st
theorem rf40e (L : Nat → (St → T (Ex × St)) → St → T (Ex × St)) (n : Nat) (f : Nat → E6) (s : List UInt8) (b : Nat)  (j : Nat → V) (h0 : ilt (Int.ofNat b) (Int.ofNat n) = false) : ((body40 L (st40 n f s b j)).bind fun r => T.leaf (cutR (lp40 n f) r)).sem = some ((.ex 0), ⟨[.und, .und, (.str []), .und, .und, (.str s), .und, .und, .und, .und, .und, .und, .und, .und, .und, .und, .und, .und, .und, .und, .und, .und, .und, .und, .und, .und, .und, .und, .und, .und, .und, .und, .und, .und, .und, .und, .und, .und, .und, .und, .und], []⟩) := by
  exact sem_of_path (ds := [false]) (cs := [(ilt (Int.ofNat b) (Int.ofNat n))]) (by kernel_rfl) (by simp only [h0] <;> rfl)
theorem rf40n (L : Nat → (St → T (Ex × St)) → St → T (Ex × St)) (n : Nat) (f : Nat → E6) (s : List UInt8) (b : Nat)  (j : Nat → V) (h0 : ilt (Int.ofNat b) (Int.ofNat n) = true) (h17 : ile 0 (Int.ofNat b) = true) (h18 : nlt b n = true) (h19 : strOK s [43] = true) (h20 : strOK (sapp s [43]) (nameF (turnE n f (Int.ofNat (refL n (fun k => (codeN (f k))))) b)) = true) : ((body40 L (st40 n f s b j)).bind fun r => T.leaf (cutR (lp40 n f) r)).sem = some (.nm, ⟨[.und, .und, (.str []), (.ref 0), .und, (.str (sapp (sapp s [43]) (nameF (turnE n f (Int.ofNat (refL n (fun k => (codeN (f k))))) b)))), .und, (iV (wr IntKind.i64 (iadd (Int.ofNat b) 1))), .und, .und, .und, .und, .und, .und, .und, .und, .und, .und, .und, .und, .und, .und, .und, .und, .und, .und, .und, .und, .und, .und, .und, .und, .und, .und, .und, .und, .und, .und, .und, .und, .und], [(.row 38 6 n (fun i => (eV (turnE n f (Int.ofNat (refL n (fun k => (codeN (f k))))) i))))]⟩) := by
  exact sem_of_path (ds := [true, true, true, true, true]) (cs := [(ilt (Int.ofNat b) (Int.ofNat n)), (band (ile 0 (Int.ofNat b)) (ilt (Int.ofNat b) (Int.ofNat n))), (nlt b n), (strOK s [43]), (strOK (sapp s [43]) (nameF (turnE n f (Int.ofNat (refL n (fun k => (codeN (f k))))) b)))]) (by kernel_rfl) (by simp only [h0, h17, h18, h19, h20] <;> rfl)

def ent40f (n : Nat) (f : Nat → E6)  : St := ⟨[(.sl 6 n (fun i => (eV (f i)))), undefV, (.str []), (.ref 0), (iV 0), (.str (famT n f)), (iV (famE n f)), (iV 0), undefV, undefV, (.tup [(.ref 0), (iV 0)]), (.sl 6 n (fun i => (eV (f i)))), (.tup [(.ref 0), (iV 0)]), (.ref 0), (iV 0), (.tup [(.str (famT n f)), (iV (famE n f))]), (.sl 6 n (fun i => (eV (f i)))), (.tup [(.str (famT n f)), (iV (famE n f))]), (.str (famT n f)), (iV (famE n f)), (iV (famE n f)), (bV (bnot (ieq (famE n f) 0))), undefV, undefV, undefV, undefV, undefV, undefV, undefV, undefV, undefV, undefV, undefV, undefV, undefV, undefV, undefV, undefV, undefV, undefV, undefV], [(.row 38 6 n (fun i => (eV (turnE n f (Int.ofNat (refL n (fun k => (codeN (f k))))) i))))]⟩

theorem wf40f (L : Nat → (St → T (Ex × St)) → St → T (Ex × St)) (p0 : (St → T (Ex × St)) → St → Bool) (n : Nat) (f : Nat → E6) (s : List UInt8) (b : Nat) (h18 : fitN n = true) (h0 : mayN n f = true) (h1 : ieq (famE n f) 0 = true) (hp0 : p0 (body40 (onP 0 p0 (en40e n f s b) L)) (ent40f n f) = true) : (finF (evalF tab ⟨callT tb40f, (onP 0 p0 (en40e n f s b) L), Gl⟩ Tryz.f18 [edgesV n f] [])).sem = some ((.str s), []) := by
  exact sem_of_path (ds := [true, true, true, true, true, false, true]) (cs := [(allN n (fun _ => Bool.true)), (fitN n), (mayN n f), (allN n (fun _ => Bool.true)), (fitN n), (bnot (ieq (famE n f) 0)), (p0 (body40 (onP 0 p0 (en40e n f s b) L)) (ent40f n f))]) (by kernel_rfl) (by simp only [hp0] <;> simp only [h18, h0, h1, allN_true] <;> rfl)

def ent40c (n : Nat) (f : Nat → E6)  : St := ⟨[(.sl 6 n (fun i => (eV (f i)))), undefV, (.str []), (.ref 0), (iV 0), (.str [67]), (iV (famE n f)), (iV 0), undefV, undefV, (.tup [(.ref 0), (iV 0)]), (.sl 6 n (fun i => (eV (f i)))), (.tup [(.ref 0), (iV 0)]), (.ref 0), (iV 0), (.tup [(.str (famT n f)), (iV (famE n f))]), (.sl 6 n (fun i => (eV (f i)))), (.tup [(.str (famT n f)), (iV (famE n f))]), (.str (famT n f)), (iV (famE n f)), (iV (famE n f)), (bV (bnot (ieq (famE n f) 0))), undefV, undefV, undefV, undefV, undefV, undefV, undefV, undefV, undefV, undefV, undefV, undefV, undefV, undefV, undefV, undefV, undefV, undefV, undefV], [(.row 38 6 n (fun i => (eV (turnE n f (Int.ofNat (refL n (fun k => (codeN (f k))))) i))))]⟩

theorem wf40c (L : Nat → (St → T (Ex × St)) → St → T (Ex × St)) (p0 : (St → T (Ex × St)) → St → Bool) (n : Nat) (f : Nat → E6) (s : List UInt8) (b : Nat) (h18 : fitN n = true) (h0 : mayN n f = true) (h1 : ieq (famE n f) 0 = false) (hp0 : p0 (body40 (onP 0 p0 (en40e n f s b) L)) (ent40c n f) = true) : (finF (evalF tab ⟨callT tb40f, (onP 0 p0 (en40e n f s b) L), Gl⟩ Tryz.f18 [edgesV n f] [])).sem = some ((.str s), []) := by
  exact sem_of_path (ds := [true, true, true, true, true, true, true]) (cs := [(allN n (fun _ => Bool.true)), (fitN n), (mayN n f), (allN n (fun _ => Bool.true)), (fitN n), (bnot (ieq (famE n f) 0)), (p0 (body40 (onP 0 p0 (en40e n f s b) L)) (ent40c n f))]) (by kernel_rfl) (by simp only [hp0] <;> simp only [h18, h0, h1, allN_true] <;> rfl)

theorem run40n (L : Nat → (St → T (Ex × St)) → St → T (Ex × St)) (n : Nat) (f : Nat → E6) (hn : fitN n = true) (hm : mayN n f = true) : ∀ (d i : Nat) (j : Nat → V) (q : Nat), n = i + d → d < q →
    (iterT (body40 L) (lp40 n f) q (st40 n f (nmX n f i) i j)).sem = some (en40e n f (nmX n f n) n)
  | 0, i, j, q + 1, h, _ => by
    have : n = i := by omega
    subst this
    exact iter_round (rf40e L n f (nmX n f n) n j (ofNat_ge (Nat.le_refl _)))
  | d + 1, i, j, q + 1, h, h2 => by
    have hi : i < n := by omega
    have h8 : n * 40 ≤ 140737488355328 := of_decide_eq_true hn
    have hc := can_ref hm (fun t _ => rfl) i hi
    have l1 := nmX_len n f i
    have l2 := name_lenF (canF n f i)
    have c1 : strOK (nmX n f i) [43] = true := decide_eq_true (by simp only [List.length_cons, List.length_nil]; omega)
    have c2 : strOK (sapp (nmX n f i) [43]) (nameF (turnE n f (Int.ofNat (refL n (fun k => codeN (f k)))) i)) = true := by
      rw [← hc]
      exact decide_eq_true (by simp only [sapp, List.length_append, List.length_cons, List.length_nil]; omega)
    have hr := rf40n L n f (nmX n f i) i j (ofNat_lt hi) (ile_f i) (decide_eq_true hi) c1 c2
    rw [← hc, show sapp (sapp (nmX n f i) [43]) (nameF (canF n f i)) = nmX n f (i + 1) from List.append_assoc _ _ _] at hr
    rw [iter_round hr, goOn_nm, succ_wr hi (fit_small hn)]
    exact run40n L n f hn hm d (i + 1) (fun _ => .und) q (by omega) (by omega)

theorem ent40f_eq (n : Nat) (f : Nat → E6) : ent40f n f = st40 n f (famT n f) 0 (fun i => nth (ent40f n f).t i) := by kernel_rfl
theorem ent40c_eq (n : Nat) (f : Nat → E6) : ent40c n f = st40 n f [67] 0 (fun i => nth (ent40c n f).t i) := by kernel_rfl

def namedT : List V → T (V × List Blk) := apL1 fun n f => .br (fitN n) (.br (mayN n f) (out (.str (nmT n f))) .fail) .fail

theorem q40 : PureC Tryz.prog Gl 18 namedT := by
  refine pureC_intro tabOK mixed Tryz.func18 (by kernel_rfl) (by kernel_rfl) fun vs v h' h => ?_
  obtain ⟨n, f, ha, h1⟩ := apL1_some h
  obtain ⟨hn, h2⟩ := sem_br_fail h1
  obtain ⟨hm, hq⟩ := sem_br_fail h2
  have := sem_leaf hq
  simp only [Prod.mk.injEq] at this
  obtain ⟨rfl, rfl⟩ := this
  have hx := cx_ok tb40f_ok [(0, lp40 n f)]
  have hL := loopsBy_le [(0, lp40 n f)]
  refine ⟨_, cxOf Gl tb40f [(0, lp40 n f)], _, ha, rfl, hx.1, hx.2, ?_, RowsLE.refl _⟩
  cases hf : ieq (famE n f) 0 with
  | true =>
    have hh : famT n f = headT n f := by unfold headT; rw [hf]
    exact told_le (onP_le hL hL) _ (wf40f _ _ n f (nmT n f) n hn hm hf (isP_true (by rw [ent40f_eq, hh]; exact run40n _ n f hn hm n 0 _ (n + 1) (by omega) (by omega))))
  | false =>
    have hh : [67] = headT n f := by unfold headT; rw [hf]
    exact told_le (onP_le hL hL) _ (wf40c _ _ n f (nmT n f) n hn hm hf (isP_true (by rw [ent40c_eq, hh]; exact run40n _ n f hn hm n 0 _ (n + 1) (by omega) (by omega))))

noncomputable def tb12f : List (Nat × (List V → T (V × List Blk))) := (17, chkT) :: (18, namedT) :: []
theorem tb12f_ok : AllPure Tryz.prog Gl tb12f := .cons p49 <| .cons q40 .nil

theorem wf12n (L : Nat → (St → T (Ex × St)) → St → T (Ex × St)) (a : Int) (n : Nat) (f : Nat → E6) (h17 : fitN n = true) (h0 : ieq (chkE a n f) 0 = false) : (finF (evalF tab ⟨callT tb12f, L, Gl⟩ Tryz.f10 [iV a, edgesV n f] [])).sem = some ((.tup [(.str []), (iV (chkE a n f))]), []) := by
  exact sem_of_path (ds := [true, true, true]) (cs := [(allN n (fun _ => Bool.true)), (fitN n), (bnot (ieq (chkE a n f) 0))]) (by kernel_rfl) (by simp only [h17, h0, allN_true] <;> rfl)

theorem wf12y (L : Nat → (St → T (Ex × St)) → St → T (Ex × St)) (a : Int) (n : Nat) (f : Nat → E6) (h18 : fitN n = true) (h0 : ieq (chkE a n f) 0 = true) (h1 : mayN n f = true) : (finF (evalF tab ⟨callT tb12f, L, Gl⟩ Tryz.f10 [iV a, edgesV n f] [])).sem = some ((.tup [(.str (nmT n f)), (iV 0)]), []) := by
  exact sem_of_path (ds := [true, true, false, true, true, true]) (cs := [(allN n (fun _ => Bool.true)), (fitN n), (bnot (ieq (chkE a n f) 0)), (allN n (fun _ => Bool.true)), (fitN n), (mayN n f)]) (by kernel_rfl) (by simp only [h18, h0, h1, allN_true] <;> rfl)

theorem q12 : PureC Tryz.prog Gl 10 nameTT := by
  refine pureC_intro tabOK mixed Tryz.func10 (by kernel_rfl) (by kernel_rfl) fun vs v h' h => ?_
  unfold nameTT at h
  split at h
  · rename_i a u
    obtain ⟨n, f, ha, h1⟩ := apL_some h
    obtain ⟨hn, hq⟩ := sem_br_fail h1
    have := sem_leaf hq
    simp only [Prod.mk.injEq] at this
    obtain ⟨rfl, rfl⟩ := this
    have hx := cx_ok tb12f_ok []
    refine ⟨_, cxOf Gl tb12f [], _, argF ha, rfl, hx.1, hx.2, ?_, RowsLE.refl _⟩
    unfold nameT nameE
    cases hc : ieq (chkE a n f) 0 with
    | false => exact wf12n _ a n f hn hc
    | true =>
      have hm : mayN n f = true := (isCycle_of hc).may
      show _ = some (V.tup [.str (nmT n f), iV (chkE a n f)], ([] : List Blk))
      rw [ieq_eq hc]
      exact wf12y _ a n f hn hc hm
  · cases h


end Go.Proofs.YtkcbdemfmjciiaaGreatDoor.Fa


