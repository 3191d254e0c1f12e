/-
  Layer 5: vocabularies: each edge once, the matrix of ends. No conditions.
-/
import Derived.Test.YtdmjcpindopjdaaCoM
namespace Go.Proofs.Ytdmjcpindopjdaa.Co
open Go.Sy

def okE (v : V) : Bool := match toE v with
  | some _ => true
  | none => false
def edE (v : V) : E6 := match toE v with
  | some e => e
  | none => zeroE

theorem okE_spec {v : V} (h : okE v = true) : v = eV (edE v) := by
  unfold okE at h
  unfold edE
  split at h
  · rename_i e he
    exact toE_some he
  · cases h

def gSl : V → Option (Nat × (Nat → V))
  | .sl s n g => match Nat.beq s 6 with
    | true => some (n, g)
    | false => match n with
      | 0 => some (0, g)
      | _ => none
  | _ => none

/-- A list of edges, handed on. -/
def apL {α : Type} (v : V) (F : Nat → (Nat → E6) → T α) : T α :=
  match gSl v with
  | some (n, g) => .br (allN n fun i => okE (g i)) (F n fun i => edE (g i)) .fail
  | none => .fail

def edgesV (n : Nat) (f : Nat → E6) : V := .sl 6 n fun i => eV (f i)

theorem apL_some {α : Type} {v : V} {F : Nat → (Nat → E6) → T α} {r : α} (h : (apL v F).sem = some r) :
    ∃ n f, (∀ (S : Nat → Prop) (w : World) (c : Value), VR S w v noK c → VR S w (edgesV n f) noK c) ∧ (F n f).sem = some r := by
  unfold apL at h
  split at h
  · rename_i n g hg
    obtain ⟨h1, h2⟩ := sem_br_fail h
    have h1 := allN_iff.1 h1
    refine ⟨n, _, fun S w c hv => ?_, h2⟩
    unfold gSl at hg
    split at hg
    · rename_i s n' g'
      split at hg
      · rename_i hs
        simp only [Option.some.injEq, Prod.mk.injEq] at hg
        obtain ⟨rfl, rfl⟩ := hg
        have hs : s = 6 := Nat.eq_of_beq_eq_true hs
        subst hs
        obtain ⟨a, cap, e, hc, hb⟩ := hv
        refine ⟨a, cap, e, hc, hb.imp id ?_⟩
        rintro ⟨b, o, ea, hel⟩
        refine ⟨b, o, ea, fun i hi => ?_⟩
        have := hel i hi
        rw [okE_spec (h1 i hi)] at this
        exact this
      · split at hg
        · simp only [Option.some.injEq, Prod.mk.injEq] at hg
          obtain ⟨rfl, rfl⟩ := hg
          obtain ⟨a, cap, e, hc, _⟩ := hv
          exact ⟨a, cap, e, hc, .inl rfl⟩
        · cases hg
    · cases hg
  · cases h

def apL1 (F : Nat → (Nat → E6) → T (V × List Blk)) : List V → T (V × List Blk)
  | [v] => apL v F
  | _ => .fail

theorem apL1_some {F : Nat → (Nat → E6) → T (V × List Blk)} {vs : List V} {r : V × List Blk} (h : (apL1 F vs).sem = some r) : ∃ n f, ArgLE vs [edgesV n f] ∧ (F n f).sem = some r := by
  unfold apL1 at h
  split at h
  · obtain ⟨n, f, h1, h2⟩ := apL_some h
    refine ⟨n, f, fun S w cs hv => ?_, h2⟩
    obtain ⟨c, l, rfl, q1, q2⟩ := hv
    exact ⟨c, l, rfl, h1 S w c q1, q2⟩
  · cases h

/-- Is an edge among those from the i-th on? -/
def anyE (g : Nat → E6) (e : E6) : Nat → Nat → Bool
  | 0, _ => false
  | d + 1, i => bor (eqE (g i) e) (anyE g e d (i + 1))

theorem anyE_iff (g : Nat → E6) (e : E6) : ∀ d i, anyE g e d i = true ↔ ∃ j, i ≤ j ∧ j < i + d ∧ g j = e
  | 0, i => by
    constructor
    · intro h; cases h
    · rintro ⟨j, h1, h2, _⟩; omega
  | d + 1, i => by
    have ih := anyE_iff g e d (i + 1)
    simp only [anyE, bor, Bool.or_eq_true, eqE_iff, ih]
    constructor
    · rintro (h | ⟨j, h1, h2, h3⟩)
      · exact ⟨i, Nat.le_refl _, by omega, h⟩
      · exact ⟨j, by omega, by omega, h3⟩
    · rintro ⟨j, h1, h2, h3⟩
      by_cases hj : j = i
      · subst hj; exact .inl h3
      · exact .inr ⟨j, by omega, by omega, h3⟩

/-- The first that fails. -/
theorem firstNot (p : Nat → Bool) : ∀ n, allN n p = false → ∃ e, e < n ∧ p e = false ∧ ∀ t, t < e → p t = true
  | 0, h => by cases h
  | n + 1, h => by
    cases hn : allN n p with
    | false =>
      obtain ⟨e, h1, h2, h3⟩ := firstNot p n hn
      exact ⟨e, by omega, h2, h3⟩
    | true =>
      refine ⟨n, by omega, ?_, fun t ht => allN_iff.1 hn t ht⟩
      cases hp : p n with
      | false => rfl
      | true =>
        have : allN (n + 1) p = true := allN_iff.2 fun i hi => by
          by_cases hi' : i = n
          · rw [hi', hp]
          · exact allN_iff.1 hn i (by omega)
        rw [this] at h; cases h


def mayN (n : Nat) (f : Nat → E6) : Bool := allN n fun i => ieq (codeF (f i)) 0

theorem mayN_iff {n : Nat} {f : Nat → E6} : mayN n f = true ↔ ∀ i, i < n → codeF (f i) = 0 := by
  unfold mayN
  rw [allN_iff]
  simp [ieq]

theorem codeF_30 {e : E6} (h : codeF e ≠ 0) : codeF e = 30 := by
  rcases codeF_cases e with ⟨_, _, h1, _⟩ | ⟨h1, _⟩
  · exact absurd h1 h
  · exact h1

theorem may_no {n : Nat} {f : Nat → E6} (h : mayN n f = false) : ∃ e, e < n ∧ codeF (f e) = 30 ∧ ∀ t, t < e → codeF (f t) = 0 := by
  obtain ⟨e, h1, h2, h3⟩ := firstNot _ n h
  refine ⟨e, h1, codeF_30 fun h0 => ?_, fun t ht => by simpa [ieq] using h3 t ht⟩
  rw [h0] at h2
  cases h2

theorem nlt_true {i n : Nat} (h : i < n) : nlt i n = true := by simpa [nlt] using h

theorem many (n : Nat) : (ilt 128 (Int.ofNat n) = true ∧ 128 < n) ∨ (ilt 128 (Int.ofNat n) = false ∧ n ≤ 128) := by
  by_cases h : 128 < n
  · exact .inl ⟨lt_true (by simp; omega), h⟩
  · exact .inr ⟨lt_false (by simp; omega), by omega⟩

/-! ### Is it a vocabulary? -/

noncomputable def tbM3 : List (Nat × (List V → T (V × List Blk))) := (47, edgeT fun e => iV (codeF e)) :: tbM2
theorem tbM3_ok : AllPure Try.prog Gl tbM3 := .cons p47 tbM2_ok

def lp32 (n : Nat) (f : Nat → E6) : Lp := ⟨[true, false, true, true, false, false, false, false, false, false, false, false, false, false, false, false, false, false, false], 0, [false, false, true, false, false, false, false, false, false, false, false, false, false, false, false, false, false, false, false], 0, n + 1⟩
def st32 (n : Nat) (f : Nat → E6) (i : Nat) (j : Nat → V) : St := ⟨[.sl 6 n fun i => eV (f i), j 1, iV 0, iV (Int.ofNat i), j 4, j 5, j 6, j 7, j 8, j 9, j 10, j 11, j 12, j 13, j 14, j 15, j 16, j 17, j 18], []⟩
def en32a (n : Nat) (f : Nat → E6) (i : Nat) : Ex × St := (.ex 0, ⟨[.und, .und, iV 0, .und, .und, .und, .und, .und, .und, .und, .und, .und, .und, .und, .und, .und, .und, .und, .und], []⟩)
def en32b (n : Nat) (f : Nat → E6) (i : Nat) : Ex × St := (.rt, ⟨[.und, .und, iV 30, .und, .und, .und, .und, .und, .und, .und, .und, .und, .und, .und, .und, .und, .und, .und, .und], []⟩)
noncomputable def body32 (L : Nat → (St → T (Ex × St)) → St → T (Ex × St)) : St → T (Ex × St) := fun st => evalC tab ⟨callT tbM3, L, Gl⟩ (loopBody Try.f32 0) 0 st
theorem round32a_p (L : Nat → (St → T (Ex × St)) → St → T (Ex × St)) (n : Nat) (f : Nat → E6) (i : Nat)  (j : Nat → V) : ((body32 L (st32 n f i j)).bind fun r => T.leaf (cutR (lp32 n f) r)).path [false] = some ([(ilt (Int.ofNat i) (Int.ofNat n))], ((.ex 0), ⟨[.und, .und, (iV 0), .und, .und, .und, .und, .und, .und, .und, .und, .und, .und, .und, .und, .und, .und, .und, .und], []⟩)) := by kernel_rfl
theorem round32a (L : Nat → (St → T (Ex × St)) → St → T (Ex × St)) (n : Nat) (f : Nat → E6) (i : Nat)  (j : Nat → V) (h0 : ilt (Int.ofNat i) (Int.ofNat n) = false) : ((body32 L (st32 n f i j)).bind fun r => T.leaf (cutR (lp32 n f) r)).sem = some ((.ex 0), ⟨[.und, .und, (iV 0), .und, .und, .und, .und, .und, .und, .und, .und, .und, .und, .und, .und, .und, .und, .und, .und], []⟩) := by
  exact sem_of_path (round32a_p L n f i j) (by simp only [h0] <;> rfl)
theorem round32n_p (L : Nat → (St → T (Ex × St)) → St → T (Ex × St)) (n : Nat) (f : Nat → E6) (i : Nat)  (j : Nat → V) : ((body32 L (st32 n f i j)).bind fun r => T.leaf (cutR (lp32 n f) r)).path [true, true, false] = some ([(ilt (Int.ofNat i) (Int.ofNat n)), (band (ile 0 (Int.ofNat i)) (ilt (Int.ofNat i) (Int.ofNat n))), (bnot (ieq (codeF (f i)) 0))], (.nm, ⟨[(.sl 6 n (fun i => (eV (f i)))), .und, (iV 0), (iV (wr IntKind.i64 (iadd (Int.ofNat i) 1))), .und, .und, .und, .und, .und, .und, .und, .und, .und, .und, .und, .und, .und, .und, .und], []⟩)) := by kernel_rfl
theorem round32n (L : Nat → (St → T (Ex × St)) → St → T (Ex × St)) (n : Nat) (f : Nat → E6) (i : Nat)  (j : Nat → V) (h1 : ilt (Int.ofNat i) (Int.ofNat n) = true) (h0 : band (ile 0 (Int.ofNat i)) (ilt (Int.ofNat i) (Int.ofNat n)) = true) (h2 : ieq (codeF (f i)) 0 = true) : ((body32 L (st32 n f i j)).bind fun r => T.leaf (cutR (lp32 n f) r)).sem = some (.nm, ⟨[(.sl 6 n (fun i => (eV (f i)))), .und, (iV 0), (iV (wr IntKind.i64 (iadd (Int.ofNat i) 1))), .und, .und, .und, .und, .und, .und, .und, .und, .und, .und, .und, .und, .und, .und, .und], []⟩) := by
  exact sem_of_path (round32n_p L n f i j) (by simp only [h1, h0, h2] <;> rfl)
theorem round32b_p (L : Nat → (St → T (Ex × St)) → St → T (Ex × St)) (n : Nat) (f : Nat → E6) (i : Nat)  (j : Nat → V) : ((body32 L (st32 n f i j)).bind fun r => T.leaf (cutR (lp32 n f) r)).path [true, true, true] = some ([(ilt (Int.ofNat i) (Int.ofNat n)), (band (ile 0 (Int.ofNat i)) (ilt (Int.ofNat i) (Int.ofNat n))), (bnot (ieq (codeF (f i)) 0))], (.rt, ⟨[.und, .und, (iV 30), .und, .und, .und, .und, .und, .und, .und, .und, .und, .und, .und, .und, .und, .und, .und, .und], []⟩)) := by kernel_rfl
theorem round32b (L : Nat → (St → T (Ex × St)) → St → T (Ex × St)) (n : Nat) (f : Nat → E6) (i : Nat)  (j : Nat → V) (h1 : ilt (Int.ofNat i) (Int.ofNat n) = true) (h0 : band (ile 0 (Int.ofNat i)) (ilt (Int.ofNat i) (Int.ofNat n)) = true) (h2 : ieq (codeF (f i)) 0 = false) : ((body32 L (st32 n f i j)).bind fun r => T.leaf (cutR (lp32 n f) r)).sem = some (.rt, ⟨[.und, .und, (iV 30), .und, .und, .und, .und, .und, .und, .und, .und, .und, .und, .und, .und, .und, .und, .und, .und], []⟩) := by
  exact sem_of_path (round32b_p L n f i j) (by simp only [h1, h0, h2] <;> rfl)
def jk32 (n : Nat) (f : Nat → E6)  : Nat → V
  | 4 => (.sl 6 n (fun i => (eV (f i))))
  | 5 => (iV (Int.ofNat n))
  | 6 => (bV (ilt 128 (Int.ofNat n)))
  | _ => undefV

theorem way32f_p (L : Nat → (St → T (Ex × St)) → St → T (Ex × St)) (n : Nat) (f : Nat → E6) : (finF (evalF tab ⟨callT tbM3, L, Gl⟩ Try.f32 [edgesV n f] [])).path [true] = some ([(ilt 128 (Int.ofNat n))], ((iV 2), [])) := by kernel_rfl
theorem way32f (L : Nat → (St → T (Ex × St)) → St → T (Ex × St)) (n : Nat) (f : Nat → E6) (h0 : ilt 128 (Int.ofNat n) = true) : (finF (evalF tab ⟨callT tbM3, L, Gl⟩ Try.f32 [edgesV n f] [])).sem = some ((iV 2), []) := by
  exact sem_of_path (way32f_p L n f) (by simp only [h0] <;> rfl)

theorem way32a_p (L : Nat → (St → T (Ex × St)) → St → T (Ex × St)) (p0 : (St → T (Ex × St)) → St → Bool) (n : Nat) (f : Nat → E6) (i : Nat) : (finF (evalF tab ⟨callT tbM3, (onP 0 p0 (en32a n f i) L), Gl⟩ Try.f32 [edgesV n f] [])).path [false, true] = some ([(ilt 128 (Int.ofNat n)), (p0 (body32 (onP 0 p0 (en32a n f i) L)) (st32 n f 0 (jk32 n f )))], ((iV 0), [])) := by kernel_rfl
theorem way32a (L : Nat → (St → T (Ex × St)) → St → T (Ex × St)) (p0 : (St → T (Ex × St)) → St → Bool) (n : Nat) (f : Nat → E6) (i : Nat) (h0 : ilt 128 (Int.ofNat n) = false) (hp0 : p0 (body32 (onP 0 p0 (en32a n f i) L)) (st32 n f 0 (jk32 n f )) = true) : (finF (evalF tab ⟨callT tbM3, (onP 0 p0 (en32a n f i) L), Gl⟩ Try.f32 [edgesV n f] [])).sem = some ((iV 0), []) := by
  exact sem_of_path (way32a_p L p0 n f i) (by simp only [h0, hp0] <;> rfl)

theorem way32b_p (L : Nat → (St → T (Ex × St)) → St → T (Ex × St)) (p0 : (St → T (Ex × St)) → St → Bool) (n : Nat) (f : Nat → E6) (i : Nat) : (finF (evalF tab ⟨callT tbM3, (onP 0 p0 (en32b n f i) L), Gl⟩ Try.f32 [edgesV n f] [])).path [false, true] = some ([(ilt 128 (Int.ofNat n)), (p0 (body32 (onP 0 p0 (en32b n f i) L)) (st32 n f 0 (jk32 n f )))], ((iV 30), [])) := by kernel_rfl
theorem way32b (L : Nat → (St → T (Ex × St)) → St → T (Ex × St)) (p0 : (St → T (Ex × St)) → St → Bool) (n : Nat) (f : Nat → E6) (i : Nat) (h0 : ilt 128 (Int.ofNat n) = false) (hp0 : p0 (body32 (onP 0 p0 (en32b n f i) L)) (st32 n f 0 (jk32 n f )) = true) : (finF (evalF tab ⟨callT tbM3, (onP 0 p0 (en32b n f i) L), Gl⟩ Try.f32 [edgesV n f] [])).sem = some ((iV 30), []) := by
  exact sem_of_path (way32b_p L p0 n f i) (by simp only [h0, hp0] <;> rfl)

theorem run32a (L : Nat → (St → T (Ex × St)) → St → T (Ex × St)) (n : Nat) (f : Nat → E6) (hn : n ≤ 4611686018427387904) (ho : ∀ t, t < n → codeF (f t) = 0) : ∀ (d i : Nat) (j : Nat → V) (q : Nat), n = i + d → d < q →
    (iterT (body32 L) (lp32 n f) q (st32 n f i j)).sem = some (en32a n f 0)
  | 0, i, j, q + 1, h1, _ => iter_round (round32a L n f i j (ofNat_ge (by omega)))
  | d + 1, i, j, q + 1, h1, h2 => by
    have hi : i < n := by omega
    rw [iter_round (round32n L n f i j (ofNat_lt hi) (ofNat_in hi) (ieq_true (ho i hi))), succ_wr hi hn]
    exact run32a L n f hn ho d (i + 1) (fun _ => .und) q (by omega) (by omega)

theorem run32b (L : Nat → (St → T (Ex × St)) → St → T (Ex × St)) (n : Nat) (f : Nat → E6) (hn : n ≤ 4611686018427387904) (e : Nat) (he : e < n) (hb : codeF (f e) = 30) (ho : ∀ t, t < e → codeF (f t) = 0) : ∀ (d i : Nat) (j : Nat → V) (q : Nat), e = i + d → d < q →
    (iterT (body32 L) (lp32 n f) q (st32 n f i j)).sem = some (en32b n f 0)
  | 0, i, j, q + 1, h1, _ => by
    have hi : i = e := by omega
    subst hi
    exact iter_round (round32b L n f i j (ofNat_lt he) (ofNat_in he) (by rw [hb]; rfl))
  | d + 1, i, j, q + 1, h1, h2 => by
    have hi : i < n := by omega
    rw [iter_round (round32n L n f i j (ofNat_lt hi) (ofNat_in hi) (ieq_true (ho i (by omega)))), succ_wr hi hn]
    exact run32b L n f hn e he hb ho d (i + 1) (fun _ => .und) q (by omega) (by omega)

def vocT : List V → T (V × List Blk) := apL1 fun n f => .br (ilt 128 (Int.ofNat n)) (out (iV 2)) (.br (mayN n f) (out (iV 0)) (out (iV 30)))

theorem p32 : PureC Try.prog Gl 32 vocT := by
  refine pureC_intro tabOK mixed Try.func32 (by kernel_rfl) (by kernel_rfl) fun vs v h' h => ?_
  obtain ⟨n, f, ha, hq⟩ := apL1_some h
  have hx := cx_ok tbM3_ok [(0, lp32 n f)]
  have hL := loopsBy_le [(0, lp32 n f)]
  refine ⟨_, cxOf Gl tbM3 [(0, lp32 n f)], h', ha, rfl, hx.1, hx.2, ?_, RowsLE.refl _⟩
  rcases many n with ⟨h1, _⟩ | ⟨h1, hn⟩
  · rw [h1] at hq
    rw [sem_leaf hq]
    exact way32f _ n f h1
  · rw [h1] at hq
    cases hm : mayN n f with
    | true =>
      rw [hm] at hq
      rw [sem_leaf hq]
      exact told_le (onP_le hL hL) _ (way32a _ _ n f 0 h1 (isP_true (run32a _ n f (by omega) (mayN_iff.1 hm) n 0 _ (n + 1) (by omega) (by omega))))
    | false =>
      rw [hm] at hq
      rw [sem_leaf hq]
      obtain ⟨e, k1, k2, k3⟩ := may_no hm
      exact told_le (onP_le hL hL) _ (way32b _ _ n f 0 h1 (isP_true (run32b _ n f (by omega) e k1 k2 k3 e 0 _ (n + 1) (by omega) (by omega))))

/-! ### Each edge once -/

/-- The edges of a list whose last is ahead, by their places. -/
def getE : List E6 → Nat → E6
  | [] => fun _ => zeroE
  | x :: l => fun i => bif Nat.beq i l.length then x else getE l i

/-- Those of the first i edges, each once, the last ahead. -/
def onceR (f : Nat → E6) : Nat → List E6
  | 0 => []
  | i + 1 => match anyE (getE (onceR f i)) (f i) (onceR f i).length 0 with
    | true => onceR f i
    | false => f i :: onceR f i

theorem onceR_len (f : Nat → E6) : ∀ i, (onceR f i).length ≤ i
  | 0 => Nat.le_refl _
  | i + 1 => by
    have := onceR_len f i
    unfold onceR
    split
    · omega
    · simp; omega

theorem onceR_true {f : Nat → E6} {i : Nat} (h : anyE (getE (onceR f i)) (f i) (onceR f i).length 0 = true) : onceR f (i + 1) = onceR f i := by
  rw [onceR, h]
theorem onceR_false {f : Nat → E6} {i : Nat} (h : anyE (getE (onceR f i)) (f i) (onceR f i).length 0 = false) : onceR f (i + 1) = f i :: onceR f i := by
  rw [onceR, h]

theorem push_get (l : List E6) (x : E6) : pushGet l.length (fun j => eV (getE l j)) (eV x) = fun j => eV (getE (x :: l) j) := by
  funext j
  rw [pushGet_eq]
  show (bif Nat.beq j l.length then eV x else eV (getE l j)) = eV (bif Nat.beq j l.length then x else getE l j)
  cases Nat.beq j l.length <;> rfl

theorem getE_mem : ∀ (l : List E6) (x : E6), (∃ j, j < l.length ∧ getE l j = x) ↔ x ∈ l
  | [], x => by simp
  | y :: l, x => by
    have ih := getE_mem l x
    constructor
    · rintro ⟨j, hj, he⟩
      have he : (bif Nat.beq j l.length then y else getE l j) = x := he
      cases hb : Nat.beq j l.length with
      | true =>
        rw [hb] at he
        exact List.mem_cons.2 (.inl he.symm)
      | false =>
        rw [hb] at he
        have := Nat.ne_of_beq_eq_false hb
        simp at hj
        exact List.mem_cons.2 (.inr (ih.1 ⟨j, by omega, he⟩))
    · intro h
      rcases List.mem_cons.1 h with rfl | h
      · refine ⟨l.length, by simp, ?_⟩
        show (bif Nat.beq l.length l.length then x else getE l l.length) = x
        rw [Nat.beq_refl]; rfl
      · obtain ⟨j, hj, he⟩ := ih.2 h
        refine ⟨j, by simp; omega, ?_⟩
        show (bif Nat.beq j l.length then y else getE l j) = x
        have : Nat.beq j l.length = false := by
          cases hb : Nat.beq j l.length with
          | false => rfl
          | true => have := Nat.eq_of_beq_eq_true hb; omega
        rw [this]; exact he

theorem anyE_mem (l : List E6) (x : E6) : anyE (getE l) x l.length 0 = true ↔ x ∈ l := by
  rw [anyE_iff, ← getE_mem]
  simp

theorem onceR_sub (f : Nat → E6) : ∀ (i : Nat) (e : E6), e ∈ onceR f i → ∃ t, t < i ∧ e = f t
  | 0, e, h => by cases h
  | i + 1, e, h => by
    cases hb : anyE (getE (onceR f i)) (f i) (onceR f i).length 0 with
    | true =>
      rw [onceR_true hb] at h
      obtain ⟨t, h1, h2⟩ := onceR_sub f i e h
      exact ⟨t, by omega, h2⟩
    | false =>
      rw [onceR_false hb] at h
      rcases List.mem_cons.1 h with rfl | h
      · exact ⟨i, by omega, rfl⟩
      · obtain ⟨t, h1, h2⟩ := onceR_sub f i e h
        exact ⟨t, by omega, h2⟩

def lp19_2 (n : Nat) (f : Nat → E6) : Lp := ⟨[true, false, true, true, true, true, true, false, false, false, false, false, false, false, false, false, false, false, false, false, false, false, false, false, false, false, false, false, false, false, false, false, false, false, false, false, false, false, false, false, false], 2, [true, false, true, true, true, true, false, false, false, false, false, false, false, false, false, false, false, false, false, false, false, false, false, false, false, false, false, false, false, false, false, false, false, false, false, false, false, false, false, false, false], 2, 129⟩
def st19_2 (n : Nat) (f : Nat → E6) (m : Nat) (g : Nat → E6) (i : Nat) (t : Bool) (k : Nat) (j : Nat → V) : St := ⟨[.sl 6 n fun i => eV (f i), j 1, .ref 0, .ref 1, iV (Int.ofNat i), bV t, iV (Int.ofNat k), j 7, j 8, j 9, j 10, j 11, j 12, j 13, j 14, j 15, j 16, j 17, j 18, j 19, j 20, j 21, j 22, j 23, j 24, j 25, j 26, j 27, j 28, j 29, j 30, j 31, j 32, j 33, j 34, j 35, j 36, j 37, j 38, j 39, j 40], [.row 36 6 0 (fun _ => .und), .row 36 6 m (fun j => eV (g j))]⟩
def en19_2a (n : Nat) (f : Nat → E6) (m : Nat) (g : Nat → E6) (i : Nat) (t : Bool) (k : Nat) : Ex × St := (.ex 2, ⟨[.sl 6 n fun i => eV (f i), .und, .ref 0, .ref 1, iV (Int.ofNat i), bV t, .und, .und, .und, .und, .und, .und, .und, .und, .und, .und, .und, .und, .und, .und, .und, .und, .und, .und, .und, .und, .und, .und, .und, .und, .und, .und, .und, .und, .und, .und, .und, .und, .und, .und, .und], [.row 36 6 0 (fun _ => .und), .row 36 6 m (fun j => eV (g j))]⟩)
noncomputable def body19_2 (L : Nat → (St → T (Ex × St)) → St → T (Ex × St)) : St → T (Ex × St) := fun st => evalC tab ⟨callT tbM2, L, Gl⟩ (loopBody Try.f19 2) 2 st
theorem round19_2a_p (L : Nat → (St → T (Ex × St)) → St → T (Ex × St)) (n : Nat) (f : Nat → E6) (m : Nat) (g : Nat → E6) (i : Nat) (t : Bool) (k : Nat)  (j : Nat → V) : ((body19_2 L (st19_2 n f m g i t k j)).bind fun r => T.leaf (cutR (lp19_2 n f) r)).path [false] = some ([(ilt (Int.ofNat k) (Int.ofNat m))], ((.ex 2), ⟨[(.sl 6 n (fun i => (eV (f i)))), .und, (.ref 0), (.ref 1), (iV (Int.ofNat i)), (bV t), .und, .und, .und, .und, .und, .und, .und, .und, .und, .und, .und, .und, .und, .und, .und, .und, .und, .und, .und, .und, .und, .und, .und, .und, .und, .und, .und, .und, .und, .und, .und, .und, .und, .und, .und], [(.row 36 6 0 (fun _ => .und)), (.row 36 6 m (fun j => (eV (g j))))]⟩)) := by kernel_rfl
theorem round19_2a (L : Nat → (St → T (Ex × St)) → St → T (Ex × St)) (n : Nat) (f : Nat → E6) (m : Nat) (g : Nat → E6) (i : Nat) (t : Bool) (k : Nat)  (j : Nat → V) (h0 : ilt (Int.ofNat k) (Int.ofNat m) = false) : ((body19_2 L (st19_2 n f m g i t k j)).bind fun r => T.leaf (cutR (lp19_2 n f) r)).sem = some ((.ex 2), ⟨[(.sl 6 n (fun i => (eV (f i)))), .und, (.ref 0), (.ref 1), (iV (Int.ofNat i)), (bV t), .und, .und, .und, .und, .und, .und, .und, .und, .und, .und, .und, .und, .und, .und, .und, .und, .und, .und, .und, .und, .und, .und, .und, .und, .und, .und, .und, .und, .und, .und, .und, .und, .und, .und, .und], [(.row 36 6 0 (fun _ => .und)), (.row 36 6 m (fun j => (eV (g j))))]⟩) := by
  exact sem_of_path (round19_2a_p L n f m g i t k j) (by simp only [h0] <;> rfl)
theorem round19_2t_p (L : Nat → (St → T (Ex × St)) → St → T (Ex × St)) (n : Nat) (f : Nat → E6) (m : Nat) (g : Nat → E6) (i : Nat) (t : Bool) (k : Nat)  (j : Nat → V) : ((body19_2 L (st19_2 n f m g i t k j)).bind fun r => T.leaf (cutR (lp19_2 n f) r)).path [true, true, true, true, true, true, true, true, true, true, true] = some ([(ilt (Int.ofNat k) (Int.ofNat m)), t, t, t, t, t, t, t, t, t, t], (.nm, ⟨[(.sl 6 n (fun i => (eV (f i)))), .und, (.ref 0), (.ref 1), (iV (Int.ofNat i)), (bV Bool.true), (iV (wr IntKind.i64 (iadd (Int.ofNat k) 1))), .und, .und, .und, .und, .und, .und, .und, .und, .und, .und, .und, .und, .und, .und, .und, .und, .und, .und, .und, .und, .und, .und, .und, .und, .und, .und, .und, .und, .und, .und, .und, .und, .und, .und], [(.row 36 6 0 (fun _ => .und)), (.row 36 6 m (fun j => (eV (g j))))]⟩)) := by kernel_rfl
theorem round19_2t (L : Nat → (St → T (Ex × St)) → St → T (Ex × St)) (n : Nat) (f : Nat → E6) (m : Nat) (g : Nat → E6) (i : Nat) (t : Bool) (k : Nat)  (j : Nat → V) (h0 : ilt (Int.ofNat k) (Int.ofNat m) = true) (h5 : t = true) : ((body19_2 L (st19_2 n f m g i t k j)).bind fun r => T.leaf (cutR (lp19_2 n f) r)).sem = some (.nm, ⟨[(.sl 6 n (fun i => (eV (f i)))), .und, (.ref 0), (.ref 1), (iV (Int.ofNat i)), (bV Bool.true), (iV (wr IntKind.i64 (iadd (Int.ofNat k) 1))), .und, .und, .und, .und, .und, .und, .und, .und, .und, .und, .und, .und, .und, .und, .und, .und, .und, .und, .und, .und, .und, .und, .und, .und, .und, .und, .und, .und, .und, .und, .und, .und, .und, .und], [(.row 36 6 0 (fun _ => .und)), (.row 36 6 m (fun j => (eV (g j))))]⟩) := by
  subst h5; exact sem_of_path (round19_2t_p L n f m g i true k j) (by simp only [h0] <;> rfl)
theorem round19_2f_p (L : Nat → (St → T (Ex × St)) → St → T (Ex × St)) (n : Nat) (f : Nat → E6) (m : Nat) (g : Nat → E6) (i : Nat) (t : Bool) (k : Nat)  (j : Nat → V) : ((body19_2 L (st19_2 n f m g i t k j)).bind fun r => T.leaf (cutR (lp19_2 n f) r)).path [true, false, false, false, true, false, true, false, false, false, true, false, false, false] = some ([(ilt (Int.ofNat k) (Int.ofNat m)), t, t, t, (band (ile 0 (Int.ofNat k)) (ilt (Int.ofNat k) (Int.ofNat m))), t, (nlt k m), t, t, t, (band (ile 0 (Int.ofNat i)) (ilt (Int.ofNat i) (Int.ofNat n))), t, t, t], (.nm, ⟨[(.sl 6 n (fun i => (eV (f i)))), .und, (.ref 0), (.ref 1), (iV (Int.ofNat i)), (bV (eqE (g k) (f i))), (iV (wr IntKind.i64 (iadd (Int.ofNat k) 1))), .und, .und, .und, .und, .und, .und, .und, .und, .und, .und, .und, .und, .und, .und, .und, .und, .und, .und, .und, .und, .und, .und, .und, .und, .und, .und, .und, .und, .und, .und, .und, .und, .und, .und], [(.row 36 6 0 (fun _ => .und)), (.row 36 6 m (fun j => (eV (g j))))]⟩)) := by kernel_rfl
theorem round19_2f (L : Nat → (St → T (Ex × St)) → St → T (Ex × St)) (n : Nat) (f : Nat → E6) (m : Nat) (g : Nat → E6) (i : Nat) (t : Bool) (k : Nat)  (j : Nat → V) (h0 : ilt (Int.ofNat k) (Int.ofNat m) = true) (h5 : t = false) (h1 : band (ile 0 (Int.ofNat k)) (ilt (Int.ofNat k) (Int.ofNat m)) = true) (h4 : nlt k m = true) (h2 : band (ile 0 (Int.ofNat i)) (ilt (Int.ofNat i) (Int.ofNat n)) = true) : ((body19_2 L (st19_2 n f m g i t k j)).bind fun r => T.leaf (cutR (lp19_2 n f) r)).sem = some (.nm, ⟨[(.sl 6 n (fun i => (eV (f i)))), .und, (.ref 0), (.ref 1), (iV (Int.ofNat i)), (bV (eqE (g k) (f i))), (iV (wr IntKind.i64 (iadd (Int.ofNat k) 1))), .und, .und, .und, .und, .und, .und, .und, .und, .und, .und, .und, .und, .und, .und, .und, .und, .und, .und, .und, .und, .und, .und, .und, .und, .und, .und, .und, .und, .und, .und, .und, .und, .und, .und], [(.row 36 6 0 (fun _ => .und)), (.row 36 6 m (fun j => (eV (g j))))]⟩) := by
  subst h5; exact sem_of_path (round19_2f_p L n f m g i false k j) (by simp only [h0, h1, h4, h2] <;> rfl)

def lp19 (n : Nat) (f : Nat → E6) : Lp := ⟨[true, false, true, true, true, false, false, false, false, false, false, false, false, false, false, false, false, false, false, false, false, false, false, false, false, false, false, false, false, false, false, false, false, false, false, false, false, false, false, false, false], 2, [false, false, false, true, false, false, false, false, false, false, false, false, false, false, false, false, false, false, false, false, false, false, false, false, false, false, false, false, false, false, false, false, false, false, false, false, false, false, false, false, false], 2, n + 1⟩
def st19 (n : Nat) (f : Nat → E6) (m : Nat) (g : Nat → E6) (i : Nat) (j : Nat → V) : St := ⟨[.sl 6 n fun i => eV (f i), j 1, .ref 0, .ref 1, iV (Int.ofNat i), j 5, j 6, j 7, j 8, j 9, j 10, j 11, j 12, j 13, j 14, j 15, j 16, j 17, j 18, j 19, j 20, j 21, j 22, j 23, j 24, j 25, j 26, j 27, j 28, j 29, j 30, j 31, j 32, j 33, j 34, j 35, j 36, j 37, j 38, j 39, j 40], [.row 36 6 0 (fun _ => .und), .row 36 6 m (fun j => eV (g j))]⟩
def en19a (n : Nat) (f : Nat → E6) (m : Nat) (g : Nat → E6) (i : Nat) : Ex × St := (.ex 0, ⟨[.und, .und, .und, .ref 1, .und, .und, .und, .und, .und, .und, .und, .und, .und, .und, .und, .und, .und, .und, .und, .und, .und, .und, .und, .und, .und, .und, .und, .und, .und, .und, .und, .und, .und, .und, .und, .und, .und, .und, .und, .und, .und], [.row 36 6 0 (fun _ => .und), .row 36 6 m (fun j => eV (g j))]⟩)
noncomputable def body19 (L : Nat → (St → T (Ex × St)) → St → T (Ex × St)) : St → T (Ex × St) := fun st => evalC tab ⟨callT tbM2, L, Gl⟩ (loopBody Try.f19 0) 0 st
theorem round19a_p (L : Nat → (St → T (Ex × St)) → St → T (Ex × St)) (n : Nat) (f : Nat → E6) (m : Nat) (g : Nat → E6) (i : Nat)  (j : Nat → V) : ((body19 L (st19 n f m g i j)).bind fun r => T.leaf (cutR (lp19 n f) r)).path [false] = some ([(ilt (Int.ofNat i) (Int.ofNat n))], ((.ex 0), ⟨[.und, .und, .und, (.ref 1), .und, .und, .und, .und, .und, .und, .und, .und, .und, .und, .und, .und, .und, .und, .und, .und, .und, .und, .und, .und, .und, .und, .und, .und, .und, .und, .und, .und, .und, .und, .und, .und, .und, .und, .und, .und, .und], [(.row 36 6 0 (fun _ => .und)), (.row 36 6 m (fun j => (eV (g j))))]⟩)) := by kernel_rfl
theorem round19a (L : Nat → (St → T (Ex × St)) → St → T (Ex × St)) (n : Nat) (f : Nat → E6) (m : Nat) (g : Nat → E6) (i : Nat)  (j : Nat → V) (h0 : ilt (Int.ofNat i) (Int.ofNat n) = false) : ((body19 L (st19 n f m g i j)).bind fun r => T.leaf (cutR (lp19 n f) r)).sem = some ((.ex 0), ⟨[.und, .und, .und, (.ref 1), .und, .und, .und, .und, .und, .und, .und, .und, .und, .und, .und, .und, .und, .und, .und, .und, .und, .und, .und, .und, .und, .und, .und, .und, .und, .und, .und, .und, .und, .und, .und, .und, .und, .und, .und, .und, .und], [(.row 36 6 0 (fun _ => .und)), (.row 36 6 m (fun j => (eV (g j))))]⟩) := by
  exact sem_of_path (round19a_p L n f m g i j) (by simp only [h0] <;> rfl)
def jk19 (n : Nat) (f : Nat → E6)  : Nat → V
  | _ => undefV

def ent19 (n : Nat) (f : Nat → E6)  : St := ⟨[(.sl 6 n (fun i => (eV (f i)))), undefV, (.ref 0), (.ref 1), (iV 0), undefV, undefV, undefV, undefV, undefV, undefV, undefV, undefV, undefV, undefV, undefV, undefV, undefV, undefV, undefV, undefV, undefV, undefV, undefV, undefV, undefV, undefV, undefV, undefV, undefV, undefV, undefV, undefV, undefV, undefV, undefV, undefV, undefV, undefV, undefV, undefV], [(.row 36 6 0 (fun _ => .und)), (.row 36 6 0 (fun _ => .und))]⟩

def jk19_2 (n : Nat) (f : Nat → E6) (m : Nat) (g : Nat → E6) (i : Nat) (j : Nat → V) : Nat → V
  | 1 => (j 1)
  | 7 => (iV (Int.ofNat i))
  | 8 => (.sl 6 n (fun i => (eV (f i))))
  | 9 => (iV (Int.ofNat n))
  | 10 => (bV (ilt (Int.ofNat i) (Int.ofNat n)))
  | 11 => (j 11)
  | 12 => (j 12)
  | 13 => (j 13)
  | 14 => (j 14)
  | 15 => (j 15)
  | 16 => (j 16)
  | 17 => (j 17)
  | 18 => (j 18)
  | 19 => (j 19)
  | 20 => (j 20)
  | 21 => (j 21)
  | 22 => (j 22)
  | 23 => (j 23)
  | 24 => (j 24)
  | 25 => (j 25)
  | 26 => (j 26)
  | 27 => (j 27)
  | 28 => (j 28)
  | 29 => (j 29)
  | 30 => (j 30)
  | 31 => (j 31)
  | 32 => (j 32)
  | 33 => (j 33)
  | 34 => (j 34)
  | 35 => (j 35)
  | 36 => (j 36)
  | 37 => (j 37)
  | 38 => (j 38)
  | 39 => (j 39)
  | 40 => (j 40)
  | _ => undefV

theorem round19t_p (L : Nat → (St → T (Ex × St)) → St → T (Ex × St)) (p2 : (St → T (Ex × St)) → St → Bool) (n : Nat) (f : Nat → E6) (m : Nat) (g : Nat → E6) (i : Nat) (t : Bool) (j : Nat → V) : ((body19 (onP 2 p2 (en19_2a n f m g i t 0) L) (st19 n f m g i j)).bind fun r => T.leaf (cutR (lp19 n f) r)).path [true, true, false] = some ([(ilt (Int.ofNat i) (Int.ofNat n)), (p2 (body19_2 (onP 2 p2 (en19_2a n f m g i t 0) L)) (st19_2 n f m g i Bool.false 0 (jk19_2 n f m g i j))), (bnot t)], (.nm, ⟨[(.sl 6 n (fun i => (eV (f i)))), .und, (.ref 0), (.ref 1), (iV (wr IntKind.i64 (iadd (Int.ofNat i) 1))), .und, .und, .und, .und, .und, .und, .und, .und, .und, .und, .und, .und, .und, .und, .und, .und, .und, .und, .und, .und, .und, .und, .und, .und, .und, .und, .und, .und, .und, .und, .und, .und, .und, .und, .und, .und], [(.row 36 6 0 (fun _ => .und)), (.row 36 6 m (fun j => (eV (g j))))]⟩)) := by kernel_rfl
theorem round19t (L : Nat → (St → T (Ex × St)) → St → T (Ex × St)) (p2 : (St → T (Ex × St)) → St → Bool) (n : Nat) (f : Nat → E6) (m : Nat) (g : Nat → E6) (i : Nat) (t : Bool) (j : Nat → V) (h0 : ilt (Int.ofNat i) (Int.ofNat n) = true) (h2 : t = true) (hp2 : p2 (body19_2 (onP 2 p2 (en19_2a n f m g i t 0) L)) (st19_2 n f m g i Bool.false 0 (jk19_2 n f m g i j)) = true) : ((body19 (onP 2 p2 (en19_2a n f m g i t 0) L) (st19 n f m g i j)).bind fun r => T.leaf (cutR (lp19 n f) r)).sem = some (.nm, ⟨[(.sl 6 n (fun i => (eV (f i)))), .und, (.ref 0), (.ref 1), (iV (wr IntKind.i64 (iadd (Int.ofNat i) 1))), .und, .und, .und, .und, .und, .und, .und, .und, .und, .und, .und, .und, .und, .und, .und, .und, .und, .und, .und, .und, .und, .und, .und, .und, .und, .und, .und, .und, .und, .und, .und, .und, .und, .und, .und, .und], [(.row 36 6 0 (fun _ => .und)), (.row 36 6 m (fun j => (eV (g j))))]⟩) := by
  subst h2; exact sem_of_path (round19t_p L p2 n f m g i true j) (by simp only [h0, hp2] <;> rfl)

theorem round19f_p (L : Nat → (St → T (Ex × St)) → St → T (Ex × St)) (p2 : (St → T (Ex × St)) → St → Bool) (n : Nat) (f : Nat → E6) (m : Nat) (g : Nat → E6) (i : Nat) (t : Bool) (j : Nat → V) : ((body19 (onP 2 p2 (en19_2a n f m g i t 0) L) (st19 n f m g i j)).bind fun r => T.leaf (cutR (lp19 n f) r)).path [true, true, true, true, true] = some ([(ilt (Int.ofNat i) (Int.ofNat n)), (p2 (body19_2 (onP 2 p2 (en19_2a n f m g i t 0) L)) (st19_2 n f m g i Bool.false 0 (jk19_2 n f m g i j))), (bnot t), (band (ile 0 (Int.ofNat i)) (ilt (Int.ofNat i) (Int.ofNat n))), (apOK m 1 40)], (.nm, ⟨[(.sl 6 n (fun i => (eV (f i)))), .und, (.ref 0), (.ref 1), (iV (wr IntKind.i64 (iadd (Int.ofNat i) 1))), .und, .und, .und, .und, .und, .und, .und, .und, .und, .und, .und, .und, .und, .und, .und, .und, .und, .und, .und, .und, .und, .und, .und, .und, .und, .und, .und, .und, .und, .und, .und, .und, .und, .und, .und, .und], [(.row 36 6 0 (fun _ => .und)), (.row 36 6 (nadd m 1) (pushGet m (fun j => (eV (g j))) (eV (f i))))]⟩)) := by kernel_rfl
theorem round19f (L : Nat → (St → T (Ex × St)) → St → T (Ex × St)) (p2 : (St → T (Ex × St)) → St → Bool) (n : Nat) (f : Nat → E6) (m : Nat) (g : Nat → E6) (i : Nat) (t : Bool) (j : Nat → V) (h0 : ilt (Int.ofNat i) (Int.ofNat n) = true) (h2 : t = false) (h1 : band (ile 0 (Int.ofNat i)) (ilt (Int.ofNat i) (Int.ofNat n)) = true) (h3 : apOK m 1 40 = true) (hp2 : p2 (body19_2 (onP 2 p2 (en19_2a n f m g i t 0) L)) (st19_2 n f m g i Bool.false 0 (jk19_2 n f m g i j)) = true) : ((body19 (onP 2 p2 (en19_2a n f m g i t 0) L) (st19 n f m g i j)).bind fun r => T.leaf (cutR (lp19 n f) r)).sem = some (.nm, ⟨[(.sl 6 n (fun i => (eV (f i)))), .und, (.ref 0), (.ref 1), (iV (wr IntKind.i64 (iadd (Int.ofNat i) 1))), .und, .und, .und, .und, .und, .und, .und, .und, .und, .und, .und, .und, .und, .und, .und, .und, .und, .und, .und, .und, .und, .und, .und, .und, .und, .und, .und, .und, .und, .und, .und, .und, .und, .und, .und, .und], [(.row 36 6 0 (fun _ => .und)), (.row 36 6 (nadd m 1) (pushGet m (fun j => (eV (g j))) (eV (f i))))]⟩) := by
  subst h2; exact sem_of_path (round19f_p L p2 n f m g i false j) (by simp only [h0, h1, h3, hp2] <;> rfl)

theorem way19_p (L : Nat → (St → T (Ex × St)) → St → T (Ex × St)) (p0 : (St → T (Ex × St)) → St → Bool) (n : Nat) (f : Nat → E6) (m : Nat) (g : Nat → E6) (i : Nat) : (finF (evalF tab ⟨callT tbM2, (onP 0 p0 (en19a n f m g i) L), Gl⟩ Try.f19 [edgesV n f] [])).path [true] = some ([(p0 (body19 (onP 0 p0 (en19a n f m g i) L)) (ent19 n f))], ((.ref 0), [(.row 36 6 m (fun j => (eV (g j))))])) := by kernel_rfl
theorem way19 (L : Nat → (St → T (Ex × St)) → St → T (Ex × St)) (p0 : (St → T (Ex × St)) → St → Bool) (n : Nat) (f : Nat → E6) (m : Nat) (g : Nat → E6) (i : Nat)  (hp0 : p0 (body19 (onP 0 p0 (en19a n f m g i) L)) (ent19 n f) = true) : (finF (evalF tab ⟨callT tbM2, (onP 0 p0 (en19a n f m g i) L), Gl⟩ Try.f19 [edgesV n f] [])).sem = some ((.ref 0), [(.row 36 6 m (fun j => (eV (g j))))]) := by
  exact sem_of_path (way19_p L p0 n f m g i) (by simp only [hp0] <;> rfl)

section
variable (L : Nat → (St → T (Ex × St)) → St → T (Ex × St)) (n : Nat) (f : Nat → E6)

theorem run19_2 (m : Nat) (g : Nat → E6) (i : Nat) (hi : i < n) (hm : m ≤ 4611686018427387904) : ∀ (d k : Nat) (t : Bool) (j : Nat → V) (q : Nat), m = k + d → d < q →
    (iterT (body19_2 L) (lp19_2 n f) q (st19_2 n f m g i t k j)).sem = some (en19_2a n f m g i (bor t (anyE g (f i) d k)) 0)
  | 0, k, t, j, q + 1, h1, _ => by
    have hz : bor t (anyE g (f i) 0 k) = t := by cases t <;> rfl
    rw [hz]
    exact iter_round (round19_2a L n f m g i t k j (ofNat_ge (by omega)))
  | d + 1, k, t, j, q + 1, h1, h2 => by
    have hk : k < m := by omega
    cases t with
    | true =>
      rw [iter_round (round19_2t L n f m g i true k j (ofNat_lt hk) rfl), succ_wr hk hm]
      exact run19_2 m g i hi hm d (k + 1) true (fun _ => .und) q (by omega) (by omega)
    | false =>
      rw [iter_round (round19_2f L n f m g i false k j (ofNat_lt hk) rfl (ofNat_in hk) (nlt_true hk) (ofNat_in hi)), succ_wr hk hm]
      exact run19_2 m g i hi hm d (k + 1) (eqE (g k) (f i)) (fun _ => .und) q (by omega) (by omega)

end

def lps19 (n : Nat) (f : Nat → E6) : List (Nat × Lp) := [(0, lp19 n f), (2, lp19_2 n f)]
def zs19 : List (Nat × List (Nat × V)) := [(0, [(1, eV zeroE)])]

theorem isP_le {L : Nat → (St → T (Ex × St)) → St → T (Ex × St)} (hL : LLe L L) (k : Nat) (r : Ex × St) : LLe (onP k (isP L k r) r L) (onP k (isP L k r) r L) := fun id f f' st hf r' hr => by
  unfold onP at hr ⊢
  cases hk : Nat.beq id k with
  | true =>
    rw [hk] at hr
    obtain ⟨h1, h2⟩ := sem_br_fail hr
    unfold isP at h1
    have h1 := @of_decide_eq_true _ (Classical.propDecidable _) h1
    have h3 : isP L k r f' st = true := isP_true (hL k f f' st hf _ h1)
    show sel (isP L k r f' st) _ _ = _
    rw [h3]
    exact h2
  | false =>
    rw [hk] at hr
    exact hL id f f' st hf _ hr

theorem once19 (n : Nat) (f : Nat → E6) (hn : n ≤ 128) : (finF (evalF tab (cxZ Gl tbM2 zs19 (lps19 n f)) Try.f19 [edgesV n f] [])).sem = some (.ref 0, [.row 36 6 (onceR f n).length fun i => eV (getE (onceR f n) i)]) := by
  have hL := loopsZ_le zs19 (lps19 n f)
  refine told_le (onP_le hL hL) _ (way19 _ _ n f (onceR f n).length (getE (onceR f n)) 0 (isP_true ?_))
  generalize hM : onP 0 (isP (loopsZ zs19 (lps19 n f)) 0 (en19a n f (onceR f n).length (getE (onceR f n)) 0)) (en19a n f (onceR f n).length (getE (onceR f n)) 0) (loopsZ zs19 (lps19 n f)) = M
  have hMM : LLe M M := by rw [← hM]; exact isP_le hL 0 _
  have m2 : ∀ f' st, M 2 f' st = iterT f' (lp19_2 n f) 129 st := fun f st => by rw [← hM]; rfl
  have step : ∀ (i : Nat) (j : Nat → V), i < n → ∃ j', roundT (body19 M) (lp19 n f) (st19 n f (onceR f i).length (getE (onceR f i)) i j) = some (.nm, st19 n f (onceR f (i + 1)).length (getE (onceR f (i + 1))) (i + 1) j') := by
    intro i j hi
    have hlen := onceR_len f i
    have hle : LLe (onP 2 (isP M 2 (en19_2a n f (onceR f i).length (getE (onceR f i)) i (anyE (getE (onceR f i)) (f i) (onceR f i).length 0) 0)) (en19_2a n f (onceR f i).length (getE (onceR f i)) i (anyE (getE (onceR f i)) (f i) (onceR f i).length 0) 0) M) M := onP_le hMM hMM
    have q2 := fun L => run19_2 L n f (onceR f i).length (getE (onceR f i)) i hi (by omega) (onceR f i).length 0 false (jk19_2 n f (onceR f i).length (getE (onceR f i)) i j) 129 (by omega) (by omega)
    refine ⟨fun _ => .und, roundT_le (evalC_le (Γ := ⟨callT tbM2, M, Gl⟩) hle (loopBody Try.f19 0) 0 _) ?_⟩
    cases hb : anyE (getE (onceR f i)) (f i) (onceR f i).length 0 with
    | true =>
      have q2' := fun L => q2 L
      rw [hb] at q2'
      refine (round19t _ _ n f _ _ i true j (ofNat_lt hi) rfl (isP_true (by rw [m2]; exact q2' _))).trans ?_
      rw [onceR_true hb, succ_wr hi (by omega)]
      rfl
    | false =>
      have q2' := fun L => q2 L
      rw [hb] at q2'
      refine (round19f _ _ n f _ _ i false j (ofNat_lt hi) rfl (ofNat_in hi) (decide_eq_true (by omega)) (isP_true (by rw [m2]; exact q2' _))).trans ?_
      rw [onceR_false hb, succ_wr hi (by omega), push_get]
      rfl
  have run : ∀ (d i : Nat) (j : Nat → V) (q : Nat), n = i + d → d < q → (iterT (body19 M) (lp19 n f) q (st19 n f (onceR f i).length (getE (onceR f i)) i j)).sem = some (en19a n f (onceR f n).length (getE (onceR f n)) 0) := by
    intro d
    induction d with
    | zero =>
      intro i j q h1 h2
      obtain ⟨q, rfl⟩ : ∃ q', q = q' + 1 := ⟨q - 1, by omega⟩
      have hi : i = n := by omega
      subst hi
      exact iter_round (round19a M i f _ _ i j (ofNat_ge (Nat.le_refl i)))
    | succ d ih =>
      intro i j q h1 h2
      obtain ⟨q, rfl⟩ : ∃ q', q = q' + 1 := ⟨q - 1, by omega⟩
      obtain ⟨j', hs⟩ := step i j (by omega)
      rw [iter_round hs, goOn_nm]
      exact ih (i + 1) j' q (by omega) (by omega)
  exact run n 0 (fun _ => undefV) (n + 1) (by omega) (by omega)

def onceT : List V → T (V × List Blk) := apL1 fun n f => .br (ile (Int.ofNat n) 128) (.leaf (.ref 0, [.row 36 6 (onceR f n).length fun i => eV (getE (onceR f n) i)])) .fail

theorem p19 : PureC Try.prog Gl 19 onceT := by
  refine pureC_intro tabOK mixed Try.func19 (by kernel_rfl) (by kernel_rfl) fun vs v h' h => ?_
  obtain ⟨n, f, ha, hq⟩ := apL1_some h
  obtain ⟨hn, hq⟩ := sem_br_fail hq
  have hn : (Int.ofNat n) ≤ 128 := of_decide_eq_true hn
  have := sem_leaf hq
  simp only [Prod.mk.injEq] at this
  obtain ⟨rfl, rfl⟩ := this
  have hx := cxZ_ok tbM2_ok zs19 (lps19 n f)
  exact ⟨_, cxZ Gl tbM2 zs19 (lps19 n f), _, ha, rfl, hx.1, hx.2, once19 n f (by simp at hn; omega), RowsLE.refl _⟩

end Go.Proofs.Ytdmjcpindopjdaa.Co
