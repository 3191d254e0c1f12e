/-
  Parse: the edges of a text. No conditions.
-/
import Derived.Test.YtkcbdemfmjciiaaGreatDoorCyT
import Derived.Test.YtkcbdemfmjciiaaGreatDoorCyZ
namespace Go.Proofs.YtkcbdemfmjciiaaGreatDoor.Ed
open Go.Sy Go


def blankC (c : UInt8) : Bool := c == 32 || c == 9 || c == 10 || c == 13
def blankB (x : Int) : Bool := bor (ieq x 32) (bor (ieq x 9) (bor (ieq x 10) (ieq x 13)))

theorem byte_eq (c : UInt8) (n : Nat) (hn : n < 256) : ieq ((c.toNat : Nat) : Int) (n : Int) = (c == UInt8.ofNat n) := by
  rw [Bool.eq_iff_iff]
  simp only [ieq, beq_iff_eq]
  constructor
  · intro h
    apply UInt8.toNat_inj.1
    rw [UInt8.toNat_ofNat_of_lt' (by simpa using hn)]
    omega
  · intro h
    rw [h, UInt8.toNat_ofNat_of_lt' (by simpa using hn)]

theorem blank_eq (c : UInt8) : blankB ((c.toNat : Nat) : Int) = blankC c := by
  unfold blankB blankC bor
  have h1 := byte_eq c 32 (by decide)
  have h2 := byte_eq c 9 (by decide)
  have h3 := byte_eq c 10 (by decide)
  have h4 := byte_eq c 13 (by decide)
  have h1 : ieq ((c.toNat : Nat) : Int) 32 = (c == 32) := h1
  have h2 : ieq ((c.toNat : Nat) : Int) 9 = (c == 9) := h2
  have h3 : ieq ((c.toNat : Nat) : Int) 10 = (c == 10) := h3
  have h4 : ieq ((c.toNat : Nat) : Int) 13 = (c == 13) := h4
  rw [h1, h2, h3, h4]
  cases (c == 32) <;> cases (c == 9) <;> cases (c == 10) <;> rfl

/-! ### A text's edges -/

def wordL (l : List UInt8) : List UInt8 := l.takeWhile fun c => !blankC c

/-- The edges of what is left of a text, behind those that stand: the edges, why not, where. -/
def parseL : Nat → List UInt8 → Nat → List E6 → List E6 × Int × Nat
  | 0, _, _, acc => (acc, 0, 0)
  | _ + 1, [], _, acc => (acc, 0, 0)
  | q + 1, c :: l, a, acc =>
    if blankC c = true then parseL q l (a + 1) acc
    else if parseF (wordL (c :: l)) = 0 then parseL q ((c :: l).drop (wordL (c :: l)).length) (a + (wordL (c :: l)).length) (acc ++ [parseE (wordL (c :: l))])
    else ([], 30, a)

theorem parse_blank {b : UInt8} (hb : blankC b = true) (l : List UInt8) (q a : Nat) (acc : List E6) : parseL (q + 1) (b :: l) a acc = parseL q l (a + 1) acc := by
  rw [parseL, if_pos hb]

theorem word_len (l : List UInt8) : (wordL l).length ≤ l.length := by
  induction l with
  | nil => exact Nat.le_refl _
  | cons c l ih =>
    unfold wordL at ih ⊢
    cases hc : blankC c with
    | true => rw [List.takeWhile_cons_of_neg (by simp [hc])]; exact Nat.zero_le _
    | false =>
      rw [List.takeWhile_cons_of_pos (by simp [hc])]
      simp only [List.length_cons]
      omega

theorem wc83a (L : Nat → (St → T (Ex × St)) → St → T (Ex × St)) (x : Int) (h0 : ieq x 32 = true) : (finF (evalF tab ⟨callT tb0, L, Gl⟩ Tryz.f25 [.val (.int .u8 x)] [])).sem = some ((bV Bool.true), []) := by
  exact sem_of_path (ds := [true, true, true, true, true, true, true, true, true]) (cs := [(ieq x 32), (ieq x 32), (ieq x 32), Bool.true, Bool.true, Bool.true, Bool.true, Bool.true, Bool.true]) (by kernel_rfl) (by simp only [h0] <;> rfl)

theorem wc83b (L : Nat → (St → T (Ex × St)) → St → T (Ex × St)) (x : Int) (h0 : ieq x 32 = false) (h1 : ieq x 9 = true) : (finF (evalF tab ⟨callT tb0, L, Gl⟩ Tryz.f25 [.val (.int .u8 x)] [])).sem = some ((bV Bool.true), []) := by
  exact sem_of_path (ds := [false, false, false, true, true, true, true, true, true]) (cs := [(ieq x 32), (ieq x 32), (ieq x 32), (ieq x 9), (ieq x 9), (ieq x 9), Bool.true, Bool.true, Bool.true]) (by kernel_rfl) (by simp only [h0, h1] <;> rfl)

theorem wc83c (L : Nat → (St → T (Ex × St)) → St → T (Ex × St)) (x : Int) (h0 : ieq x 32 = false) (h1 : ieq x 9 = false) (h2 : ieq x 10 = true) : (finF (evalF tab ⟨callT tb0, L, Gl⟩ Tryz.f25 [.val (.int .u8 x)] [])).sem = some ((bV Bool.true), []) := by
  exact sem_of_path (ds := [false, false, false, false, false, false, true, true, true]) (cs := [(ieq x 32), (ieq x 32), (ieq x 32), (ieq x 9), (ieq x 9), (ieq x 9), (ieq x 10), (ieq x 10), (ieq x 10)]) (by kernel_rfl) (by simp only [h0, h1, h2] <;> rfl)

theorem wc83d (L : Nat → (St → T (Ex × St)) → St → T (Ex × St)) (x : Int) (h0 : ieq x 32 = false) (h1 : ieq x 9 = false) (h2 : ieq x 10 = false) : (finF (evalF tab ⟨callT tb0, L, Gl⟩ Tryz.f25 [.val (.int .u8 x)] [])).sem = some ((bV (ieq x 13)), []) := by
  exact sem_of_path (ds := [false, false, false, false, false, false, false, false, false]) (cs := [(ieq x 32), (ieq x 32), (ieq x 32), (ieq x 9), (ieq x 9), (ieq x 9), (ieq x 10), (ieq x 10), (ieq x 10)]) (by kernel_rfl) (by simp only [h0, h1, h2] <;> rfl)

def blankT : List V → T (V × List Blk)
  | [.val (.int .u8 x)] => out (bV (blankB x))
  | _ => .fail

theorem p83 : PureC Tryz.prog Gl 25 blankT := by
  refine pureC_intro tabOK mixed Tryz.func25 (by kernel_rfl) (by kernel_rfl) fun vs v h' h => ?_
  unfold blankT at h
  split at h
  · rename_i x
    have := sem_leaf h
    simp only [Prod.mk.injEq] at this
    obtain ⟨rfl, rfl⟩ := this
    have hx := cx_ok tb0_ok []
    refine ⟨_, cxOf Gl tb0 [], _, ArgLE.refl _, rfl, hx.1, hx.2, ?_, RowsLE.refl _⟩
    unfold blankB
    cases c1 : ieq x 32 with
    | true => exact wc83a _ x c1
    | false =>
      cases c2 : ieq x 9 with
      | true => exact wc83b _ x c1 c2
      | false =>
        cases c3 : ieq x 10 with
        | true => exact wc83c _ x c1 c2 c3
        | false => exact wc83d _ x c1 c2 c3
  · cases h

noncomputable def tb40 : List (Nat × (List V → T (V × List Blk))) := (25, blankT) :: (26, textT parseP) :: []
theorem tb40_ok : AllPure Tryz.prog Gl tb40 := .cons p83 <| .cons p21 .nil

def en40f (s : List UInt8) (a k : Nat) (x : Nat → V) (p : E6) : Ex × St := (.rt, ⟨[.und, .und, .ref 3, iV 30, iV (Int.ofNat a), .ref 1, .und, .und, .und, .und, .und, .und, .und, .und, .und, .und, .und, .und, .und, .und, .und, .und, .und, .und, .und, .und, .und, .und, .und, .und, .und, .und, .und, .und, .und, .und, .und, .und, .und, .und, .und, .und, .und, .und, .und, .und, .und, .und, .und, .und, .und, .und, .und, .und], [.row 38 6 0 (fun _ => .und), .row 38 6 k x, .cells [iV p.kind, bV p.ext, bV p.same, iV p.src, iV p.dst, iV p.fence], .row 38 6 0 (fun _ => .und)]⟩)
def lp40_2 (s : List UInt8) : Lp := ⟨[true, false, true, true, true, true, true, true, false, false, false, false, false, false, false, false, false, false, false, false, false, false, false, false, false, false, false, false, false, false, false, false, false, false, false, false, false, false, false, false, false, false, false, false, false, false, false, false, false, false, false, false, false, false], 2, [true, false, true, true, true, true, true, true, false, false, false, false, false, false, false, false, false, false, false, false, false, false, false, false, false, false, false, false, false, false, false, false, false, false, false, false, false, false, false, false, false, false, false, false, false, false, false, false, false, false, false, false, false, false], 2, slen s + 1⟩
def st40_2 (s : List UInt8) (a k : Nat) (x : Nat → V) (e : Nat) (j : Nat → V) : St := ⟨[.str s, j 1, .ref 0, iV 0, iV 0, .ref 1, iV (Int.ofNat a), iV (Int.ofNat e), j 8, j 9, j 10, j 11, j 12, j 13, j 14, j 15, j 16, j 17, j 18, j 19, j 20, j 21, j 22, j 23, j 24, j 25, j 26, j 27, j 28, j 29, j 30, j 31, j 32, j 33, j 34, j 35, j 36, j 37, j 38, j 39, j 40, j 41, j 42, j 43, j 44, j 45, j 46, j 47, j 48, j 49, j 50, j 51, j 52, j 53], [.row 38 6 0 (fun _ => .und), .row 38 6 k x]⟩
def en40_2e (s : List UInt8) (a k : Nat) (x : Nat → V) (e : Nat) : Ex × St := (.ex 2, ⟨[.str s, .und, .ref 0, iV 0, iV 0, .ref 1, iV (Int.ofNat a), iV (Int.ofNat e), .und, .und, .und, .und, .und, .und, .und, .und, .und, .und, .und, .und, .und, .und, .und, .und, .und, .und, .und, .und, .und, .und, .und, .und, .und, .und, .und, .und, .und, .und, .und, .und, .und, .und, .und, .und, .und, .und, .und, .und, .und, .und, .und, .und, .und, .und], [.row 38 6 0 (fun _ => .und), .row 38 6 k x]⟩)
noncomputable def body40_2 (L : Nat → (St → T (Ex × St)) → St → T (Ex × St)) : St → T (Ex × St) := fun st => evalC tab ⟨callT tb40, L, Gl⟩ (loopBody Tryz.f14 2) 2 st
theorem ri40e (L : Nat → (St → T (Ex × St)) → St → T (Ex × St)) (s : List UInt8) (a k : Nat) (x : Nat → V) (e : Nat)  (j : Nat → V) (h0 : ilt (Int.ofNat e) (Int.ofNat (slen s)) = false) : ((body40_2 L (st40_2 s a k x e j)).bind fun r => T.leaf (cutR (lp40_2 s) r)).sem = some ((.ex 2), ⟨[(.str s), .und, (.ref 0), (iV 0), (iV 0), (.ref 1), (iV (Int.ofNat a)), (iV (Int.ofNat e)), .und, .und, .und, .und, .und, .und, .und, .und, .und, .und, .und, .und, .und, .und, .und, .und, .und, .und, .und, .und, .und, .und, .und, .und, .und, .und, .und, .und, .und, .und, .und, .und, .und, .und, .und, .und, .und, .und, .und, .und, .und, .und, .und, .und, .und, .und], [(.row 38 6 0 (fun _ => .und)), (.row 38 6 k x)]⟩) := by
  exact sem_of_path (ds := [false, false, false, false, false, false, false]) (cs := [(ilt (Int.ofNat e) (Int.ofNat (slen s))), (ilt (Int.ofNat e) (Int.ofNat (slen s))), (ilt (Int.ofNat e) (Int.ofNat (slen s))), (ilt (Int.ofNat e) (Int.ofNat (slen s))), (ilt (Int.ofNat e) (Int.ofNat (slen s))), (ilt (Int.ofNat e) (Int.ofNat (slen s))), Bool.false]) (by kernel_rfl) (by simp only [h0] <;> rfl)
theorem ri40b (L : Nat → (St → T (Ex × St)) → St → T (Ex × St)) (s : List UInt8) (a k : Nat) (x : Nat → V) (e : Nat)  (j : Nat → V) (h0 : ilt (Int.ofNat e) (Int.ofNat (slen s)) = true) (h1 : band (ile 0 (Int.ofNat e)) (ilt (Int.ofNat e) (Int.ofNat (slen s))) = true) (h2 : blankB (sget s e) = true) : ((body40_2 L (st40_2 s a k x e j)).bind fun r => T.leaf (cutR (lp40_2 s) r)).sem = some ((.ex 2), ⟨[(.str s), .und, (.ref 0), (iV 0), (iV 0), (.ref 1), (iV (Int.ofNat a)), (iV (Int.ofNat e)), .und, .und, .und, .und, .und, .und, .und, .und, .und, .und, .und, .und, .und, .und, .und, .und, .und, .und, .und, .und, .und, .und, .und, .und, .und, .und, .und, .und, .und, .und, .und, .und, .und, .und, .und, .und, .und, .und, .und, .und, .und, .und, .und, .und, .und, .und], [(.row 38 6 0 (fun _ => .und)), (.row 38 6 k x)]⟩) := by
  exact sem_of_path (ds := [true, true, true, true, true, true, true, false]) (cs := [(ilt (Int.ofNat e) (Int.ofNat (slen s))), (ilt (Int.ofNat e) (Int.ofNat (slen s))), (ilt (Int.ofNat e) (Int.ofNat (slen s))), (band (ile 0 (Int.ofNat e)) (ilt (Int.ofNat e) (Int.ofNat (slen s)))), (ilt (Int.ofNat e) (Int.ofNat (slen s))), (ilt (Int.ofNat e) (Int.ofNat (slen s))), (ilt (Int.ofNat e) (Int.ofNat (slen s))), (bnot (blankB (sget s e)))]) (by kernel_rfl) (by simp only [h1] <;> simp only [h0, h2] <;> rfl)
theorem ri40n (L : Nat → (St → T (Ex × St)) → St → T (Ex × St)) (s : List UInt8) (a k : Nat) (x : Nat → V) (e : Nat)  (j : Nat → V) (h0 : ilt (Int.ofNat e) (Int.ofNat (slen s)) = true) (h1 : band (ile 0 (Int.ofNat e)) (ilt (Int.ofNat e) (Int.ofNat (slen s))) = true) (h2 : blankB (sget s e) = false) : ((body40_2 L (st40_2 s a k x e j)).bind fun r => T.leaf (cutR (lp40_2 s) r)).sem = some (.nm, ⟨[(.str s), .und, (.ref 0), (iV 0), (iV 0), (.ref 1), (iV (Int.ofNat a)), (iV (wr IntKind.i64 (iadd (Int.ofNat e) 1))), .und, .und, .und, .und, .und, .und, .und, .und, .und, .und, .und, .und, .und, .und, .und, .und, .und, .und, .und, .und, .und, .und, .und, .und, .und, .und, .und, .und, .und, .und, .und, .und, .und, .und, .und, .und, .und, .und, .und, .und, .und, .und, .und, .und, .und, .und], [(.row 38 6 0 (fun _ => .und)), (.row 38 6 k x)]⟩) := by
  exact sem_of_path (ds := [true, true, true, true, true, true, true, true]) (cs := [(ilt (Int.ofNat e) (Int.ofNat (slen s))), (ilt (Int.ofNat e) (Int.ofNat (slen s))), (ilt (Int.ofNat e) (Int.ofNat (slen s))), (band (ile 0 (Int.ofNat e)) (ilt (Int.ofNat e) (Int.ofNat (slen s)))), (ilt (Int.ofNat e) (Int.ofNat (slen s))), (ilt (Int.ofNat e) (Int.ofNat (slen s))), (ilt (Int.ofNat e) (Int.ofNat (slen s))), (bnot (blankB (sget s e)))]) (by kernel_rfl) (by simp only [h1] <;> simp only [h0, h2] <;> rfl)

def lp40 (s : List UInt8) : Lp := ⟨[true, false, true, true, true, true, true, false, false, false, false, false, false, false, false, false, false, false, false, false, false, false, false, false, false, false, false, false, false, false, false, false, false, false, false, false, false, false, false, false, false, false, false, false, false, false, false, false, false, false, false, false, false, false], 2, [false, false, true, true, true, true, false, false, false, false, false, false, false, false, false, false, false, false, false, false, false, false, false, false, false, false, false, false, false, false, false, false, false, false, false, false, false, false, false, false, false, false, false, false, false, false, false, false, false, false, false, false, false, false], 4, slen s + 1⟩
def st40 (s : List UInt8) (a k : Nat) (x : Nat → V) (j : Nat → V) : St := ⟨[.str s, j 1, .ref 0, iV 0, iV 0, .ref 1, iV (Int.ofNat a), j 7, j 8, j 9, j 10, j 11, j 12, j 13, j 14, j 15, j 16, j 17, j 18, j 19, j 20, j 21, j 22, j 23, j 24, j 25, j 26, j 27, j 28, j 29, j 30, j 31, j 32, j 33, j 34, j 35, j 36, j 37, j 38, j 39, j 40, j 41, j 42, j 43, j 44, j 45, j 46, j 47, j 48, j 49, j 50, j 51, j 52, j 53], [.row 38 6 0 (fun _ => .und), .row 38 6 k x]⟩
def en40e (s : List UInt8) (a k : Nat) (x : Nat → V) : Ex × St := (.ex 0, ⟨[.und, .und, .ref 0, iV 0, iV 0, .ref 1, .und, .und, .und, .und, .und, .und, .und, .und, .und, .und, .und, .und, .und, .und, .und, .und, .und, .und, .und, .und, .und, .und, .und, .und, .und, .und, .und, .und, .und, .und, .und, .und, .und, .und, .und, .und, .und, .und, .und, .und, .und, .und, .und, .und, .und, .und, .und, .und], [.row 38 6 0 (fun _ => .und), .row 38 6 k x]⟩)
noncomputable def body40 (L : Nat → (St → T (Ex × St)) → St → T (Ex × St)) : St → T (Ex × St) := fun st => evalC tab ⟨callT tb40, L, Gl⟩ (loopBody Tryz.f14 0) 0 st
theorem ro40e (L : Nat → (St → T (Ex × St)) → St → T (Ex × St)) (s : List UInt8) (a k : Nat) (x : Nat → V)  (j : Nat → V) (h0 : ilt (Int.ofNat a) (Int.ofNat (slen s)) = false) : ((body40 L (st40 s a k x j)).bind fun r => T.leaf (cutR (lp40 s) r)).sem = some ((.ex 0), ⟨[.und, .und, (.ref 0), (iV 0), (iV 0), (.ref 1), .und, .und, .und, .und, .und, .und, .und, .und, .und, .und, .und, .und, .und, .und, .und, .und, .und, .und, .und, .und, .und, .und, .und, .und, .und, .und, .und, .und, .und, .und, .und, .und, .und, .und, .und, .und, .und, .und, .und, .und, .und, .und, .und, .und, .und, .und, .und, .und], [(.row 38 6 0 (fun _ => .und)), (.row 38 6 k x)]⟩) := by
  exact sem_of_path (ds := [false]) (cs := [(ilt (Int.ofNat a) (Int.ofNat (slen s)))]) (by kernel_rfl) (by simp only [h0] <;> rfl)
theorem ro40b (L : Nat → (St → T (Ex × St)) → St → T (Ex × St)) (s : List UInt8) (a k : Nat) (x : Nat → V)  (j : Nat → V) (h0 : ilt (Int.ofNat a) (Int.ofNat (slen s)) = true) (h1 : band (ile 0 (Int.ofNat a)) (ilt (Int.ofNat a) (Int.ofNat (slen s))) = true) (h2 : blankB (sget s a) = true) : ((body40 L (st40 s a k x j)).bind fun r => T.leaf (cutR (lp40 s) r)).sem = some (.nm, ⟨[(.str s), .und, (.ref 0), (iV 0), (iV 0), (.ref 1), (iV (wr IntKind.i64 (iadd (Int.ofNat a) 1))), .und, .und, .und, .und, .und, .und, .und, .und, .und, .und, .und, .und, .und, .und, .und, .und, .und, .und, .und, .und, .und, .und, .und, .und, .und, .und, .und, .und, .und, .und, .und, .und, .und, .und, .und, .und, .und, .und, .und, .und, .und, .und, .und, .und, .und, .und, .und], [(.row 38 6 0 (fun _ => .und)), (.row 38 6 k x)]⟩) := by
  exact sem_of_path (ds := [true, true, true]) (cs := [(ilt (Int.ofNat a) (Int.ofNat (slen s))), (band (ile 0 (Int.ofNat a)) (ilt (Int.ofNat a) (Int.ofNat (slen s)))), (blankB (sget s a))]) (by kernel_rfl) (by simp only [h1] <;> simp only [h0, h2] <;> rfl)

def ent40_2 (s : List UInt8) (a k : Nat) (x : Nat → V) (j : Nat → V) : St := ⟨[(.str s), (j 1), (.ref 0), (iV 0), (iV 0), (.ref 1), (iV (Int.ofNat a)), (iV (Int.ofNat a)), (j 8), (j 9), (j 10), (j 11), (j 12), (iV (Int.ofNat a)), (.str s), (iV (Int.ofNat (slen s))), (bV (ilt (Int.ofNat a) (Int.ofNat (slen s)))), (.str s), (iV (Int.ofNat a)), (.val (Value.int IntKind.u8 (sget s a))), (bV (blankB (sget s a))), (j 21), (j 22), (iV (Int.ofNat a)), (j 24), (j 25), (j 26), (j 27), (j 28), (j 29), (j 30), (j 31), (j 32), (j 33), (j 34), (j 35), (j 36), (j 37), (j 38), (j 39), (j 40), (j 41), (j 42), (j 43), (j 44), (j 45), (j 46), (j 47), (j 48), (j 49), (j 50), (j 51), (j 52), (j 53)], [(.row 38 6 0 (fun _ => .und)), (.row 38 6 k x)]⟩

theorem ro40w (L : Nat → (St → T (Ex × St)) → St → T (Ex × St)) (p2 : (St → T (Ex × St)) → St → Bool) (s : List UInt8) (a k : Nat) (x : Nat → V) (e : Nat) (j : Nat → V) (h0 : ilt (Int.ofNat a) (Int.ofNat (slen s)) = true) (h1 : band (ile 0 (Int.ofNat a)) (ilt (Int.ofNat a) (Int.ofNat (slen s))) = true) (h2 : blankB (sget s a) = false) (h3 : band (ile 0 (Int.ofNat a)) (band (ile (Int.ofNat a) (Int.ofNat e)) (ile (Int.ofNat e) (Int.ofNat (slen s)))) = true) (h4 : ieq (parseF (sdrop a (stake e s))) 0 = true) (h5 : apOK k 1 40 = true) (hp2 : p2 (body40_2 (onP 2 p2 (en40_2e s a k x e) L)) (ent40_2 s a k x j) = true) : ((body40 (onP 2 p2 (en40_2e s a k x e) L) (st40 s a k x j)).bind fun r => T.leaf (cutR (lp40 s) r)).sem = some (.nm, ⟨[(.str s), .und, (.ref 0), (iV 0), (iV 0), (.ref 1), (iV (Int.ofNat e)), .und, .und, .und, .und, .und, .und, .und, .und, .und, .und, .und, .und, .und, .und, .und, .und, .und, .und, .und, .und, .und, .und, .und, .und, .und, .und, .und, .und, .und, .und, .und, .und, .und, .und, .und, .und, .und, .und, .und, .und, .und, .und, .und, .und, .und, .und, .und], [(.row 38 6 0 (fun _ => .und)), (.row 38 6 (nadd k 1) (pushGet k x (eV (parseE (sdrop a (stake e s))))))]⟩) := by
  exact sem_of_path (ds := [true, true, false, true, true, false, true]) (cs := [(ilt (Int.ofNat a) (Int.ofNat (slen s))), (band (ile 0 (Int.ofNat a)) (ilt (Int.ofNat a) (Int.ofNat (slen s)))), (blankB (sget s a)), (p2 (body40_2 (onP 2 p2 (en40_2e s a k x e) L)) (ent40_2 s a k x j)), (band (ile 0 (Int.ofNat a)) (band (ile (Int.ofNat a) (Int.ofNat e)) (ile (Int.ofNat e) (Int.ofNat (slen s))))), (bnot (ieq (parseF (sdrop a (stake e s))) 0)), (apOK k 1 40)]) (by kernel_rfl) (by simp only [hp2] <;> simp only [h1, h3] <;> simp only [h0, h2, h4, h5] <;> rfl)

theorem ro40f (L : Nat → (St → T (Ex × St)) → St → T (Ex × St)) (p2 : (St → T (Ex × St)) → St → Bool) (s : List UInt8) (a k : Nat) (x : Nat → V) (e : Nat) (j : Nat → V) (h0 : ilt (Int.ofNat a) (Int.ofNat (slen s)) = true) (h1 : band (ile 0 (Int.ofNat a)) (ilt (Int.ofNat a) (Int.ofNat (slen s))) = true) (h2 : blankB (sget s a) = false) (h3 : band (ile 0 (Int.ofNat a)) (band (ile (Int.ofNat a) (Int.ofNat e)) (ile (Int.ofNat e) (Int.ofNat (slen s)))) = true) (h4 : ieq (parseF (sdrop a (stake e s))) 0 = false) (hp2 : p2 (body40_2 (onP 2 p2 (en40_2e s a k x e) L)) (ent40_2 s a k x j) = true) : ((body40 (onP 2 p2 (en40_2e s a k x e) L) (st40 s a k x j)).bind fun r => T.leaf (cutR (lp40 s) r)).sem = some (.rt, ⟨[.und, .und, (.ref 3), (iV 30), (iV (Int.ofNat a)), (.ref 1), .und, .und, .und, .und, .und, .und, .und, .und, .und, .und, .und, .und, .und, .und, .und, .und, .und, .und, .und, .und, .und, .und, .und, .und, .und, .und, .und, .und, .und, .und, .und, .und, .und, .und, .und, .und, .und, .und, .und, .und, .und, .und, .und, .und, .und, .und, .und, .und], [(.row 38 6 0 (fun _ => .und)), (.row 38 6 k x), (.cells [(iV ((parseE (sdrop a (stake e s)))).kind), (bV ((parseE (sdrop a (stake e s)))).ext), (bV ((parseE (sdrop a (stake e s)))).same), (iV ((parseE (sdrop a (stake e s)))).src), (iV ((parseE (sdrop a (stake e s)))).dst), (iV ((parseE (sdrop a (stake e s)))).fence)]), (.row 38 6 0 (fun _ => .und))]⟩) := by
  exact sem_of_path (ds := [true, true, false, true, true, true]) (cs := [(ilt (Int.ofNat a) (Int.ofNat (slen s))), (band (ile 0 (Int.ofNat a)) (ilt (Int.ofNat a) (Int.ofNat (slen s)))), (blankB (sget s a)), (p2 (body40_2 (onP 2 p2 (en40_2e s a k x e) L)) (ent40_2 s a k x j)), (band (ile 0 (Int.ofNat a)) (band (ile (Int.ofNat a) (Int.ofNat e)) (ile (Int.ofNat e) (Int.ofNat (slen s))))), (bnot (ieq (parseF (sdrop a (stake e s))) 0))]) (by kernel_rfl) (by simp only [hp2] <;> simp only [h1, h3] <;> simp only [h0, h2, h4] <;> rfl)

def ent40 (s : List UInt8)  : St := ⟨[(.str s), undefV, (.ref 0), (iV 0), (iV 0), (.ref 1), (iV 0), undefV, undefV, undefV, (.str s), (iV (Int.ofNat (slen s))), (bV (ilt 262144 (Int.ofNat (slen s)))), undefV, undefV, undefV, undefV, undefV, undefV, undefV, undefV, undefV, undefV, undefV, undefV, undefV, undefV, undefV, undefV, undefV, undefV, undefV, undefV, undefV, undefV, undefV, undefV, undefV, undefV, undefV, undefV, undefV, undefV, undefV, undefV, undefV, undefV, undefV, undefV, undefV, undefV, undefV, undefV, undefV], [(.row 38 6 0 (fun _ => .und)), (.row 38 6 0 (fun _ => .und))]⟩

theorem wc40g (L : Nat → (St → T (Ex × St)) → St → T (Ex × St)) (s : List UInt8) (h0 : ilt 262144 (Int.ofNat (slen s)) = true) : (finF (evalF tab ⟨callT tb40, L, Gl⟩ Tryz.f14 [.str s] [])).sem = some ((.tup [(.ref 0), (iV 2), (iV 0)]), [(.row 38 6 0 (fun _ => .und))]) := by
  exact sem_of_path (ds := [true]) (cs := [(ilt 262144 (Int.ofNat (slen s)))]) (by kernel_rfl) (by simp only [h0] <;> rfl)

theorem wc40z (L : Nat → (St → T (Ex × St)) → St → T (Ex × St)) (p0 : (St → T (Ex × St)) → St → Bool) (s : List UInt8) (a k : Nat) (x : Nat → V) (h0 : ilt 262144 (Int.ofNat (slen s)) = false) (hp0 : p0 (body40 (onP 0 p0 (en40e s a k x) L)) (ent40 s) = true) : (finF (evalF tab ⟨callT tb40, (onP 0 p0 (en40e s a k x) L), Gl⟩ Tryz.f14 [.str s] [])).sem = some ((.tup [(.ref 0), (iV 0), (iV 0)]), [(.row 38 6 k x)]) := by
  exact sem_of_path (ds := [false, true]) (cs := [(ilt 262144 (Int.ofNat (slen s))), (p0 (body40 (onP 0 p0 (en40e s a k x) L)) (ent40 s))]) (by kernel_rfl) (by simp only [hp0] <;> simp only [h0] <;> rfl)

theorem wc40f (L : Nat → (St → T (Ex × St)) → St → T (Ex × St)) (p0 : (St → T (Ex × St)) → St → Bool) (s : List UInt8) (a k : Nat) (x : Nat → V) (p : E6) (h0 : ilt 262144 (Int.ofNat (slen s)) = false) (hp0 : p0 (body40 (onP 0 p0 (en40f s a k x p) L)) (ent40 s) = true) : (finF (evalF tab ⟨callT tb40, (onP 0 p0 (en40f s a k x p) L), Gl⟩ Tryz.f14 [.str s] [])).sem = some ((.tup [(.ref 0), (iV 30), (iV (Int.ofNat a))]), [(.row 38 6 0 (fun _ => .und))]) := by
  exact sem_of_path (ds := [false, true]) (cs := [(ilt 262144 (Int.ofNat (slen s))), (p0 (body40 (onP 0 p0 (en40f s a k x p) L)) (ent40 s))]) (by kernel_rfl) (by simp only [hp0] <;> simp only [h0] <;> rfl)

theorem getD_lt {α : Type} {l : List α} {i : Nat} {d : α} (h : i < l.length) : l.getD i d = l[i] := by simp [List.getD, h]

theorem drop_cons {s : List UInt8} {a : Nat} (h : a < s.length) : s.drop a = s[a] :: s.drop (a + 1) := List.drop_eq_getElem_cons h
theorem sget_at {s : List UInt8} {a : Nat} (h : a < s.length) : blankB (sget s a) = blankC s[a] := by
  unfold sget
  rw [getD_lt h]
  exact blank_eq _

theorem run40i (L : Nat → (St → T (Ex × St)) → St → T (Ex × St)) (s : List UInt8) (hs : s.length ≤ 262144) (a k : Nat) (x : Nat → V) : ∀ (q e : Nat) (j : Nat → V), s.length - e < q →
    (iterT (body40_2 L) (lp40_2 s) q (st40_2 s a k x e j)).sem = some (en40_2e s a k x (e + (wordL (s.drop e)).length))
  | 0, e, j, h => absurd h (Nat.not_lt_zero _)
  | q + 1, e, j, h => by
    have hsl : slen s = s.length := rfl
    rcases Nat.lt_or_ge e s.length with he | he
    · have c0 : ilt (Int.ofNat e) (Int.ofNat (slen s)) = true := ofNat_lt he
      have c1 : band (ile 0 (Int.ofNat e)) (ilt (Int.ofNat e) (Int.ofNat (slen s))) = true := ofNat_in he
      rw [drop_cons he]
      cases hb : blankC s[e] with
      | true =>
        rw [show wordL (s[e] :: s.drop (e + 1)) = [] by unfold wordL; rw [List.takeWhile_cons_of_neg (by simp [hb])]]
        exact iter_round (ri40b L s a k x e j c0 c1 (by rw [sget_at he]; exact hb))
      | false =>
        rw [iter_round (ri40n L s a k x e j c0 c1 (by rw [sget_at he]; exact hb)), goOn_nm, succ_wr (n := s.length) he (by omega)]
        have := run40i L s hs a k x q (e + 1) (fun _ => .und) (by omega)
        rw [show wordL (s[e] :: s.drop (e + 1)) = s[e] :: wordL (s.drop (e + 1)) by unfold wordL; rw [List.takeWhile_cons_of_pos (by simp [hb])], List.length_cons, show e + ((wordL (s.drop (e + 1))).length + 1) = e + 1 + (wordL (s.drop (e + 1))).length by omega]
        exact this
    · rw [List.drop_eq_nil_of_le he]
      exact iter_round (ri40e L s a k x e j (ofNat_ge he))

def getE (l : List E6) (i : Nat) : E6 := l.getD i zeroE

theorem getE_app {l : List E6} {e : E6} {i : Nat} (h : i < l.length + 1) : getE (l ++ [e]) i = if i = l.length then e else getE l i := by
  unfold getE
  by_cases hi : i = l.length
  · rw [if_pos hi, hi]; simp
  · rw [if_neg hi]
    simp only [List.getD, List.getElem?_append_left (show i < l.length by omega)]

theorem ent40_2_eq (s : List UInt8) (a k : Nat) (x : Nat → V) (j : Nat → V) : ent40_2 s a k x j = st40_2 s a k x a (fun i => nth (ent40_2 s a k x j).t i) := by kernel_rfl

def rowX (acc : List E6) : Nat → V := pushN (fun i => eV (getE acc i)) acc.length
theorem pushN_congr {g g' : Nat → V} : ∀ n, (∀ i, i < n → g i = g' i) → pushN g n = pushN g' n
  | 0, _ => rfl
  | n + 1, h => by
    show pushGet n (pushN g n) (g n) = pushGet n (pushN g' n) (g' n)
    rw [h n (Nat.lt_succ_self n), pushN_congr n fun i hi => h i (by omega)]
theorem rowX_push (acc : List E6) (e : E6) : pushGet acc.length (rowX acc) (eV e) = rowX (acc ++ [e]) := by
  have h1 : rowX (acc ++ [e]) = pushN (fun i => eV (getE (acc ++ [e]) i)) (acc.length + 1) := by
    unfold rowX
    rw [List.length_append]
    rfl
  rw [h1]
  show _ = pushGet acc.length (pushN (fun i => eV (getE (acc ++ [e]) i)) acc.length) (eV (getE (acc ++ [e]) acc.length))
  rw [getE_app (Nat.lt_succ_self _), if_pos rfl]
  unfold rowX
  rw [pushN_congr (g := fun i => eV (getE (acc ++ [e]) i)) (g' := fun i => eV (getE acc i)) acc.length fun i hi => by
    show eV (getE (acc ++ [e]) i) = eV (getE acc i)
    rw [getE_app (by omega), if_neg (by omega)]]

def errL : Nat → List UInt8 → List E6 → List E6 × E6
  | 0, _, acc => (acc, zeroE)
  | _ + 1, [], acc => (acc, zeroE)
  | q + 1, c :: l, acc =>
    if blankC c = true then errL q l acc
    else if parseF (wordL (c :: l)) = 0 then errL q ((c :: l).drop (wordL (c :: l)).length) (acc ++ [parseE (wordL (c :: l))])
    else (acc, parseE (wordL (c :: l)))

theorem run40 (M : Nat → (St → T (Ex × St)) → St → T (Ex × St)) (hMM : LLe M M) (s : List UInt8) (hs : s.length ≤ 262144) (m2 : ∀ f st, M 2 f st = iterT f (lp40_2 s) (slen s + 1) st) : ∀ (q a : Nat) (acc : List E6) (j : Nat → V), s.length - a < q → a ≤ s.length → acc.length ≤ a →
    ((parseL q (s.drop a) a acc).2.1 = 0 ∧ (iterT (body40 M) (lp40 s) q (st40 s a acc.length (rowX acc) j)).sem = some (en40e s 0 (parseL q (s.drop a) a acc).1.length (rowX (parseL q (s.drop a) a acc).1))) ∨
    ((parseL q (s.drop a) a acc).2.1 = 30 ∧ (parseL q (s.drop a) a acc).1 = [] ∧ (iterT (body40 M) (lp40 s) q (st40 s a acc.length (rowX acc) j)).sem = some (en40f s (parseL q (s.drop a) a acc).2.2 (errL q (s.drop a) acc).1.length (rowX (errL q (s.drop a) acc).1) (errL q (s.drop a) acc).2))
  | 0, a, acc, j, h, _, _ => absurd h (Nat.not_lt_zero _)
  | q + 1, a, acc, j, h, ha, hk => by
    have hsl : slen s = s.length := rfl
    rcases Nat.lt_or_ge a s.length with he | he
    · have c0 : ilt (Int.ofNat a) (Int.ofNat (slen s)) = true := ofNat_lt he
      have c1 : band (ile 0 (Int.ofNat a)) (ilt (Int.ofNat a) (Int.ofNat (slen s))) = true := ofNat_in he
      cases hb : blankC s[a] with
      | true =>
        have e1 : parseL (q + 1) (s.drop a) a acc = parseL q (s.drop (a + 1)) (a + 1) acc := by rw [drop_cons he, parse_blank hb]
        have e2 : errL (q + 1) (s.drop a) acc = errL q (s.drop (a + 1)) acc := by rw [drop_cons he, errL, if_pos hb]
        rw [e1, e2, iter_round (ro40b M s a acc.length (rowX acc) j c0 c1 (by rw [sget_at he]; exact hb)), goOn_nm, succ_wr (n := s.length) he (by omega)]
        exact run40 M hMM s hs m2 q (a + 1) acc (fun _ => .und) (by omega) (by omega) (by omega)
      | false =>
        have c2 : blankB (sget s a) = false := by rw [sget_at he]; exact hb
        have hw0 : 0 < (wordL (s.drop a)).length := by
          rw [drop_cons he]
          unfold wordL
          rw [List.takeWhile_cons_of_pos (by simp [hb])]
          exact Nat.succ_pos _
        have hwl := word_len (s.drop a)
        rw [List.length_drop] at hwl
        have hi : ∀ M', (M 2 (body40_2 M') (ent40_2 s a acc.length (rowX acc) j)).sem = some (en40_2e s a acc.length (rowX acc) (a + (wordL (s.drop a)).length)) := fun M' => by
          rw [m2, ent40_2_eq]
          exact run40i M' s hs a acc.length (rowX acc) (slen s + 1) a _ (by omega)
        have hsub : sdrop a (stake (a + (wordL (s.drop a)).length) s) = wordL (s.drop a) := by
          show (s.take (a + (wordL (s.drop a)).length)).drop a = _
          rw [List.drop_take, show a + (wordL (s.drop a)).length - a = (wordL (s.drop a)).length by omega]
          exact (List.prefix_iff_eq_take.1 (List.takeWhile_prefix _)).symm
        have c3 : band (ile 0 (Int.ofNat a)) (band (ile (Int.ofNat a) (Int.ofNat (a + (wordL (s.drop a)).length))) (ile (Int.ofNat (a + (wordL (s.drop a)).length)) (Int.ofNat (slen s)))) = true := by
          rw [ofNat_0, ile_nat, ile_nat, decide_eq_true (by omega), decide_eq_true (by omega)]
          rfl
        have e0 : parseL (q + 1) (s.drop a) a acc = if parseF (wordL (s.drop a)) = 0 then parseL q ((s.drop a).drop (wordL (s.drop a)).length) (a + (wordL (s.drop a)).length) (acc ++ [parseE (wordL (s.drop a))]) else ([], 30, a) := by
          rw [drop_cons he, parseL, if_neg (by rw [hb]; decide)]
        have e5 : errL (q + 1) (s.drop a) acc = if parseF (wordL (s.drop a)) = 0 then errL q ((s.drop a).drop (wordL (s.drop a)).length) (acc ++ [parseE (wordL (s.drop a))]) else (acc, parseE (wordL (s.drop a))) := by
          rw [drop_cons he, errL, if_neg (by rw [hb]; decide)]
        by_cases hp : parseF (wordL (s.drop a)) = 0
        · have c4 : ieq (parseF (sdrop a (stake (a + (wordL (s.drop a)).length) s))) 0 = true := by rw [hsub, hp]; rfl
          have h9 : (acc.length + 1) * 40 ≤ 140737488355328 := by omega
          have h3 := ro40w M _ s a acc.length (rowX acc) (a + (wordL (s.drop a)).length) j c0 c1 c2 c3 c4 (decide_eq_true h9) (isP_true (hi _))
          have h4 : roundT (body40 M) (lp40 s) (st40 s a acc.length (rowX acc) j) = _ := roundT_le (l := lp40 s) (evalC_le (Γ := ⟨callT tb40, M, Gl⟩) (onP_le hMM hMM) (loopBody Tryz.f14 0) 0 (st40 s a acc.length (rowX acc) j)) h3
          rw [if_pos hp, List.drop_drop] at e0 e5
          rw [e0, e5, iter_round h4, goOn_nm, hsub, rowX_push]
          have ih := run40 M hMM s hs m2 q (a + (wordL (s.drop a)).length) (acc ++ [parseE (wordL (s.drop a))]) (fun _ => .und) (by omega) (by omega) (by rw [List.length_append]; simp only [List.length_cons, List.length_nil]; omega)
          rw [show (acc ++ [parseE (wordL (s.drop a))]).length = acc.length + 1 from List.length_append] at ih
          exact ih
        · have c4 : ieq (parseF (sdrop a (stake (a + (wordL (s.drop a)).length) s))) 0 = false := by rw [hsub]; simp [ieq, hp]
          have h3 := ro40f M _ s a acc.length (rowX acc) (a + (wordL (s.drop a)).length) j c0 c1 c2 c3 c4 (isP_true (hi _))
          have h4 : roundT (body40 M) (lp40 s) (st40 s a acc.length (rowX acc) j) = _ := roundT_le (l := lp40 s) (evalC_le (Γ := ⟨callT tb40, M, Gl⟩) (onP_le hMM hMM) (loopBody Tryz.f14 0) 0 (st40 s a acc.length (rowX acc) j)) h3
          rw [if_neg hp] at e0 e5
          rw [e0, e5]
          refine .inr ⟨rfl, rfl, ?_⟩
          rw [iter_round h4, hsub]
          rfl
    · rw [List.drop_eq_nil_of_le he]
      exact .inl ⟨rfl, iter_round (ro40e M s a acc.length (rowX acc) j (ofNat_ge he))⟩

def bigS (s : List UInt8) : Bool := ilt 262144 (Int.ofNat (slen s))
def psR (s : List UInt8) : List E6 × Int × Nat := parseL (s.length + 1) s 0 []
def psL (s : List UInt8) : List E6 := bif bigS s then [] else (psR s).1
def psE (s : List UInt8) : Int := bif bigS s then 2 else (psR s).2.1
def psI (s : List UInt8) : Int := bif bigS s then 0 else Int.ofNat (psR s).2.2
def psN (s : List UInt8) : Nat := (psL s).length
def psG (s : List UInt8) (i : Nat) : E6 := getE (psL s) i
def psT : List V → T (V × List Blk)
  | [.str s] => .leaf (.tup [.ref 0, iV (psE s), iV (psI s)], [.row 38 6 (psN s) fun i => eV (psG s i)])
  | _ => .fail

theorem parse_at : ∀ (q : Nat) (l : List UInt8) (a : Nat) (acc : List E6), (parseL q l a acc).2.1 = 0 → (parseL q l a acc).2.2 = 0
  | 0, _, _, _, _ => rfl
  | q + 1, [], _, _, _ => rfl
  | q + 1, c :: l, a, acc, h => by
    rw [parseL] at h ⊢
    split
    · rename_i hc
      rw [if_pos hc] at h
      exact parse_at q _ _ _ h
    · rename_i hc
      rw [if_neg hc] at h
      split
      · rename_i hp
        rw [if_pos hp] at h
        exact parse_at q _ _ _ h
      · rename_i hp
        rw [if_neg hp] at h
        cases h

theorem ent40_eq (s : List UInt8) : ent40 s = st40 s 0 0 (fun _ => .und) (fun i => nth (ent40 s).t i) := by kernel_rfl

theorem isPleY {L : Nat → (St → T (Ex × St)) → St → T (Ex × St)} (hL : LLe L L) (k : Nat) (r : Ex × St) : LLe (onP k (isP L k r) r L) (onP k (isP L k r) r L) := fun id f f' st hf r' hr => by
  unfold onP at hr ⊢
  cases hk : Nat.beq id k with
  | true =>
    rw [hk] at hr
    obtain ⟨h1, h2⟩ := sem_br_fail hr
    unfold isP at h1
    have h1 := @of_decide_eq_true _ (Classical.propDecidable _) h1
    have h3 : isP L k r f' st = true := isP_true (hL k f f' st hf _ h1)
    show sel (isP L k r f' st) _ _ = _
    rw [h3]
    exact h2
  | false =>
    rw [hk] at hr
    exact hL id f f' st hf _ hr

theorem p40 : PureC Tryz.prog Gl 14 psT := by
  refine pureC_intro tabOK mixed Tryz.func14 (by kernel_rfl) (by kernel_rfl) fun vs v h' h => ?_
  unfold psT at h
  split at h
  · rename_i s
    have := sem_leaf h
    simp only [Prod.mk.injEq] at this
    obtain ⟨rfl, rfl⟩ := this
    have hx := cx_ok tb40_ok [(0, lp40 s), (2, lp40_2 s)]
    have hL := loopsBy_le [(0, lp40 s), (2, lp40_2 s)]
    cases hb : bigS s with
    | true =>
      have e1 : psN s = 0 := by unfold psN psL; rw [hb]; rfl
      have e2 : psE s = 2 := by unfold psE; rw [hb]; rfl
      have e3 : psI s = 0 := by unfold psI; rw [hb]; rfl
      rw [e1, e2, e3]
      exact ⟨_, cxOf Gl tb40 [(0, lp40 s), (2, lp40_2 s)], _, ArgLE.refl _, rfl, hx.1, hx.2, wc40g _ s hb, RowsLE.one fun j hj => absurd hj (Nat.not_lt_zero _)⟩
    | false =>
      have hs : s.length ≤ 262144 := by
        unfold bigS at hb
        rw [show (262144 : Int) = Int.ofNat 262144 from rfl, ilt_nat] at hb
        have := of_decide_eq_false hb
        have hsl : slen s = s.length := rfl
        omega
      have e0 : psL s = (psR s).1 := by unfold psL; rw [hb]; rfl
      have e2 : psE s = (psR s).2.1 := by unfold psE; rw [hb]; rfl
      have e3 : psI s = Int.ofNat (psR s).2.2 := by unfold psI; rw [hb]; rfl
      have hg : ilt 262144 (Int.ofNat (slen s)) = false := hb
      have key : ∀ M, LLe M M → (∀ f st, M 2 f st = iterT f (lp40_2 s) (slen s + 1) st) → ((psR s).2.1 = 0 ∧ (iterT (body40 M) (lp40 s) (slen s + 1) (ent40 s)).sem = some (en40e s 0 (psR s).1.length (rowX (psR s).1))) ∨
          ((psR s).2.1 = 30 ∧ (psR s).1 = [] ∧ (iterT (body40 M) (lp40 s) (slen s + 1) (ent40 s)).sem = some (en40f s (psR s).2.2 (errL (s.length + 1) s []).1.length (rowX (errL (s.length + 1) s []).1) (errL (s.length + 1) s []).2)) := fun M h1 h2 => by
        rw [ent40_eq]
        exact run40 M h1 s hs h2 (s.length + 1) 0 [] (fun i => nth (ent40 s).t i) (by omega) (by omega) (Nat.le_refl _)
      have mm : ∀ r, LLe (onP 0 (isP (loopsBy [(0, lp40 s), (2, lp40_2 s)]) 0 r) r (loopsBy [(0, lp40 s), (2, lp40_2 s)])) (onP 0 (isP (loopsBy [(0, lp40 s), (2, lp40_2 s)]) 0 r) r (loopsBy [(0, lp40 s), (2, lp40_2 s)])) := fun r => isPleY hL 0 r
      rw [e2, e3]
      unfold psN psG
      rw [e0]
      by_cases hok : (psR s).2.1 = 0
      · have hat : (psR s).2.2 = 0 := parse_at _ _ _ _ hok
        have hw := told_le (onP_le hL hL) _ (wc40z (loopsBy [(0, lp40 s), (2, lp40_2 s)]) _ s 0 (psR s).1.length (rowX (psR s).1) hg (isP_true (by
          rcases key _ (mm (en40e s 0 (psR s).1.length (rowX (psR s).1))) (fun _ _ => rfl) with ⟨_, h2⟩ | ⟨h1, _⟩
          · exact h2
          · rw [hok] at h1; cases h1)))
        rw [hok, hat]
        exact ⟨_, cxOf Gl tb40 [(0, lp40 s), (2, lp40_2 s)], _, ArgLE.refl _, rfl, hx.1, hx.2, hw, RowsLE.one fun j hj => (pushN_eq (fun i => eV (getE (psR s).1 i)) (psR s).1.length j hj).symm⟩
      · have hno : (psR s).2.1 = 30 ∧ (psR s).1 = [] := by
          rcases key _ (mm (en40e s 0 0 (rowX []))) (fun _ _ => rfl) with ⟨h1, _⟩ | ⟨h1, h2, _⟩
          · exact absurd h1 hok
          · exact ⟨h1, h2⟩
        have hw := told_le (onP_le hL hL) _ (wc40f (loopsBy [(0, lp40 s), (2, lp40_2 s)]) _ s (psR s).2.2 (errL (s.length + 1) s []).1.length (rowX (errL (s.length + 1) s []).1) (errL (s.length + 1) s []).2 hg (isP_true (by
          rcases key _ (mm (en40f s (psR s).2.2 (errL (s.length + 1) s []).1.length (rowX (errL (s.length + 1) s []).1) (errL (s.length + 1) s []).2)) (fun _ _ => rfl) with ⟨h1, _⟩ | ⟨_, _, h3⟩
          · exact absurd h1 hok
          · exact h3)))
        rw [hno.1, hno.2]
        exact ⟨_, cxOf Gl tb40 [(0, lp40 s), (2, lp40_2 s)], _, ArgLE.refl _, rfl, hx.1, hx.2, hw, RowsLE.one fun j hj => absurd hj (Nat.not_lt_zero _)⟩
  · cases h


end Go.Proofs.YtkcbdemfmjciiaaGreatDoor.Ed



namespace Go.Proofs.YtkcbdemfmjciiaaGreatDoor.Ed
open Go.Sy Go


theorem e84 (Γ : Cx) (vs : List V) (h : List Blk) : evalF tab Γ Tryz.f19 vs h = evalF tab Γ Tryz.f25 vs h := by kernel_rfl

theorem p84 : PureC Tryz.prog Gl 19 blankT := by
  refine pureC_intro tabOK mixed Tryz.func19 (by kernel_rfl) (by kernel_rfl) fun vs v h' h => ?_
  unfold blankT at h
  split at h
  · rename_i x
    have := sem_leaf h
    simp only [Prod.mk.injEq] at this
    obtain ⟨rfl, rfl⟩ := this
    have hx := cx_ok tb0_ok []
    refine ⟨_, cxOf Gl tb0 [], _, ArgLE.refl _, rfl, hx.1, hx.2, ?_, RowsLE.refl _⟩
    rw [e84]
    unfold blankB
    cases c1 : ieq x 32 with
    | true => exact wc83a _ x c1
    | false =>
      cases c2 : ieq x 9 with
      | true => exact wc83b _ x c1 c2
      | false =>
        cases c3 : ieq x 10 with
        | true => exact wc83c _ x c1 c2 c3
        | false => exact wc83d _ x c1 c2 c3
  · cases h

noncomputable def tb41 : List (Nat × (List V → T (V × List Blk))) := (19, blankT) :: (16, textT parseP) :: []
theorem tb41_ok : AllPure Tryz.prog Gl tb41 := .cons p84 <| .cons p22 .nil

def en41f (s : List UInt8) (a k : Nat) (x : Nat → V) : Ex × St := (.rt, ⟨[.und, .und, .ref 1, iV 30, iV (Int.ofNat a), .und, .ref 2, .und, .und, .und, .und, .und, .und, .und, .und, .und, .und, .und, .und, .und, .und, .und, .und, .und, .und, .und, .und, .und, .und, .und, .und, .und, .und, .und, .und, .und, .und, .und, .und, .und, .und, .und, .und, .und, .und, .und, .und, .und, .und, .und, .und, .und, .und, .und, .und, .und], [.row 38 6 0 (fun _ => .und), .row 38 6 0 (fun _ => .und), .row 38 6 k x]⟩)
def lp41_2 (s : List UInt8) : Lp := ⟨[true, false, true, true, true, true, true, true, true, false, false, false, false, false, false, false, false, false, false, false, false, false, false, false, false, false, false, false, false, false, false, false, false, false, false, false, false, false, false, false, false, false, false, false, false, false, false, false, false, false, false, false, false, false, false, false], 3, [true, false, true, true, true, true, true, true, true, false, false, false, false, false, false, false, false, false, false, false, false, false, false, false, false, false, false, false, false, false, false, false, false, false, false, false, false, false, false, false, false, false, false, false, false, false, false, false, false, false, false, false, false, false, false, false], 3, slen s + 1⟩
def st41_2 (s : List UInt8) (a k : Nat) (x : Nat → V) (e : Nat) (j : Nat → V) : St := ⟨[.str s, j 1, .ref 0, iV 0, iV 0, .ref 1, .ref 2, iV (Int.ofNat e), iV (Int.ofNat a), j 9, j 10, j 11, j 12, j 13, j 14, j 15, j 16, j 17, j 18, j 19, j 20, j 21, j 22, j 23, j 24, j 25, j 26, j 27, j 28, j 29, j 30, j 31, j 32, j 33, j 34, j 35, j 36, j 37, j 38, j 39, j 40, j 41, j 42, j 43, j 44, j 45, j 46, j 47, j 48, j 49, j 50, j 51, j 52, j 53, j 54, j 55], [.row 38 6 0 (fun _ => .und), .row 38 6 0 (fun _ => .und), .row 38 6 k x]⟩
def en41_2e (s : List UInt8) (a k : Nat) (x : Nat → V) (e : Nat) : Ex × St := (.ex 2, ⟨[.str s, .und, .ref 0, iV 0, iV 0, .ref 1, .ref 2, iV (Int.ofNat e), iV (Int.ofNat a), .und, .und, .und, .und, .und, .und, .und, .und, .und, .und, .und, .und, .und, .und, .und, .und, .und, .und, .und, .und, .und, .und, .und, .und, .und, .und, .und, .und, .und, .und, .und, .und, .und, .und, .und, .und, .und, .und, .und, .und, .und, .und, .und, .und, .und, .und, .und], [.row 38 6 0 (fun _ => .und), .row 38 6 0 (fun _ => .und), .row 38 6 k x]⟩)
noncomputable def body41_2 (L : Nat → (St → T (Ex × St)) → St → T (Ex × St)) : St → T (Ex × St) := fun st => evalC tab ⟨callT tb41, L, Gl⟩ (loopBody Tryz.f11 2) 2 st
theorem ri41e (L : Nat → (St → T (Ex × St)) → St → T (Ex × St)) (s : List UInt8) (a k : Nat) (x : Nat → V) (e : Nat)  (j : Nat → V) (h0 : ilt (Int.ofNat e) (Int.ofNat (slen s)) = false) : ((body41_2 L (st41_2 s a k x e j)).bind fun r => T.leaf (cutR (lp41_2 s) r)).sem = some ((.ex 2), ⟨[(.str s), .und, (.ref 0), (iV 0), (iV 0), (.ref 1), (.ref 2), (iV (Int.ofNat e)), (iV (Int.ofNat a)), .und, .und, .und, .und, .und, .und, .und, .und, .und, .und, .und, .und, .und, .und, .und, .und, .und, .und, .und, .und, .und, .und, .und, .und, .und, .und, .und, .und, .und, .und, .und, .und, .und, .und, .und, .und, .und, .und, .und, .und, .und, .und, .und, .und, .und, .und, .und], [(.row 38 6 0 (fun _ => .und)), (.row 38 6 0 (fun _ => .und)), (.row 38 6 k x)]⟩) := by
  exact sem_of_path (ds := [false, false, false, false, false, false, false]) (cs := [(ilt (Int.ofNat e) (Int.ofNat (slen s))), (ilt (Int.ofNat e) (Int.ofNat (slen s))), (ilt (Int.ofNat e) (Int.ofNat (slen s))), (ilt (Int.ofNat e) (Int.ofNat (slen s))), (ilt (Int.ofNat e) (Int.ofNat (slen s))), (ilt (Int.ofNat e) (Int.ofNat (slen s))), Bool.false]) (by kernel_rfl) (by simp only [h0] <;> rfl)
theorem ri41b (L : Nat → (St → T (Ex × St)) → St → T (Ex × St)) (s : List UInt8) (a k : Nat) (x : Nat → V) (e : Nat)  (j : Nat → V) (h0 : ilt (Int.ofNat e) (Int.ofNat (slen s)) = true) (h1 : band (ile 0 (Int.ofNat e)) (ilt (Int.ofNat e) (Int.ofNat (slen s))) = true) (h2 : blankB (sget s e) = true) : ((body41_2 L (st41_2 s a k x e j)).bind fun r => T.leaf (cutR (lp41_2 s) r)).sem = some ((.ex 2), ⟨[(.str s), .und, (.ref 0), (iV 0), (iV 0), (.ref 1), (.ref 2), (iV (Int.ofNat e)), (iV (Int.ofNat a)), .und, .und, .und, .und, .und, .und, .und, .und, .und, .und, .und, .und, .und, .und, .und, .und, .und, .und, .und, .und, .und, .und, .und, .und, .und, .und, .und, .und, .und, .und, .und, .und, .und, .und, .und, .und, .und, .und, .und, .und, .und, .und, .und, .und, .und, .und, .und], [(.row 38 6 0 (fun _ => .und)), (.row 38 6 0 (fun _ => .und)), (.row 38 6 k x)]⟩) := by
  exact sem_of_path (ds := [true, true, true, true, true, true, true, false]) (cs := [(ilt (Int.ofNat e) (Int.ofNat (slen s))), (ilt (Int.ofNat e) (Int.ofNat (slen s))), (ilt (Int.ofNat e) (Int.ofNat (slen s))), (band (ile 0 (Int.ofNat e)) (ilt (Int.ofNat e) (Int.ofNat (slen s)))), (ilt (Int.ofNat e) (Int.ofNat (slen s))), (ilt (Int.ofNat e) (Int.ofNat (slen s))), (ilt (Int.ofNat e) (Int.ofNat (slen s))), (bnot (blankB (sget s e)))]) (by kernel_rfl) (by simp only [h1] <;> simp only [h0, h2] <;> rfl)
theorem ri41n (L : Nat → (St → T (Ex × St)) → St → T (Ex × St)) (s : List UInt8) (a k : Nat) (x : Nat → V) (e : Nat)  (j : Nat → V) (h0 : ilt (Int.ofNat e) (Int.ofNat (slen s)) = true) (h1 : band (ile 0 (Int.ofNat e)) (ilt (Int.ofNat e) (Int.ofNat (slen s))) = true) (h2 : blankB (sget s e) = false) : ((body41_2 L (st41_2 s a k x e j)).bind fun r => T.leaf (cutR (lp41_2 s) r)).sem = some (.nm, ⟨[(.str s), .und, (.ref 0), (iV 0), (iV 0), (.ref 1), (.ref 2), (iV (wr IntKind.i64 (iadd (Int.ofNat e) 1))), (iV (Int.ofNat a)), .und, .und, .und, .und, .und, .und, .und, .und, .und, .und, .und, .und, .und, .und, .und, .und, .und, .und, .und, .und, .und, .und, .und, .und, .und, .und, .und, .und, .und, .und, .und, .und, .und, .und, .und, .und, .und, .und, .und, .und, .und, .und, .und, .und, .und, .und, .und], [(.row 38 6 0 (fun _ => .und)), (.row 38 6 0 (fun _ => .und)), (.row 38 6 k x)]⟩) := by
  exact sem_of_path (ds := [true, true, true, true, true, true, true, true]) (cs := [(ilt (Int.ofNat e) (Int.ofNat (slen s))), (ilt (Int.ofNat e) (Int.ofNat (slen s))), (ilt (Int.ofNat e) (Int.ofNat (slen s))), (band (ile 0 (Int.ofNat e)) (ilt (Int.ofNat e) (Int.ofNat (slen s)))), (ilt (Int.ofNat e) (Int.ofNat (slen s))), (ilt (Int.ofNat e) (Int.ofNat (slen s))), (ilt (Int.ofNat e) (Int.ofNat (slen s))), (bnot (blankB (sget s e)))]) (by kernel_rfl) (by simp only [h1] <;> simp only [h0, h2] <;> rfl)

def lp41 (s : List UInt8) : Lp := ⟨[true, false, true, true, true, true, true, true, false, false, false, false, false, false, false, false, false, false, false, false, false, false, false, false, false, false, false, false, false, false, false, false, false, false, false, false, false, false, false, false, false, false, false, false, false, false, false, false, false, false, false, false, false, false, false, false], 3, [false, false, true, true, true, false, true, false, false, false, false, false, false, false, false, false, false, false, false, false, false, false, false, false, false, false, false, false, false, false, false, false, false, false, false, false, false, false, false, false, false, false, false, false, false, false, false, false, false, false, false, false, false, false, false, false], 3, slen s + 1⟩
def st41 (s : List UInt8) (a k : Nat) (x : Nat → V) (j : Nat → V) : St := ⟨[.str s, j 1, .ref 0, iV 0, iV 0, .ref 1, .ref 2, iV (Int.ofNat a), j 8, j 9, j 10, j 11, j 12, j 13, j 14, j 15, j 16, j 17, j 18, j 19, j 20, j 21, j 22, j 23, j 24, j 25, j 26, j 27, j 28, j 29, j 30, j 31, j 32, j 33, j 34, j 35, j 36, j 37, j 38, j 39, j 40, j 41, j 42, j 43, j 44, j 45, j 46, j 47, j 48, j 49, j 50, j 51, j 52, j 53, j 54, j 55], [.row 38 6 0 (fun _ => .und), .row 38 6 0 (fun _ => .und), .row 38 6 k x]⟩
def en41e (s : List UInt8) (a k : Nat) (x : Nat → V) : Ex × St := (.ex 0, ⟨[.und, .und, .ref 0, iV 0, iV 0, .und, .ref 2, .und, .und, .und, .und, .und, .und, .und, .und, .und, .und, .und, .und, .und, .und, .und, .und, .und, .und, .und, .und, .und, .und, .und, .und, .und, .und, .und, .und, .und, .und, .und, .und, .und, .und, .und, .und, .und, .und, .und, .und, .und, .und, .und, .und, .und, .und, .und, .und, .und], [.row 38 6 0 (fun _ => .und), .row 38 6 0 (fun _ => .und), .row 38 6 k x]⟩)
noncomputable def body41 (L : Nat → (St → T (Ex × St)) → St → T (Ex × St)) : St → T (Ex × St) := fun st => evalC tab ⟨callT tb41, L, Gl⟩ (loopBody Tryz.f11 0) 0 st
theorem ro41e (L : Nat → (St → T (Ex × St)) → St → T (Ex × St)) (s : List UInt8) (a k : Nat) (x : Nat → V)  (j : Nat → V) (h0 : ilt (Int.ofNat a) (Int.ofNat (slen s)) = false) : ((body41 L (st41 s a k x j)).bind fun r => T.leaf (cutR (lp41 s) r)).sem = some ((.ex 0), ⟨[.und, .und, (.ref 0), (iV 0), (iV 0), .und, (.ref 2), .und, .und, .und, .und, .und, .und, .und, .und, .und, .und, .und, .und, .und, .und, .und, .und, .und, .und, .und, .und, .und, .und, .und, .und, .und, .und, .und, .und, .und, .und, .und, .und, .und, .und, .und, .und, .und, .und, .und, .und, .und, .und, .und, .und, .und, .und, .und, .und, .und], [(.row 38 6 0 (fun _ => .und)), (.row 38 6 0 (fun _ => .und)), (.row 38 6 k x)]⟩) := by
  exact sem_of_path (ds := [false]) (cs := [(ilt (Int.ofNat a) (Int.ofNat (slen s)))]) (by kernel_rfl) (by simp only [h0] <;> rfl)
theorem ro41b (L : Nat → (St → T (Ex × St)) → St → T (Ex × St)) (s : List UInt8) (a k : Nat) (x : Nat → V)  (j : Nat → V) (h0 : ilt (Int.ofNat a) (Int.ofNat (slen s)) = true) (h1 : band (ile 0 (Int.ofNat a)) (ilt (Int.ofNat a) (Int.ofNat (slen s))) = true) (h2 : blankB (sget s a) = true) : ((body41 L (st41 s a k x j)).bind fun r => T.leaf (cutR (lp41 s) r)).sem = some (.nm, ⟨[(.str s), .und, (.ref 0), (iV 0), (iV 0), (.ref 1), (.ref 2), (iV (wr IntKind.i64 (iadd (Int.ofNat a) 1))), .und, .und, .und, .und, .und, .und, .und, .und, .und, .und, .und, .und, .und, .und, .und, .und, .und, .und, .und, .und, .und, .und, .und, .und, .und, .und, .und, .und, .und, .und, .und, .und, .und, .und, .und, .und, .und, .und, .und, .und, .und, .und, .und, .und, .und, .und, .und, .und], [(.row 38 6 0 (fun _ => .und)), (.row 38 6 0 (fun _ => .und)), (.row 38 6 k x)]⟩) := by
  exact sem_of_path (ds := [true, true, true]) (cs := [(ilt (Int.ofNat a) (Int.ofNat (slen s))), (band (ile 0 (Int.ofNat a)) (ilt (Int.ofNat a) (Int.ofNat (slen s)))), (blankB (sget s a))]) (by kernel_rfl) (by simp only [h1] <;> simp only [h0, h2] <;> rfl)

def ent41_2 (s : List UInt8) (a k : Nat) (x : Nat → V) (j : Nat → V) : St := ⟨[(.str s), (j 1), (.ref 0), (iV 0), (iV 0), (.ref 1), (.ref 2), (iV (Int.ofNat a)), (iV (Int.ofNat a)), (j 9), (j 10), (j 11), (j 12), (j 13), (j 14), (iV (Int.ofNat a)), (.str s), (iV (Int.ofNat (slen s))), (bV (ilt (Int.ofNat a) (Int.ofNat (slen s)))), (.str s), (iV (Int.ofNat a)), (.val (Value.int IntKind.u8 (sget s a))), (bV (blankB (sget s a))), (j 23), (j 24), (iV (Int.ofNat a)), (j 26), (j 27), (j 28), (j 29), (j 30), (j 31), (j 32), (j 33), (j 34), (j 35), (j 36), (j 37), (j 38), (j 39), (j 40), (j 41), (j 42), (j 43), (j 44), (j 45), (j 46), (j 47), (j 48), (j 49), (j 50), (j 51), (j 52), (j 53), (j 54), (j 55)], [(.row 38 6 0 (fun _ => .und)), (.row 38 6 0 (fun _ => .und)), (.row 38 6 k x)]⟩

theorem ro41w (L : Nat → (St → T (Ex × St)) → St → T (Ex × St)) (p2 : (St → T (Ex × St)) → St → Bool) (s : List UInt8) (a k : Nat) (x : Nat → V) (e : Nat) (j : Nat → V) (h0 : ilt (Int.ofNat a) (Int.ofNat (slen s)) = true) (h1 : band (ile 0 (Int.ofNat a)) (ilt (Int.ofNat a) (Int.ofNat (slen s))) = true) (h2 : blankB (sget s a) = false) (h3 : band (ile 0 (Int.ofNat a)) (band (ile (Int.ofNat a) (Int.ofNat e)) (ile (Int.ofNat e) (Int.ofNat (slen s)))) = true) (h4 : ieq (parseF (sdrop a (stake e s))) 0 = true) (h5 : apOK k 1 40 = true) (hp2 : p2 (body41_2 (onP 2 p2 (en41_2e s a k x e) L)) (ent41_2 s a k x j) = true) : ((body41 (onP 2 p2 (en41_2e s a k x e) L) (st41 s a k x j)).bind fun r => T.leaf (cutR (lp41 s) r)).sem = some (.nm, ⟨[(.str s), .und, (.ref 0), (iV 0), (iV 0), (.ref 1), (.ref 2), (iV (Int.ofNat e)), .und, .und, .und, .und, .und, .und, .und, .und, .und, .und, .und, .und, .und, .und, .und, .und, .und, .und, .und, .und, .und, .und, .und, .und, .und, .und, .und, .und, .und, .und, .und, .und, .und, .und, .und, .und, .und, .und, .und, .und, .und, .und, .und, .und, .und, .und, .und, .und], [(.row 38 6 0 (fun _ => .und)), (.row 38 6 0 (fun _ => .und)), (.row 38 6 (nadd k 1) (pushGet k x (eV (parseE (sdrop a (stake e s))))))]⟩) := by
  exact sem_of_path (ds := [true, true, false, true, true, false, true]) (cs := [(ilt (Int.ofNat a) (Int.ofNat (slen s))), (band (ile 0 (Int.ofNat a)) (ilt (Int.ofNat a) (Int.ofNat (slen s)))), (blankB (sget s a)), (p2 (body41_2 (onP 2 p2 (en41_2e s a k x e) L)) (ent41_2 s a k x j)), (band (ile 0 (Int.ofNat a)) (band (ile (Int.ofNat a) (Int.ofNat e)) (ile (Int.ofNat e) (Int.ofNat (slen s))))), (bnot (ieq (parseF (sdrop a (stake e s))) 0)), (apOK k 1 40)]) (by kernel_rfl) (by simp only [hp2] <;> simp only [h1, h3] <;> simp only [h0, h2, h4, h5] <;> rfl)

theorem ro41f (L : Nat → (St → T (Ex × St)) → St → T (Ex × St)) (p2 : (St → T (Ex × St)) → St → Bool) (s : List UInt8) (a k : Nat) (x : Nat → V) (e : Nat) (j : Nat → V) (h0 : ilt (Int.ofNat a) (Int.ofNat (slen s)) = true) (h1 : band (ile 0 (Int.ofNat a)) (ilt (Int.ofNat a) (Int.ofNat (slen s))) = true) (h2 : blankB (sget s a) = false) (h3 : band (ile 0 (Int.ofNat a)) (band (ile (Int.ofNat a) (Int.ofNat e)) (ile (Int.ofNat e) (Int.ofNat (slen s)))) = true) (h4 : ieq (parseF (sdrop a (stake e s))) 0 = false) (hp2 : p2 (body41_2 (onP 2 p2 (en41_2e s a k x e) L)) (ent41_2 s a k x j) = true) : ((body41 (onP 2 p2 (en41_2e s a k x e) L) (st41 s a k x j)).bind fun r => T.leaf (cutR (lp41 s) r)).sem = some (.rt, ⟨[.und, .und, (.ref 1), (iV 30), (iV (Int.ofNat a)), .und, (.ref 2), .und, .und, .und, .und, .und, .und, .und, .und, .und, .und, .und, .und, .und, .und, .und, .und, .und, .und, .und, .und, .und, .und, .und, .und, .und, .und, .und, .und, .und, .und, .und, .und, .und, .und, .und, .und, .und, .und, .und, .und, .und, .und, .und, .und, .und, .und, .und, .und, .und], [(.row 38 6 0 (fun _ => .und)), (.row 38 6 0 (fun _ => .und)), (.row 38 6 k x)]⟩) := by
  exact sem_of_path (ds := [true, true, false, true, true, true]) (cs := [(ilt (Int.ofNat a) (Int.ofNat (slen s))), (band (ile 0 (Int.ofNat a)) (ilt (Int.ofNat a) (Int.ofNat (slen s)))), (blankB (sget s a)), (p2 (body41_2 (onP 2 p2 (en41_2e s a k x e) L)) (ent41_2 s a k x j)), (band (ile 0 (Int.ofNat a)) (band (ile (Int.ofNat a) (Int.ofNat e)) (ile (Int.ofNat e) (Int.ofNat (slen s))))), (bnot (ieq (parseF (sdrop a (stake e s))) 0))]) (by kernel_rfl) (by simp only [hp2] <;> simp only [h1, h3] <;> simp only [h0, h2, h4] <;> rfl)

def ent41 (s : List UInt8)  : St := ⟨[(.str s), undefV, (.ref 0), (iV 0), (iV 0), (.ref 1), (.ref 2), (iV 0), undefV, undefV, undefV, (.str s), (iV (Int.ofNat (slen s))), (bV (ilt 262144 (Int.ofNat (slen s)))), undefV, undefV, undefV, undefV, undefV, undefV, undefV, undefV, undefV, undefV, undefV, undefV, undefV, undefV, undefV, undefV, undefV, undefV, undefV, undefV, undefV, undefV, undefV, undefV, undefV, undefV, undefV, undefV, undefV, undefV, undefV, undefV, undefV, undefV, undefV, undefV, undefV, undefV, undefV, undefV, undefV, undefV], [(.row 38 6 0 (fun _ => .und)), (.row 38 6 0 (fun _ => .und)), (.row 38 6 0 (fun _ => .und))]⟩

theorem wc41g (L : Nat → (St → T (Ex × St)) → St → T (Ex × St)) (s : List UInt8) (h0 : ilt 262144 (Int.ofNat (slen s)) = true) : (finF (evalF tab ⟨callT tb41, L, Gl⟩ Tryz.f11 [.str s] [])).sem = some ((.tup [(.ref 0), (iV 2), (iV 0)]), [(.row 38 6 0 (fun _ => .und))]) := by
  exact sem_of_path (ds := [true]) (cs := [(ilt 262144 (Int.ofNat (slen s)))]) (by kernel_rfl) (by simp only [h0] <;> rfl)

theorem wc41z (L : Nat → (St → T (Ex × St)) → St → T (Ex × St)) (p0 : (St → T (Ex × St)) → St → Bool) (s : List UInt8) (a k : Nat) (x : Nat → V) (h0 : ilt 262144 (Int.ofNat (slen s)) = false) (hp0 : p0 (body41 (onP 0 p0 (en41e s a k x) L)) (ent41 s) = true) : (finF (evalF tab ⟨callT tb41, (onP 0 p0 (en41e s a k x) L), Gl⟩ Tryz.f11 [.str s] [])).sem = some ((.tup [(.ref 0), (iV 0), (iV 0)]), [(.row 38 6 k x)]) := by
  exact sem_of_path (ds := [false, true]) (cs := [(ilt 262144 (Int.ofNat (slen s))), (p0 (body41 (onP 0 p0 (en41e s a k x) L)) (ent41 s))]) (by kernel_rfl) (by simp only [hp0] <;> simp only [h0] <;> rfl)

theorem wc41f (L : Nat → (St → T (Ex × St)) → St → T (Ex × St)) (p0 : (St → T (Ex × St)) → St → Bool) (s : List UInt8) (a k : Nat) (x : Nat → V) (h0 : ilt 262144 (Int.ofNat (slen s)) = false) (hp0 : p0 (body41 (onP 0 p0 (en41f s a k x) L)) (ent41 s) = true) : (finF (evalF tab ⟨callT tb41, (onP 0 p0 (en41f s a k x) L), Gl⟩ Tryz.f11 [.str s] [])).sem = some ((.tup [(.ref 0), (iV 30), (iV (Int.ofNat a))]), [(.row 38 6 0 (fun _ => .und))]) := by
  exact sem_of_path (ds := [false, true]) (cs := [(ilt 262144 (Int.ofNat (slen s))), (p0 (body41 (onP 0 p0 (en41f s a k x) L)) (ent41 s))]) (by kernel_rfl) (by simp only [hp0] <;> simp only [h0] <;> rfl)
theorem run41i (L : Nat → (St → T (Ex × St)) → St → T (Ex × St)) (s : List UInt8) (hs : s.length ≤ 262144) (a k : Nat) (x : Nat → V) : ∀ (q e : Nat) (j : Nat → V), s.length - e < q →
    (iterT (body41_2 L) (lp41_2 s) q (st41_2 s a k x e j)).sem = some (en41_2e s a k x (e + (wordL (s.drop e)).length))
  | 0, e, j, h => absurd h (Nat.not_lt_zero _)
  | q + 1, e, j, h => by
    have hsl : slen s = s.length := rfl
    rcases Nat.lt_or_ge e s.length with he | he
    · have c0 : ilt (Int.ofNat e) (Int.ofNat (slen s)) = true := ofNat_lt he
      have c1 : band (ile 0 (Int.ofNat e)) (ilt (Int.ofNat e) (Int.ofNat (slen s))) = true := ofNat_in he
      rw [drop_cons he]
      cases hb : blankC s[e] with
      | true =>
        rw [show wordL (s[e] :: s.drop (e + 1)) = [] by unfold wordL; rw [List.takeWhile_cons_of_neg (by simp [hb])]]
        exact iter_round (ri41b L s a k x e j c0 c1 (by rw [sget_at he]; exact hb))
      | false =>
        rw [iter_round (ri41n L s a k x e j c0 c1 (by rw [sget_at he]; exact hb)), goOn_nm, succ_wr (n := s.length) he (by omega)]
        have := run41i L s hs a k x q (e + 1) (fun _ => .und) (by omega)
        rw [show wordL (s[e] :: s.drop (e + 1)) = s[e] :: wordL (s.drop (e + 1)) by unfold wordL; rw [List.takeWhile_cons_of_pos (by simp [hb])], List.length_cons, show e + ((wordL (s.drop (e + 1))).length + 1) = e + 1 + (wordL (s.drop (e + 1))).length by omega]
        exact this
    · rw [List.drop_eq_nil_of_le he]
      exact iter_round (ri41e L s a k x e j (ofNat_ge he))

theorem ent41_2_eq (s : List UInt8) (a k : Nat) (x : Nat → V) (j : Nat → V) : ent41_2 s a k x j = st41_2 s a k x a (fun i => nth (ent41_2 s a k x j).t i) := by kernel_rfl

theorem run41 (M : Nat → (St → T (Ex × St)) → St → T (Ex × St)) (hMM : LLe M M) (s : List UInt8) (hs : s.length ≤ 262144) (m2 : ∀ f st, M 2 f st = iterT f (lp41_2 s) (slen s + 1) st) : ∀ (q a : Nat) (acc : List E6) (j : Nat → V), s.length - a < q → a ≤ s.length → acc.length ≤ a →
    ((parseL q (s.drop a) a acc).2.1 = 0 ∧ (iterT (body41 M) (lp41 s) q (st41 s a acc.length (rowX acc) j)).sem = some (en41e s 0 (parseL q (s.drop a) a acc).1.length (rowX (parseL q (s.drop a) a acc).1))) ∨
    ((parseL q (s.drop a) a acc).2.1 = 30 ∧ (parseL q (s.drop a) a acc).1 = [] ∧ (iterT (body41 M) (lp41 s) q (st41 s a acc.length (rowX acc) j)).sem = some (en41f s (parseL q (s.drop a) a acc).2.2 (errL q (s.drop a) acc).1.length (rowX (errL q (s.drop a) acc).1)))
  | 0, a, acc, j, h, _, _ => absurd h (Nat.not_lt_zero _)
  | q + 1, a, acc, j, h, ha, hk => by
    have hsl : slen s = s.length := rfl
    rcases Nat.lt_or_ge a s.length with he | he
    · have c0 : ilt (Int.ofNat a) (Int.ofNat (slen s)) = true := ofNat_lt he
      have c1 : band (ile 0 (Int.ofNat a)) (ilt (Int.ofNat a) (Int.ofNat (slen s))) = true := ofNat_in he
      cases hb : blankC s[a] with
      | true =>
        have e1 : parseL (q + 1) (s.drop a) a acc = parseL q (s.drop (a + 1)) (a + 1) acc := by rw [drop_cons he, parse_blank hb]
        have e2 : errL (q + 1) (s.drop a) acc = errL q (s.drop (a + 1)) acc := by rw [drop_cons he, errL, if_pos hb]
        rw [e1, e2, iter_round (ro41b M s a acc.length (rowX acc) j c0 c1 (by rw [sget_at he]; exact hb)), goOn_nm, succ_wr (n := s.length) he (by omega)]
        exact run41 M hMM s hs m2 q (a + 1) acc (fun _ => .und) (by omega) (by omega) (by omega)
      | false =>
        have c2 : blankB (sget s a) = false := by rw [sget_at he]; exact hb
        have hw0 : 0 < (wordL (s.drop a)).length := by
          rw [drop_cons he]
          unfold wordL
          rw [List.takeWhile_cons_of_pos (by simp [hb])]
          exact Nat.succ_pos _
        have hwl := word_len (s.drop a)
        rw [List.length_drop] at hwl
        have hi : ∀ M', (M 2 (body41_2 M') (ent41_2 s a acc.length (rowX acc) j)).sem = some (en41_2e s a acc.length (rowX acc) (a + (wordL (s.drop a)).length)) := fun M' => by
          rw [m2, ent41_2_eq]
          exact run41i M' s hs a acc.length (rowX acc) (slen s + 1) a _ (by omega)
        have hsub : sdrop a (stake (a + (wordL (s.drop a)).length) s) = wordL (s.drop a) := by
          show (s.take (a + (wordL (s.drop a)).length)).drop a = _
          rw [List.drop_take, show a + (wordL (s.drop a)).length - a = (wordL (s.drop a)).length by omega]
          exact (List.prefix_iff_eq_take.1 (List.takeWhile_prefix _)).symm
        have c3 : band (ile 0 (Int.ofNat a)) (band (ile (Int.ofNat a) (Int.ofNat (a + (wordL (s.drop a)).length))) (ile (Int.ofNat (a + (wordL (s.drop a)).length)) (Int.ofNat (slen s)))) = true := by
          rw [ofNat_0, ile_nat, ile_nat, decide_eq_true (by omega), decide_eq_true (by omega)]
          rfl
        have e0 : parseL (q + 1) (s.drop a) a acc = if parseF (wordL (s.drop a)) = 0 then parseL q ((s.drop a).drop (wordL (s.drop a)).length) (a + (wordL (s.drop a)).length) (acc ++ [parseE (wordL (s.drop a))]) else ([], 30, a) := by
          rw [drop_cons he, parseL, if_neg (by rw [hb]; decide)]
        have e5 : errL (q + 1) (s.drop a) acc = if parseF (wordL (s.drop a)) = 0 then errL q ((s.drop a).drop (wordL (s.drop a)).length) (acc ++ [parseE (wordL (s.drop a))]) else (acc, parseE (wordL (s.drop a))) := by
          rw [drop_cons he, errL, if_neg (by rw [hb]; decide)]
        by_cases hp : parseF (wordL (s.drop a)) = 0
        · have c4 : ieq (parseF (sdrop a (stake (a + (wordL (s.drop a)).length) s))) 0 = true := by rw [hsub, hp]; rfl
          have h9 : (acc.length + 1) * 40 ≤ 140737488355328 := by omega
          have h3 := ro41w M _ s a acc.length (rowX acc) (a + (wordL (s.drop a)).length) j c0 c1 c2 c3 c4 (decide_eq_true h9) (isP_true (hi _))
          have h4 : roundT (body41 M) (lp41 s) (st41 s a acc.length (rowX acc) j) = _ := roundT_le (l := lp41 s) (evalC_le (Γ := ⟨callT tb41, M, Gl⟩) (onP_le hMM hMM) (loopBody Tryz.f11 0) 0 (st41 s a acc.length (rowX acc) j)) h3
          rw [if_pos hp, List.drop_drop] at e0 e5
          rw [e0, e5, iter_round h4, goOn_nm, hsub, rowX_push]
          have ih := run41 M hMM s hs m2 q (a + (wordL (s.drop a)).length) (acc ++ [parseE (wordL (s.drop a))]) (fun _ => .und) (by omega) (by omega) (by rw [List.length_append]; simp only [List.length_cons, List.length_nil]; omega)
          rw [show (acc ++ [parseE (wordL (s.drop a))]).length = acc.length + 1 from List.length_append] at ih
          exact ih
        · have c4 : ieq (parseF (sdrop a (stake (a + (wordL (s.drop a)).length) s))) 0 = false := by rw [hsub]; simp [ieq, hp]
          have h3 := ro41f M _ s a acc.length (rowX acc) (a + (wordL (s.drop a)).length) j c0 c1 c2 c3 c4 (isP_true (hi _))
          have h4 : roundT (body41 M) (lp41 s) (st41 s a acc.length (rowX acc) j) = _ := roundT_le (l := lp41 s) (evalC_le (Γ := ⟨callT tb41, M, Gl⟩) (onP_le hMM hMM) (loopBody Tryz.f11 0) 0 (st41 s a acc.length (rowX acc) j)) h3
          rw [if_neg hp] at e0 e5
          rw [e0, e5]
          refine .inr ⟨rfl, rfl, ?_⟩
          rw [iter_round h4]
          rfl
    · rw [List.drop_eq_nil_of_le he]
      exact .inl ⟨rfl, iter_round (ro41e M s a acc.length (rowX acc) j (ofNat_ge he))⟩

theorem ent41_eq (s : List UInt8) : ent41 s = st41 s 0 0 (fun _ => .und) (fun i => nth (ent41 s).t i) := by kernel_rfl

theorem p41 : PureC Tryz.prog Gl 11 psT := by
  refine pureC_intro tabOK mixed Tryz.func11 (by kernel_rfl) (by kernel_rfl) fun vs v h' h => ?_
  unfold psT at h
  split at h
  · rename_i s
    have := sem_leaf h
    simp only [Prod.mk.injEq] at this
    obtain ⟨rfl, rfl⟩ := this
    have hx := cx_ok tb41_ok [(0, lp41 s), (2, lp41_2 s)]
    have hL := loopsBy_le [(0, lp41 s), (2, lp41_2 s)]
    cases hb : bigS s with
    | true =>
      have e1 : psN s = 0 := by unfold psN psL; rw [hb]; rfl
      have e2 : psE s = 2 := by unfold psE; rw [hb]; rfl
      have e3 : psI s = 0 := by unfold psI; rw [hb]; rfl
      rw [e1, e2, e3]
      exact ⟨_, cxOf Gl tb41 [(0, lp41 s), (2, lp41_2 s)], _, ArgLE.refl _, rfl, hx.1, hx.2, wc41g _ s hb, RowsLE.one fun j hj => absurd hj (Nat.not_lt_zero _)⟩
    | false =>
      have hs : s.length ≤ 262144 := by
        unfold bigS at hb
        rw [show (262144 : Int) = Int.ofNat 262144 from rfl, ilt_nat] at hb
        have := of_decide_eq_false hb
        have hsl : slen s = s.length := rfl
        omega
      have e0 : psL s = (psR s).1 := by unfold psL; rw [hb]; rfl
      have e2 : psE s = (psR s).2.1 := by unfold psE; rw [hb]; rfl
      have e3 : psI s = Int.ofNat (psR s).2.2 := by unfold psI; rw [hb]; rfl
      have hg : ilt 262144 (Int.ofNat (slen s)) = false := hb
      have key : ∀ M, LLe M M → (∀ f st, M 2 f st = iterT f (lp41_2 s) (slen s + 1) st) → ((psR s).2.1 = 0 ∧ (iterT (body41 M) (lp41 s) (slen s + 1) (ent41 s)).sem = some (en41e s 0 (psR s).1.length (rowX (psR s).1))) ∨
          ((psR s).2.1 = 30 ∧ (psR s).1 = [] ∧ (iterT (body41 M) (lp41 s) (slen s + 1) (ent41 s)).sem = some (en41f s (psR s).2.2 (errL (s.length + 1) s []).1.length (rowX (errL (s.length + 1) s []).1))) := fun M h1 h2 => by
        rw [ent41_eq]
        exact run41 M h1 s hs h2 (s.length + 1) 0 [] (fun i => nth (ent41 s).t i) (by omega) (by omega) (Nat.le_refl _)
      have mm : ∀ r, LLe (onP 0 (isP (loopsBy [(0, lp41 s), (2, lp41_2 s)]) 0 r) r (loopsBy [(0, lp41 s), (2, lp41_2 s)])) (onP 0 (isP (loopsBy [(0, lp41 s), (2, lp41_2 s)]) 0 r) r (loopsBy [(0, lp41 s), (2, lp41_2 s)])) := fun r => isPleY hL 0 r
      rw [e2, e3]
      unfold psN psG
      rw [e0]
      by_cases hok : (psR s).2.1 = 0
      · have hat : (psR s).2.2 = 0 := parse_at _ _ _ _ hok
        have hw := told_le (onP_le hL hL) _ (wc41z (loopsBy [(0, lp41 s), (2, lp41_2 s)]) _ s 0 (psR s).1.length (rowX (psR s).1) hg (isP_true (by
          rcases key _ (mm (en41e s 0 (psR s).1.length (rowX (psR s).1))) (fun _ _ => rfl) with ⟨_, h2⟩ | ⟨h1, _⟩
          · exact h2
          · rw [hok] at h1; cases h1)))
        rw [hok, hat]
        exact ⟨_, cxOf Gl tb41 [(0, lp41 s), (2, lp41_2 s)], _, ArgLE.refl _, rfl, hx.1, hx.2, hw, RowsLE.one fun j hj => (pushN_eq (fun i => eV (getE (psR s).1 i)) (psR s).1.length j hj).symm⟩
      · have hno : (psR s).2.1 = 30 ∧ (psR s).1 = [] := by
          rcases key _ (mm (en41e s 0 0 (rowX []))) (fun _ _ => rfl) with ⟨h1, _⟩ | ⟨h1, h2, _⟩
          · exact absurd h1 hok
          · exact ⟨h1, h2⟩
        have hw := told_le (onP_le hL hL) _ (wc41f (loopsBy [(0, lp41 s), (2, lp41_2 s)]) _ s (psR s).2.2 (errL (s.length + 1) s []).1.length (rowX (errL (s.length + 1) s []).1) hg (isP_true (by
          rcases key _ (mm (en41f s (psR s).2.2 (errL (s.length + 1) s []).1.length (rowX (errL (s.length + 1) s []).1))) (fun _ _ => rfl) with ⟨h1, _⟩ | ⟨_, _, h3⟩
          · exact absurd h1 hok
          · exact h3)))
        rw [hno.1, hno.2]
        exact ⟨_, cxOf Gl tb41 [(0, lp41 s), (2, lp41_2 s)], _, ArgLE.refl _, rfl, hx.1, hx.2, hw, RowsLE.one fun j hj => absurd hj (Nat.not_lt_zero _)⟩
  · cases h


end Go.Proofs.YtkcbdemfmjciiaaGreatDoor.Ed




