/-
  How a text's names are parted: the law CycleBlanks as a function. No conditions.
-/
import Derived.Test.YtcaljjnadbpacaaDoorCyY
namespace Go.Proofs.YtcaljjnadbpacaaDoor.Ed
open Go.Sy Go

/-! ### A text of names, each behind blanks -/

def textW : List (List UInt8 × E6) → List UInt8
  | [] => []
  | w :: ws => w.1 ++ (nameF w.2 ++ textW ws)

theorem textW_app (ws : List (List UInt8 × E6)) (b : List UInt8) (e : E6) : textW (ws ++ [(b, e)]) = textW ws ++ (b ++ nameF e) := by
  induction ws with
  | nil => simp [textW]
  | cons w ws ih => simp only [List.cons_append, textW, ih, List.append_assoc]

theorem parse_blanks : ∀ (b l : List UInt8) (q a : Nat) (acc : List E6), (∀ c ∈ b, blankC c = true) → parseL (q + b.length) (b ++ l) a acc = parseL q l (a + b.length) acc
  | [], l, q, a, acc, _ => rfl
  | c :: b, l, q, a, acc, h => by
    rw [List.length_cons, ← Nat.add_assoc, List.cons_append, parse_blank (h c (List.mem_cons_self ..)), parse_blanks b l q (a + 1) acc (fun d hd => h d (List.mem_cons_of_mem _ hd)), show a + 1 + b.length = a + (b.length + 1) by omega]

theorem textW_ends (ws : List (List UInt8 × E6)) (h : ∀ w ∈ ws, w.1 ≠ [] ∧ ∀ c ∈ w.1, blankC c = true) : endsB (textW ws) = true := by
  cases ws with
  | nil => rfl
  | cons w ws =>
    obtain ⟨h1, h2⟩ := h w (List.mem_cons_self ..)
    cases hb : w.1 with
    | nil => exact absurd hb h1
    | cons c b =>
      rw [textW, hb]
      exact h2 c (by rw [hb]; exact List.mem_cons_self ..)

theorem parse_ws : ∀ (ws : List (List UInt8 × E6)) (q a : Nat) (acc : List E6), (∀ w ∈ ws, w.1 ≠ [] ∧ (∀ c ∈ w.1, blankC c = true) ∧ codeF w.2 = 0) → (textW ws).length < q →
    parseL q (textW ws) a acc = (acc ++ ws.map Prod.snd, 0, 0)
  | [], q, a, acc, _, _ => by rw [textW, parse_nil]; simp
  | w :: ws, q, a, acc, h, hq => by
    obtain ⟨h1, h2, h3⟩ := h w (List.mem_cons_self ..)
    obtain ⟨n0, n1, n2, n3⟩ := name_facts h3
    have hl : 0 < (nameF w.2).length := List.length_pos_iff.2 n0
    simp only [textW, List.length_append] at hq
    obtain ⟨q, rfl⟩ : ∃ p, q = p + 1 + w.1.length := ⟨q - 1 - w.1.length, by omega⟩
    rw [textW, parse_blanks _ _ _ _ _ h2, parse_word n1 n0 (textW_ends ws fun v hv => ⟨(h v (List.mem_cons_of_mem _ hv)).1, (h v (List.mem_cons_of_mem _ hv)).2.1⟩) n2, n3, parse_ws ws q _ _ (fun v hv => h v (List.mem_cons_of_mem _ hv)) (by omega)]
    simp

/-! ### Blanks ahead of a name -/

/-- The blank of a name's place. -/
def blB (b k : Nat) : UInt8 := Go.Sy.byteOf (sel (nbeq (toN (itmod (wr IntKind.i64 (iadd (Int.ofNat b) (Int.ofNat k))) 4)) 0) 32 (sel (nbeq (nsub (toN (itmod (wr IntKind.i64 (iadd (Int.ofNat b) (Int.ofNat k))) 4)) 1) 0) 9 (sel (nbeq (nsub (nsub (toN (itmod (wr IntKind.i64 (iadd (Int.ofNat b) (Int.ofNat k))) 4)) 1) 1) 0) 10 13)))

theorem blB_blank (b k : Nat) : blankC (blB b k) = true := by
  unfold blB
  generalize nbeq (toN (itmod (wr IntKind.i64 (iadd (Int.ofNat b) (Int.ofNat k))) 4)) 0 = x
  generalize nbeq (nsub (toN (itmod (wr IntKind.i64 (iadd (Int.ofNat b) (Int.ofNat k))) 4)) 1) 0 = y
  generalize nbeq (nsub (nsub (toN (itmod (wr IntKind.i64 (iadd (Int.ofNat b) (Int.ofNat k))) 4)) 1) 1) 0 = z
  cases x <;> cases y <;> cases z <;> rfl

def blL (b k : Nat) : List UInt8 := (List.range k).map (blB b)
theorem blL_succ (b k : Nat) : blL b (k + 1) = blL b k ++ [blB b k] := by simp [blL, List.range_succ]
theorem blL_len (b k : Nat) : (blL b k).length = k := by simp [blL]
theorem blL_blank (b k : Nat) : ∀ c ∈ blL b k, blankC c = true := fun c hc => by
  obtain ⟨i, _, rfl⟩ := List.mem_map.1 hc
  exact blB_blank b i

/-- How many blanks stand there. -/
def gapN (m : Nat) (g : Nat → Int) (b : Nat) : Nat := if b < m then 1 + toN (itmod (wr IntKind.u64 (g b)) 3) else 1

theorem gap3 (x : Int) : 0 ≤ itmod (wr IntKind.u64 x) 3 ∧ itmod (wr IntKind.u64 x) 3 < 3 := by
  have h : 0 ≤ wr IntKind.u64 x := by
    unfold wr IntKind.wrap
    simp [IntKind.bits, IntKind.signed]
    omega
  unfold itmod
  generalize wr IntKind.u64 x = y at h ⊢
  exact ⟨Int.tmod_nonneg 3 h, Int.tmod_lt_of_pos y (by decide)⟩

theorem gap_in {m b : Nat} (g : Nat → Int) (h : b < m) : wr IntKind.i64 (iadd 1 (wr IntKind.i64 (itmod (wr IntKind.u64 (g b)) 3))) = Int.ofNat (gapN m g b) := by
  unfold gapN
  rw [if_pos h]
  obtain ⟨h1, h2⟩ := gap3 (g b)
  generalize itmod (wr IntKind.u64 (g b)) 3 = r at h1 h2 ⊢
  have : r = 0 ∨ r = 1 ∨ r = 2 := by omega
  rcases this with rfl | rfl | rfl <;> rfl
theorem gap_out {m b : Nat} (g : Nat → Int) (h : ¬ b < m) : (1 : Int) = Int.ofNat (gapN m g b) := by
  unfold gapN
  rw [if_neg h]
  rfl
theorem gap_le (m : Nat) (g : Nat → Int) (b : Nat) : 1 ≤ gapN m g b ∧ gapN m g b ≤ 3 := by
  unfold gapN
  obtain ⟨h1, h2⟩ := gap3 (g b)
  split
  · simp only [toN]; omega
  · omega

def gapW (m : Nat) (f : Nat → E6) (g : Nat → Int) (b : Nat) : List (List UInt8 × E6) := (List.range b).map fun i => (blL i (gapN m g i), f i)
theorem gapW_succ (m : Nat) (f : Nat → E6) (g : Nat → Int) (b : Nat) : textW (gapW m f g (b + 1)) = textW (gapW m f g b) ++ (blL b (gapN m g b) ++ nameF (f b)) := by
  rw [← textW_app]
  simp [gapW, List.range_succ]


theorem apIsemB {α : Type} (m : Nat) (g : Nat → Int) (F : Nat → (Nat → Int) → T α) : (apI (intsV m g) F).sem = (F m g).sem := by
  show sel (allN m fun _ => true) (F m g).sem none = _
  rw [show allN m (fun _ => true) = true from allN_iff.2 fun _ _ => rfl]
  rfl
def uV (n : Int) : V := .val (.int .u64 n)
theorem ile_0b (i : Nat) : ile 0 (Int.ofNat i) = true := decide_eq_true (Int.natCast_nonneg i)
theorem fit_smallB {n : Nat} (hn : fitN n = true) : smallN n = true := decide_eq_true (fit_small hn)
noncomputable def tb20 : List (Nat × (List V → T (V × List Blk))) := [(63, printT), (64, printT), (40, psT), (42, sameT), (46, unitT (bV true))]
theorem tb20_ok : AllPure Tryd.prog Gl tb20 := .cons p63 <| .cons p64 <| .cons p40 <| .cons p42 <| .cons p46 .nil

def en20r (n : Nat) (f : Nat → E6) (m : Nat) (g : Nat → Int) (s : List UInt8) : Ex × St := (.rt, ⟨[.sl 6 n fun k => eV (f k), .sl 1 m fun k => iV (g k), .und, .und, bV true, .str s, .und, .und, .und, .und, .und, .und, .und, .und, .und, .und, .und, .und, .und, .und, .und, .und, .und, .und, .und, .und, .und, .und, .und, .und, .und, .und, .und, .und, .und, .und, .und, .und, .und, .und, .und, .und, .und, .und, .und, .und, .und, .und, .und, .und, .und, .und, .und, .und, .und, .und, .und, .und, .und, .und, .und, .und, .und, .und, .und, .und, .und, .und, .und, .und, .und, .und, .und, .und, .und, .und, .und, .und, .und, .und, .und, .und, .und, .und, .und, .und, .und, .und, .und, .und, .und, .und, .und, .und, .und, .und, .und, .und, .und, .und, .und, .und], []⟩)
def lp20 (n : Nat) (f : Nat → E6) (m : Nat) (g : Nat → Int) : Lp := ⟨[true, true, false, false, true, true, true, false, false, false, false, false, false, false, false, false, false, false, false, false, false, false, false, false, false, false, false, false, false, false, false, false, false, false, false, false, false, false, false, false, false, false, false, false, false, false, false, false, false, false, false, false, false, false, false, false, false, false, false, false, false, false, false, false, false, false, false, false, false, false, false, false, false, false, false, false, false, false, false, false, false, false, false, false, false, false, false, false, false, false, false, false, false, false, false, false, false, false, false, false, false, false], 0, [true, true, false, false, true, true, false, false, false, false, false, false, false, false, false, false, false, false, false, false, false, false, false, false, false, false, false, false, false, false, false, false, false, false, false, false, false, false, false, false, false, false, false, false, false, false, false, false, false, false, false, false, false, false, false, false, false, false, false, false, false, false, false, false, false, false, false, false, false, false, false, false, false, false, false, false, false, false, false, false, false, false, false, false, false, false, false, false, false, false, false, false, false, false, false, false, false, false, false, false, false, false], 0, n + 1⟩
def st20 (n : Nat) (f : Nat → E6) (m : Nat) (g : Nat → Int) (s : List UInt8) (b : Nat) (j : Nat → V) : St := ⟨[.sl 6 n fun k => eV (f k), .sl 1 m fun k => iV (g k), j 2, j 3, bV false, .str s, iV (Int.ofNat b), j 7, j 8, j 9, j 10, j 11, j 12, j 13, j 14, j 15, j 16, j 17, j 18, j 19, j 20, j 21, j 22, j 23, j 24, j 25, j 26, j 27, j 28, j 29, j 30, j 31, j 32, j 33, j 34, j 35, j 36, j 37, j 38, j 39, j 40, j 41, j 42, j 43, j 44, j 45, j 46, j 47, j 48, j 49, j 50, j 51, j 52, j 53, j 54, j 55, j 56, j 57, j 58, j 59, j 60, j 61, j 62, j 63, j 64, j 65, j 66, j 67, j 68, j 69, j 70, j 71, j 72, j 73, j 74, j 75, j 76, j 77, j 78, j 79, j 80, j 81, j 82, j 83, j 84, j 85, j 86, j 87, j 88, j 89, j 90, j 91, j 92, j 93, j 94, j 95, j 96, j 97, j 98, j 99, j 100, j 101], []⟩
def en20e (n : Nat) (f : Nat → E6) (m : Nat) (g : Nat → Int) (s : List UInt8) (b : Nat) : Ex × St := (.ex 0, ⟨[.sl 6 n fun k => eV (f k), .sl 1 m fun k => iV (g k), .und, .und, bV false, .str s, .und, .und, .und, .und, .und, .und, .und, .und, .und, .und, .und, .und, .und, .und, .und, .und, .und, .und, .und, .und, .und, .und, .und, .und, .und, .und, .und, .und, .und, .und, .und, .und, .und, .und, .und, .und, .und, .und, .und, .und, .und, .und, .und, .und, .und, .und, .und, .und, .und, .und, .und, .und, .und, .und, .und, .und, .und, .und, .und, .und, .und, .und, .und, .und, .und, .und, .und, .und, .und, .und, .und, .und, .und, .und, .und, .und, .und, .und, .und, .und, .und, .und, .und, .und, .und, .und, .und, .und, .und, .und, .und, .und, .und, .und, .und, .und], []⟩)
noncomputable def body20 (L : Nat → (St → T (Ex × St)) → St → T (Ex × St)) : St → T (Ex × St) := fun st => evalC tab ⟨callT tb20, L, Gl⟩ (loopBody Tryd.f20 0) 0 st
theorem rb20e_p (L : Nat → (St → T (Ex × St)) → St → T (Ex × St)) (n : Nat) (f : Nat → E6) (m : Nat) (g : Nat → Int) (s : List UInt8) (b : Nat)  (j : Nat → V) : ((body20 L (st20 n f m g s b j)).bind fun r => T.leaf (cutR (lp20 n f m g) r)).path [false] = some ([(ilt (Int.ofNat b) (Int.ofNat n))], ((.ex 0), ⟨[(.sl 6 n (fun k => (eV (f k)))), (.sl 1 m (fun k => (iV (g k)))), .und, .und, (bV Bool.false), (.str s), .und, .und, .und, .und, .und, .und, .und, .und, .und, .und, .und, .und, .und, .und, .und, .und, .und, .und, .und, .und, .und, .und, .und, .und, .und, .und, .und, .und, .und, .und, .und, .und, .und, .und, .und, .und, .und, .und, .und, .und, .und, .und, .und, .und, .und, .und, .und, .und, .und, .und, .und, .und, .und, .und, .und, .und, .und, .und, .und, .und, .und, .und, .und, .und, .und, .und, .und, .und, .und, .und, .und, .und, .und, .und, .und, .und, .und, .und, .und, .und, .und, .und, .und, .und, .und, .und, .und, .und, .und, .und, .und, .und, .und, .und, .und, .und], []⟩)) := by kernel_rfl
theorem rb20e (L : Nat → (St → T (Ex × St)) → St → T (Ex × St)) (n : Nat) (f : Nat → E6) (m : Nat) (g : Nat → Int) (s : List UInt8) (b : Nat)  (j : Nat → V) (h0 : ilt (Int.ofNat b) (Int.ofNat n) = false) : ((body20 L (st20 n f m g s b j)).bind fun r => T.leaf (cutR (lp20 n f m g) r)).sem = some ((.ex 0), ⟨[(.sl 6 n (fun k => (eV (f k)))), (.sl 1 m (fun k => (iV (g k)))), .und, .und, (bV Bool.false), (.str s), .und, .und, .und, .und, .und, .und, .und, .und, .und, .und, .und, .und, .und, .und, .und, .und, .und, .und, .und, .und, .und, .und, .und, .und, .und, .und, .und, .und, .und, .und, .und, .und, .und, .und, .und, .und, .und, .und, .und, .und, .und, .und, .und, .und, .und, .und, .und, .und, .und, .und, .und, .und, .und, .und, .und, .und, .und, .und, .und, .und, .und, .und, .und, .und, .und, .und, .und, .und, .und, .und, .und, .und, .und, .und, .und, .und, .und, .und, .und, .und, .und, .und, .und, .und, .und, .und, .und, .und, .und, .und, .und, .und, .und, .und, .und, .und], []⟩) := by
  exact sem_of_path (rb20e_p L n f m g s b j) (by simp only [h0] <;> rfl)

def lp20_2 (n : Nat) (f : Nat → E6) (m : Nat) (g : Nat → Int) : Lp := ⟨[true, true, false, false, true, true, true, true, false, false, false, true, true, false, false, false, false, false, false, false, false, false, false, false, false, false, false, false, false, false, false, false, false, false, false, false, false, false, false, false, false, false, false, false, false, false, false, false, false, false, false, false, false, false, false, false, false, false, false, false, false, false, false, false, false, false, false, false, false, false, false, false, false, false, false, false, false, false, false, false, false, false, false, false, false, false, false, false, false, false, false, false, false, false, false, false, false, false, false, false, false, false], 0, [true, true, false, false, true, true, true, true, false, false, false, false, false, false, false, false, false, false, false, false, false, false, false, false, false, false, false, false, false, false, false, false, false, false, false, false, false, false, false, false, false, false, false, false, false, false, false, false, false, false, false, false, false, false, false, false, false, false, false, false, false, false, false, false, false, false, false, false, false, false, false, false, false, false, false, false, false, false, false, false, false, false, false, false, false, false, false, false, false, false, false, false, false, false, false, false, false, false, false, false, false, false], 0, 4⟩
def st20_2 (n : Nat) (f : Nat → E6) (m : Nat) (g : Nat → Int) (s w : List UInt8) (b : Nat) (c : Int) (k : Nat) (j : Nat → V) : St := ⟨[.sl 6 n fun k => eV (f k), .sl 1 m fun k => iV (g k), j 2, j 3, bV false, .str s, iV (Int.ofNat b), .str w, j 8, j 9, j 10, iV c, iV (Int.ofNat k), j 13, j 14, j 15, j 16, j 17, j 18, j 19, j 20, j 21, j 22, j 23, j 24, j 25, j 26, j 27, j 28, j 29, j 30, j 31, j 32, j 33, j 34, j 35, j 36, j 37, j 38, j 39, j 40, j 41, j 42, j 43, j 44, j 45, j 46, j 47, j 48, j 49, j 50, j 51, j 52, j 53, j 54, j 55, j 56, j 57, j 58, j 59, j 60, j 61, j 62, j 63, j 64, j 65, j 66, j 67, j 68, j 69, j 70, j 71, j 72, j 73, j 74, j 75, j 76, j 77, j 78, j 79, j 80, j 81, j 82, j 83, j 84, j 85, j 86, j 87, j 88, j 89, j 90, j 91, j 92, j 93, j 94, j 95, j 96, j 97, j 98, j 99, j 100, j 101], []⟩
def en20_2e (n : Nat) (f : Nat → E6) (m : Nat) (g : Nat → Int) (s w : List UInt8) (b : Nat) (c : Int) (k : Nat) : Ex × St := (.ex 2, ⟨[.sl 6 n fun k => eV (f k), .sl 1 m fun k => iV (g k), .und, .und, bV false, .str s, iV (Int.ofNat b), .str w, .und, .und, .und, .und, .und, .und, .und, .und, .und, .und, .und, .und, .und, .und, .und, .und, .und, .und, .und, .und, .und, .und, .und, .und, .und, .und, .und, .und, .und, .und, .und, .und, .und, .und, .und, .und, .und, .und, .und, .und, .und, .und, .und, .und, .und, .und, .und, .und, .und, .und, .und, .und, .und, .und, .und, .und, .und, .und, .und, .und, .und, .und, .und, .und, .und, .und, .und, .und, .und, .und, .und, .und, .und, .und, .und, .und, .und, .und, .und, .und, .und, .und, .und, .und, .und, .und, .und, .und, .und, .und, .und, .und, .und, .und], []⟩)
noncomputable def body20_2 (L : Nat → (St → T (Ex × St)) → St → T (Ex × St)) : St → T (Ex × St) := fun st => evalC tab ⟨callT tb20, L, Gl⟩ (loopBody Tryd.f20 2) 2 st
theorem ri20e_p (L : Nat → (St → T (Ex × St)) → St → T (Ex × St)) (n : Nat) (f : Nat → E6) (m : Nat) (g : Nat → Int) (s w : List UInt8) (b : Nat) (c : Int) (k : Nat)  (j : Nat → V) : ((body20_2 L (st20_2 n f m g s w b c k j)).bind fun r => T.leaf (cutR (lp20_2 n f m g) r)).path [false] = some ([(ilt (Int.ofNat k) c)], ((.ex 2), ⟨[(.sl 6 n (fun k => (eV (f k)))), (.sl 1 m (fun k => (iV (g k)))), .und, .und, (bV Bool.false), (.str s), (iV (Int.ofNat b)), (.str w), .und, .und, .und, .und, .und, .und, .und, .und, .und, .und, .und, .und, .und, .und, .und, .und, .und, .und, .und, .und, .und, .und, .und, .und, .und, .und, .und, .und, .und, .und, .und, .und, .und, .und, .und, .und, .und, .und, .und, .und, .und, .und, .und, .und, .und, .und, .und, .und, .und, .und, .und, .und, .und, .und, .und, .und, .und, .und, .und, .und, .und, .und, .und, .und, .und, .und, .und, .und, .und, .und, .und, .und, .und, .und, .und, .und, .und, .und, .und, .und, .und, .und, .und, .und, .und, .und, .und, .und, .und, .und, .und, .und, .und, .und], []⟩)) := by kernel_rfl
theorem ri20e (L : Nat → (St → T (Ex × St)) → St → T (Ex × St)) (n : Nat) (f : Nat → E6) (m : Nat) (g : Nat → Int) (s w : List UInt8) (b : Nat) (c : Int) (k : Nat)  (j : Nat → V) (h0 : ilt (Int.ofNat k) c = false) : ((body20_2 L (st20_2 n f m g s w b c k j)).bind fun r => T.leaf (cutR (lp20_2 n f m g) r)).sem = some ((.ex 2), ⟨[(.sl 6 n (fun k => (eV (f k)))), (.sl 1 m (fun k => (iV (g k)))), .und, .und, (bV Bool.false), (.str s), (iV (Int.ofNat b)), (.str w), .und, .und, .und, .und, .und, .und, .und, .und, .und, .und, .und, .und, .und, .und, .und, .und, .und, .und, .und, .und, .und, .und, .und, .und, .und, .und, .und, .und, .und, .und, .und, .und, .und, .und, .und, .und, .und, .und, .und, .und, .und, .und, .und, .und, .und, .und, .und, .und, .und, .und, .und, .und, .und, .und, .und, .und, .und, .und, .und, .und, .und, .und, .und, .und, .und, .und, .und, .und, .und, .und, .und, .und, .und, .und, .und, .und, .und, .und, .und, .und, .und, .und, .und, .und, .und, .und, .und, .und, .und, .und, .und, .und, .und, .und], []⟩) := by
  exact sem_of_path (ri20e_p L n f m g s w b c k j) (by simp only [h0] <;> rfl)
theorem ri20n_p (L : Nat → (St → T (Ex × St)) → St → T (Ex × St)) (n : Nat) (f : Nat → E6) (m : Nat) (g : Nat → Int) (s w : List UInt8) (b : Nat) (c : Int) (k : Nat)  (j : Nat → V) : ((body20_2 L (st20_2 n f m g s w b c k j)).bind fun r => T.leaf (cutR (lp20_2 n f m g) r)).path [true, true, true, true] = some ([(ilt (Int.ofNat k) c), (band (ile 0 (itmod (wr IntKind.i64 (iadd (Int.ofNat b) (Int.ofNat k))) 4)) (ilt (itmod (wr IntKind.i64 (iadd (Int.ofNat b) (Int.ofNat k))) 4) 4)), (nlt (toN (itmod (wr IntKind.i64 (iadd (Int.ofNat b) (Int.ofNat k))) 4)) 4), (strOK s [(blB b k)])], (.nm, ⟨[(.sl 6 n (fun k => (eV (f k)))), (.sl 1 m (fun k => (iV (g k)))), .und, .und, (bV Bool.false), (.str (sapp s [(blB b k)])), (iV (Int.ofNat b)), (.str w), .und, .und, .und, (iV c), (iV (wr IntKind.i64 (iadd (Int.ofNat k) 1))), .und, .und, .und, .und, .und, .und, .und, .und, .und, .und, .und, .und, .und, .und, .und, .und, .und, .und, .und, .und, .und, .und, .und, .und, .und, .und, .und, .und, .und, .und, .und, .und, .und, .und, .und, .und, .und, .und, .und, .und, .und, .und, .und, .und, .und, .und, .und, .und, .und, .und, .und, .und, .und, .und, .und, .und, .und, .und, .und, .und, .und, .und, .und, .und, .und, .und, .und, .und, .und, .und, .und, .und, .und, .und, .und, .und, .und, .und, .und, .und, .und, .und, .und, .und, .und, .und, .und, .und, .und], []⟩)) := by kernel_rfl
theorem ri20n (L : Nat → (St → T (Ex × St)) → St → T (Ex × St)) (n : Nat) (f : Nat → E6) (m : Nat) (g : Nat → Int) (s w : List UInt8) (b : Nat) (c : Int) (k : Nat)  (j : Nat → V) (h0 : ilt (Int.ofNat k) c = true) (h14 : band (ile 0 (itmod (wr IntKind.i64 (iadd (Int.ofNat b) (Int.ofNat k))) 4)) (ilt (itmod (wr IntKind.i64 (iadd (Int.ofNat b) (Int.ofNat k))) 4) 4) = true) (h15 : nlt (toN (itmod (wr IntKind.i64 (iadd (Int.ofNat b) (Int.ofNat k))) 4)) 4 = true) (h16 : strOK s [(blB b k)] = true) : ((body20_2 L (st20_2 n f m g s w b c k j)).bind fun r => T.leaf (cutR (lp20_2 n f m g) r)).sem = some (.nm, ⟨[(.sl 6 n (fun k => (eV (f k)))), (.sl 1 m (fun k => (iV (g k)))), .und, .und, (bV Bool.false), (.str (sapp s [(blB b k)])), (iV (Int.ofNat b)), (.str w), .und, .und, .und, (iV c), (iV (wr IntKind.i64 (iadd (Int.ofNat k) 1))), .und, .und, .und, .und, .und, .und, .und, .und, .und, .und, .und, .und, .und, .und, .und, .und, .und, .und, .und, .und, .und, .und, .und, .und, .und, .und, .und, .und, .und, .und, .und, .und, .und, .und, .und, .und, .und, .und, .und, .und, .und, .und, .und, .und, .und, .und, .und, .und, .und, .und, .und, .und, .und, .und, .und, .und, .und, .und, .und, .und, .und, .und, .und, .und, .und, .und, .und, .und, .und, .und, .und, .und, .und, .und, .und, .und, .und, .und, .und, .und, .und, .und, .und, .und, .und, .und, .und, .und, .und], []⟩) := by
  exact sem_of_path (ri20n_p L n f m g s w b c k j) (by simp only [h14] <;> simp only [h0, h15, h16] <;> rfl)

def ent20y (n : Nat) (f : Nat → E6) (m : Nat) (g : Nat → Int) (s : List UInt8) (b : Nat) (j : Nat → V) : St := ⟨[(.sl 6 n (fun k => (eV (f k)))), (.sl 1 m (fun k => (iV (g k)))), (j 2), (j 3), (bV Bool.false), (.str s), (iV (Int.ofNat b)), (.str (printS (nsub (toN (wr IntKind.i64 (iadd (Int.ofNat b) 1))) b) (fun i => (f (nadd b i))))), (iV (printE (nsub (toN (wr IntKind.i64 (iadd (Int.ofNat b) 1))) b) (fun i => (f (nadd b i))))), (j 9), (j 10), (iV (wr IntKind.i64 (iadd 1 (wr IntKind.i64 (itmod (wr IntKind.u64 (g b)) 3))))), (iV 0), (j 13), (j 14), (j 15), (iV (Int.ofNat b)), (.sl 6 n (fun k => (eV (f k)))), (iV (Int.ofNat n)), (bV (ilt (Int.ofNat b) (Int.ofNat n))), (j 20), (j 21), (.tup [(.str (printS (nsub (toN (wr IntKind.i64 (iadd (Int.ofNat b) 1))) b) (fun i => (f (nadd b i))))), (iV (printE (nsub (toN (wr IntKind.i64 (iadd (Int.ofNat b) 1))) b) (fun i => (f (nadd b i)))))]), (.sl 6 n (fun k => (eV (f k)))), (iV (Int.ofNat b)), (iV (Int.ofNat b)), (iV (wr IntKind.i64 (iadd (Int.ofNat b) 1))), (.sl 6 (nsub (toN (wr IntKind.i64 (iadd (Int.ofNat b) 1))) b) (fun i => (eV (f (nadd b i))))), (.tup [(.str (printS (nsub (toN (wr IntKind.i64 (iadd (Int.ofNat b) 1))) b) (fun i => (f (nadd b i))))), (iV (printE (nsub (toN (wr IntKind.i64 (iadd (Int.ofNat b) 1))) b) (fun i => (f (nadd b i)))))]), (.str (printS (nsub (toN (wr IntKind.i64 (iadd (Int.ofNat b) 1))) b) (fun i => (f (nadd b i))))), (iV (printE (nsub (toN (wr IntKind.i64 (iadd (Int.ofNat b) 1))) b) (fun i => (f (nadd b i))))), (iV (printE (nsub (toN (wr IntKind.i64 (iadd (Int.ofNat b) 1))) b) (fun i => (f (nadd b i))))), (bV (bnot (ieq (printE (nsub (toN (wr IntKind.i64 (iadd (Int.ofNat b) 1))) b) (fun i => (f (nadd b i)))) 0))), (j 33), (j 34), (j 35), (j 36), (j 37), (j 38), (j 39), (j 40), (j 41), (j 42), (j 43), (j 44), (j 45), (j 46), (iV (Int.ofNat b)), (.sl 1 m (fun k => (iV (g k)))), (iV (Int.ofNat m)), (bV (ilt (Int.ofNat b) (Int.ofNat m))), (.sl 1 m (fun k => (iV (g k)))), (iV (Int.ofNat b)), (.pp (iV (g b))), (iV (g b)), (uV (wr IntKind.u64 (g b))), (uV (itmod (wr IntKind.u64 (g b)) 3)), (iV (wr IntKind.i64 (itmod (wr IntKind.u64 (g b)) 3))), (iV (wr IntKind.i64 (iadd 1 (wr IntKind.i64 (itmod (wr IntKind.u64 (g b)) 3))))), (j 59), (j 60), (j 61), (j 62), (j 63), (j 64), (j 65), (j 66), (j 67), (j 68), (j 69), (j 70), (j 71), (j 72), (j 73), (j 74), (j 75), (j 76), (j 77), (j 78), (j 79), (j 80), (j 81), (j 82), (j 83), (j 84), (j 85), (j 86), (j 87), (j 88), (j 89), (j 90), (j 91), (j 92), (j 93), (j 94), (j 95), (j 96), (j 97), (j 98), (j 99), (j 100), (j 101)], []⟩

def ent20n (n : Nat) (f : Nat → E6) (m : Nat) (g : Nat → Int) (s : List UInt8) (b : Nat) (j : Nat → V) : St := ⟨[(.sl 6 n (fun k => (eV (f k)))), (.sl 1 m (fun k => (iV (g k)))), (j 2), (j 3), (bV Bool.false), (.str s), (iV (Int.ofNat b)), (.str (printS (nsub (toN (wr IntKind.i64 (iadd (Int.ofNat b) 1))) b) (fun i => (f (nadd b i))))), (iV (printE (nsub (toN (wr IntKind.i64 (iadd (Int.ofNat b) 1))) b) (fun i => (f (nadd b i))))), (j 9), (j 10), (iV 1), (iV 0), (j 13), (j 14), (j 15), (iV (Int.ofNat b)), (.sl 6 n (fun k => (eV (f k)))), (iV (Int.ofNat n)), (bV (ilt (Int.ofNat b) (Int.ofNat n))), (j 20), (j 21), (.tup [(.str (printS (nsub (toN (wr IntKind.i64 (iadd (Int.ofNat b) 1))) b) (fun i => (f (nadd b i))))), (iV (printE (nsub (toN (wr IntKind.i64 (iadd (Int.ofNat b) 1))) b) (fun i => (f (nadd b i)))))]), (.sl 6 n (fun k => (eV (f k)))), (iV (Int.ofNat b)), (iV (Int.ofNat b)), (iV (wr IntKind.i64 (iadd (Int.ofNat b) 1))), (.sl 6 (nsub (toN (wr IntKind.i64 (iadd (Int.ofNat b) 1))) b) (fun i => (eV (f (nadd b i))))), (.tup [(.str (printS (nsub (toN (wr IntKind.i64 (iadd (Int.ofNat b) 1))) b) (fun i => (f (nadd b i))))), (iV (printE (nsub (toN (wr IntKind.i64 (iadd (Int.ofNat b) 1))) b) (fun i => (f (nadd b i)))))]), (.str (printS (nsub (toN (wr IntKind.i64 (iadd (Int.ofNat b) 1))) b) (fun i => (f (nadd b i))))), (iV (printE (nsub (toN (wr IntKind.i64 (iadd (Int.ofNat b) 1))) b) (fun i => (f (nadd b i))))), (iV (printE (nsub (toN (wr IntKind.i64 (iadd (Int.ofNat b) 1))) b) (fun i => (f (nadd b i))))), (bV (bnot (ieq (printE (nsub (toN (wr IntKind.i64 (iadd (Int.ofNat b) 1))) b) (fun i => (f (nadd b i)))) 0))), (j 33), (j 34), (j 35), (j 36), (j 37), (j 38), (j 39), (j 40), (j 41), (j 42), (j 43), (j 44), (j 45), (j 46), (iV (Int.ofNat b)), (.sl 1 m (fun k => (iV (g k)))), (iV (Int.ofNat m)), (bV (ilt (Int.ofNat b) (Int.ofNat m))), (j 51), (j 52), (j 53), (j 54), (j 55), (j 56), (j 57), (j 58), (j 59), (j 60), (j 61), (j 62), (j 63), (j 64), (j 65), (j 66), (j 67), (j 68), (j 69), (j 70), (j 71), (j 72), (j 73), (j 74), (j 75), (j 76), (j 77), (j 78), (j 79), (j 80), (j 81), (j 82), (j 83), (j 84), (j 85), (j 86), (j 87), (j 88), (j 89), (j 90), (j 91), (j 92), (j 93), (j 94), (j 95), (j 96), (j 97), (j 98), (j 99), (j 100), (j 101)], []⟩

theorem ro20y_p (L : Nat → (St → T (Ex × St)) → St → T (Ex × St)) (p2 : (St → T (Ex × St)) → St → Bool) (n : Nat) (f : Nat → E6) (m : Nat) (g : Nat → Int) (s t w : List UInt8) (b : Nat) (c : Int) (k : Nat) (j : Nat → V) : ((body20 (onP 2 p2 (en20_2e n f m g t w b c k) L) (st20 n f m g s b j)).bind fun r => T.leaf (cutR (lp20 n f m g) r)).path [true, true, true, true, false, true, true, true, true, false] = some ([(ilt (Int.ofNat b) (Int.ofNat n)), (band (ile 0 (Int.ofNat b)) (band (ile (Int.ofNat b) (wr IntKind.i64 (iadd (Int.ofNat b) 1))) (ile (wr IntKind.i64 (iadd (Int.ofNat b) 1)) (Int.ofNat n)))), (allN (nsub (toN (wr IntKind.i64 (iadd (Int.ofNat b) 1))) b) (fun _ => Bool.true)), (fitN (nsub (toN (wr IntKind.i64 (iadd (Int.ofNat b) 1))) b)), (bnot (ieq (printE (nsub (toN (wr IntKind.i64 (iadd (Int.ofNat b) 1))) b) (fun i => (f (nadd b i)))) 0)), (ilt (Int.ofNat b) (Int.ofNat m)), (band (ile 0 (Int.ofNat b)) (ilt (Int.ofNat b) (Int.ofNat m))), (p2 (body20_2 (onP 2 p2 (en20_2e n f m g t w b c k) L)) (ent20y n f m g s b j)), (strOK t w), (ilt 262144 (Int.ofNat (slen (sapp t w))))], (.nm, ⟨[(.sl 6 n (fun k => (eV (f k)))), (.sl 1 m (fun k => (iV (g k)))), .und, .und, (bV Bool.false), (.str (sapp t w)), (iV (wr IntKind.i64 (iadd (Int.ofNat b) 1))), .und, .und, .und, .und, .und, .und, .und, .und, .und, .und, .und, .und, .und, .und, .und, .und, .und, .und, .und, .und, .und, .und, .und, .und, .und, .und, .und, .und, .und, .und, .und, .und, .und, .und, .und, .und, .und, .und, .und, .und, .und, .und, .und, .und, .und, .und, .und, .und, .und, .und, .und, .und, .und, .und, .und, .und, .und, .und, .und, .und, .und, .und, .und, .und, .und, .und, .und, .und, .und, .und, .und, .und, .und, .und, .und, .und, .und, .und, .und, .und, .und, .und, .und, .und, .und, .und, .und, .und, .und, .und, .und, .und, .und, .und, .und], []⟩)) := by kernel_rfl
theorem ro20y (L : Nat → (St → T (Ex × St)) → St → T (Ex × St)) (p2 : (St → T (Ex × St)) → St → Bool) (n : Nat) (f : Nat → E6) (m : Nat) (g : Nat → Int) (s t w : List UInt8) (b : Nat) (c : Int) (k : Nat) (j : Nat → V) (h0 : ilt (Int.ofNat b) (Int.ofNat n) = true) (h17 : band (ile 0 (Int.ofNat b)) (band (ile (Int.ofNat b) (wr IntKind.i64 (iadd (Int.ofNat b) 1))) (ile (wr IntKind.i64 (iadd (Int.ofNat b) 1)) (Int.ofNat n))) = true) (h18 : fitN (nsub (toN (wr IntKind.i64 (iadd (Int.ofNat b) 1))) b) = true) (h1 : ieq (printE (nsub (toN (wr IntKind.i64 (iadd (Int.ofNat b) 1))) b) (fun i => (f (nadd b i)))) 0 = true) (h2 : ilt (Int.ofNat b) (Int.ofNat m) = true) (h16 : ile 0 (Int.ofNat b) = true) (h19 : strOK t w = true) (h3 : ilt 262144 (Int.ofNat (slen (sapp t w))) = false) (hp2 : p2 (body20_2 (onP 2 p2 (en20_2e n f m g t w b c k) L)) (ent20y n f m g s b j) = true) : ((body20 (onP 2 p2 (en20_2e n f m g t w b c k) L) (st20 n f m g s b j)).bind fun r => T.leaf (cutR (lp20 n f m g) r)).sem = some (.nm, ⟨[(.sl 6 n (fun k => (eV (f k)))), (.sl 1 m (fun k => (iV (g k)))), .und, .und, (bV Bool.false), (.str (sapp t w)), (iV (wr IntKind.i64 (iadd (Int.ofNat b) 1))), .und, .und, .und, .und, .und, .und, .und, .und, .und, .und, .und, .und, .und, .und, .und, .und, .und, .und, .und, .und, .und, .und, .und, .und, .und, .und, .und, .und, .und, .und, .und, .und, .und, .und, .und, .und, .und, .und, .und, .und, .und, .und, .und, .und, .und, .und, .und, .und, .und, .und, .und, .und, .und, .und, .und, .und, .und, .und, .und, .und, .und, .und, .und, .und, .und, .und, .und, .und, .und, .und, .und, .und, .und, .und, .und, .und, .und, .und, .und, .und, .und, .und, .und, .und, .und, .und, .und, .und, .und, .und, .und, .und, .und, .und, .und], []⟩) := by
  exact sem_of_path (ro20y_p L p2 n f m g s t w b c k j) (by simp only [hp2] <;> simp only [h17] <;> simp only [h0, h18, h1, h2, h16, h19, h3, allN_true] <;> rfl)

theorem ro20yg_p (L : Nat → (St → T (Ex × St)) → St → T (Ex × St)) (p2 : (St → T (Ex × St)) → St → Bool) (n : Nat) (f : Nat → E6) (m : Nat) (g : Nat → Int) (s t w : List UInt8) (b : Nat) (c : Int) (k : Nat) (j : Nat → V) : ((body20 (onP 2 p2 (en20_2e n f m g t w b c k) L) (st20 n f m g s b j)).bind fun r => T.leaf (cutR (lp20 n f m g) r)).path [true, true, true, true, false, true, true, true, true, true] = some ([(ilt (Int.ofNat b) (Int.ofNat n)), (band (ile 0 (Int.ofNat b)) (band (ile (Int.ofNat b) (wr IntKind.i64 (iadd (Int.ofNat b) 1))) (ile (wr IntKind.i64 (iadd (Int.ofNat b) 1)) (Int.ofNat n)))), (allN (nsub (toN (wr IntKind.i64 (iadd (Int.ofNat b) 1))) b) (fun _ => Bool.true)), (fitN (nsub (toN (wr IntKind.i64 (iadd (Int.ofNat b) 1))) b)), (bnot (ieq (printE (nsub (toN (wr IntKind.i64 (iadd (Int.ofNat b) 1))) b) (fun i => (f (nadd b i)))) 0)), (ilt (Int.ofNat b) (Int.ofNat m)), (band (ile 0 (Int.ofNat b)) (ilt (Int.ofNat b) (Int.ofNat m))), (p2 (body20_2 (onP 2 p2 (en20_2e n f m g t w b c k) L)) (ent20y n f m g s b j)), (strOK t w), (ilt 262144 (Int.ofNat (slen (sapp t w))))], (.rt, ⟨[(.sl 6 n (fun k => (eV (f k)))), (.sl 1 m (fun k => (iV (g k)))), .und, .und, (bV Bool.true), (.str (sapp t w)), .und, .und, .und, .und, .und, .und, .und, .und, .und, .und, .und, .und, .und, .und, .und, .und, .und, .und, .und, .und, .und, .und, .und, .und, .und, .und, .und, .und, .und, .und, .und, .und, .und, .und, .und, .und, .und, .und, .und, .und, .und, .und, .und, .und, .und, .und, .und, .und, .und, .und, .und, .und, .und, .und, .und, .und, .und, .und, .und, .und, .und, .und, .und, .und, .und, .und, .und, .und, .und, .und, .und, .und, .und, .und, .und, .und, .und, .und, .und, .und, .und, .und, .und, .und, .und, .und, .und, .und, .und, .und, .und, .und, .und, .und, .und, .und], []⟩)) := by kernel_rfl
theorem ro20yg (L : Nat → (St → T (Ex × St)) → St → T (Ex × St)) (p2 : (St → T (Ex × St)) → St → Bool) (n : Nat) (f : Nat → E6) (m : Nat) (g : Nat → Int) (s t w : List UInt8) (b : Nat) (c : Int) (k : Nat) (j : Nat → V) (h0 : ilt (Int.ofNat b) (Int.ofNat n) = true) (h17 : band (ile 0 (Int.ofNat b)) (band (ile (Int.ofNat b) (wr IntKind.i64 (iadd (Int.ofNat b) 1))) (ile (wr IntKind.i64 (iadd (Int.ofNat b) 1)) (Int.ofNat n))) = true) (h18 : fitN (nsub (toN (wr IntKind.i64 (iadd (Int.ofNat b) 1))) b) = true) (h1 : ieq (printE (nsub (toN (wr IntKind.i64 (iadd (Int.ofNat b) 1))) b) (fun i => (f (nadd b i)))) 0 = true) (h2 : ilt (Int.ofNat b) (Int.ofNat m) = true) (h16 : ile 0 (Int.ofNat b) = true) (h19 : strOK t w = true) (h3 : ilt 262144 (Int.ofNat (slen (sapp t w))) = true) (hp2 : p2 (body20_2 (onP 2 p2 (en20_2e n f m g t w b c k) L)) (ent20y n f m g s b j) = true) : ((body20 (onP 2 p2 (en20_2e n f m g t w b c k) L) (st20 n f m g s b j)).bind fun r => T.leaf (cutR (lp20 n f m g) r)).sem = some (.rt, ⟨[(.sl 6 n (fun k => (eV (f k)))), (.sl 1 m (fun k => (iV (g k)))), .und, .und, (bV Bool.true), (.str (sapp t w)), .und, .und, .und, .und, .und, .und, .und, .und, .und, .und, .und, .und, .und, .und, .und, .und, .und, .und, .und, .und, .und, .und, .und, .und, .und, .und, .und, .und, .und, .und, .und, .und, .und, .und, .und, .und, .und, .und, .und, .und, .und, .und, .und, .und, .und, .und, .und, .und, .und, .und, .und, .und, .und, .und, .und, .und, .und, .und, .und, .und, .und, .und, .und, .und, .und, .und, .und, .und, .und, .und, .und, .und, .und, .und, .und, .und, .und, .und, .und, .und, .und, .und, .und, .und, .und, .und, .und, .und, .und, .und, .und, .und, .und, .und, .und, .und], []⟩) := by
  exact sem_of_path (ro20yg_p L p2 n f m g s t w b c k j) (by simp only [hp2] <;> simp only [h17] <;> simp only [h0, h18, h1, h2, h16, h19, h3, allN_true] <;> rfl)

theorem ro20n_p (L : Nat → (St → T (Ex × St)) → St → T (Ex × St)) (p2 : (St → T (Ex × St)) → St → Bool) (n : Nat) (f : Nat → E6) (m : Nat) (g : Nat → Int) (s t w : List UInt8) (b : Nat) (c : Int) (k : Nat) (j : Nat → V) : ((body20 (onP 2 p2 (en20_2e n f m g t w b c k) L) (st20 n f m g s b j)).bind fun r => T.leaf (cutR (lp20 n f m g) r)).path [true, true, true, true, false, false, true, true, false] = some ([(ilt (Int.ofNat b) (Int.ofNat n)), (band (ile 0 (Int.ofNat b)) (band (ile (Int.ofNat b) (wr IntKind.i64 (iadd (Int.ofNat b) 1))) (ile (wr IntKind.i64 (iadd (Int.ofNat b) 1)) (Int.ofNat n)))), (allN (nsub (toN (wr IntKind.i64 (iadd (Int.ofNat b) 1))) b) (fun _ => Bool.true)), (fitN (nsub (toN (wr IntKind.i64 (iadd (Int.ofNat b) 1))) b)), (bnot (ieq (printE (nsub (toN (wr IntKind.i64 (iadd (Int.ofNat b) 1))) b) (fun i => (f (nadd b i)))) 0)), (ilt (Int.ofNat b) (Int.ofNat m)), (p2 (body20_2 (onP 2 p2 (en20_2e n f m g t w b c k) L)) (ent20n n f m g s b j)), (strOK t w), (ilt 262144 (Int.ofNat (slen (sapp t w))))], (.nm, ⟨[(.sl 6 n (fun k => (eV (f k)))), (.sl 1 m (fun k => (iV (g k)))), .und, .und, (bV Bool.false), (.str (sapp t w)), (iV (wr IntKind.i64 (iadd (Int.ofNat b) 1))), .und, .und, .und, .und, .und, .und, .und, .und, .und, .und, .und, .und, .und, .und, .und, .und, .und, .und, .und, .und, .und, .und, .und, .und, .und, .und, .und, .und, .und, .und, .und, .und, .und, .und, .und, .und, .und, .und, .und, .und, .und, .und, .und, .und, .und, .und, .und, .und, .und, .und, .und, .und, .und, .und, .und, .und, .und, .und, .und, .und, .und, .und, .und, .und, .und, .und, .und, .und, .und, .und, .und, .und, .und, .und, .und, .und, .und, .und, .und, .und, .und, .und, .und, .und, .und, .und, .und, .und, .und, .und, .und, .und, .und, .und, .und], []⟩)) := by kernel_rfl
theorem ro20n (L : Nat → (St → T (Ex × St)) → St → T (Ex × St)) (p2 : (St → T (Ex × St)) → St → Bool) (n : Nat) (f : Nat → E6) (m : Nat) (g : Nat → Int) (s t w : List UInt8) (b : Nat) (c : Int) (k : Nat) (j : Nat → V) (h0 : ilt (Int.ofNat b) (Int.ofNat n) = true) (h17 : band (ile 0 (Int.ofNat b)) (band (ile (Int.ofNat b) (wr IntKind.i64 (iadd (Int.ofNat b) 1))) (ile (wr IntKind.i64 (iadd (Int.ofNat b) 1)) (Int.ofNat n))) = true) (h18 : fitN (nsub (toN (wr IntKind.i64 (iadd (Int.ofNat b) 1))) b) = true) (h1 : ieq (printE (nsub (toN (wr IntKind.i64 (iadd (Int.ofNat b) 1))) b) (fun i => (f (nadd b i)))) 0 = true) (h2 : ilt (Int.ofNat b) (Int.ofNat m) = false) (h19 : strOK t w = true) (h3 : ilt 262144 (Int.ofNat (slen (sapp t w))) = false) (hp2 : p2 (body20_2 (onP 2 p2 (en20_2e n f m g t w b c k) L)) (ent20n n f m g s b j) = true) : ((body20 (onP 2 p2 (en20_2e n f m g t w b c k) L) (st20 n f m g s b j)).bind fun r => T.leaf (cutR (lp20 n f m g) r)).sem = some (.nm, ⟨[(.sl 6 n (fun k => (eV (f k)))), (.sl 1 m (fun k => (iV (g k)))), .und, .und, (bV Bool.false), (.str (sapp t w)), (iV (wr IntKind.i64 (iadd (Int.ofNat b) 1))), .und, .und, .und, .und, .und, .und, .und, .und, .und, .und, .und, .und, .und, .und, .und, .und, .und, .und, .und, .und, .und, .und, .und, .und, .und, .und, .und, .und, .und, .und, .und, .und, .und, .und, .und, .und, .und, .und, .und, .und, .und, .und, .und, .und, .und, .und, .und, .und, .und, .und, .und, .und, .und, .und, .und, .und, .und, .und, .und, .und, .und, .und, .und, .und, .und, .und, .und, .und, .und, .und, .und, .und, .und, .und, .und, .und, .und, .und, .und, .und, .und, .und, .und, .und, .und, .und, .und, .und, .und, .und, .und, .und, .und, .und, .und], []⟩) := by
  exact sem_of_path (ro20n_p L p2 n f m g s t w b c k j) (by simp only [hp2] <;> simp only [h17] <;> simp only [h0, h18, h1, h2, h19, h3, allN_true] <;> rfl)

theorem ro20ng_p (L : Nat → (St → T (Ex × St)) → St → T (Ex × St)) (p2 : (St → T (Ex × St)) → St → Bool) (n : Nat) (f : Nat → E6) (m : Nat) (g : Nat → Int) (s t w : List UInt8) (b : Nat) (c : Int) (k : Nat) (j : Nat → V) : ((body20 (onP 2 p2 (en20_2e n f m g t w b c k) L) (st20 n f m g s b j)).bind fun r => T.leaf (cutR (lp20 n f m g) r)).path [true, true, true, true, false, false, true, true, true] = some ([(ilt (Int.ofNat b) (Int.ofNat n)), (band (ile 0 (Int.ofNat b)) (band (ile (Int.ofNat b) (wr IntKind.i64 (iadd (Int.ofNat b) 1))) (ile (wr IntKind.i64 (iadd (Int.ofNat b) 1)) (Int.ofNat n)))), (allN (nsub (toN (wr IntKind.i64 (iadd (Int.ofNat b) 1))) b) (fun _ => Bool.true)), (fitN (nsub (toN (wr IntKind.i64 (iadd (Int.ofNat b) 1))) b)), (bnot (ieq (printE (nsub (toN (wr IntKind.i64 (iadd (Int.ofNat b) 1))) b) (fun i => (f (nadd b i)))) 0)), (ilt (Int.ofNat b) (Int.ofNat m)), (p2 (body20_2 (onP 2 p2 (en20_2e n f m g t w b c k) L)) (ent20n n f m g s b j)), (strOK t w), (ilt 262144 (Int.ofNat (slen (sapp t w))))], (.rt, ⟨[(.sl 6 n (fun k => (eV (f k)))), (.sl 1 m (fun k => (iV (g k)))), .und, .und, (bV Bool.true), (.str (sapp t w)), .und, .und, .und, .und, .und, .und, .und, .und, .und, .und, .und, .und, .und, .und, .und, .und, .und, .und, .und, .und, .und, .und, .und, .und, .und, .und, .und, .und, .und, .und, .und, .und, .und, .und, .und, .und, .und, .und, .und, .und, .und, .und, .und, .und, .und, .und, .und, .und, .und, .und, .und, .und, .und, .und, .und, .und, .und, .und, .und, .und, .und, .und, .und, .und, .und, .und, .und, .und, .und, .und, .und, .und, .und, .und, .und, .und, .und, .und, .und, .und, .und, .und, .und, .und, .und, .und, .und, .und, .und, .und, .und, .und, .und, .und, .und, .und], []⟩)) := by kernel_rfl
theorem ro20ng (L : Nat → (St → T (Ex × St)) → St → T (Ex × St)) (p2 : (St → T (Ex × St)) → St → Bool) (n : Nat) (f : Nat → E6) (m : Nat) (g : Nat → Int) (s t w : List UInt8) (b : Nat) (c : Int) (k : Nat) (j : Nat → V) (h0 : ilt (Int.ofNat b) (Int.ofNat n) = true) (h17 : band (ile 0 (Int.ofNat b)) (band (ile (Int.ofNat b) (wr IntKind.i64 (iadd (Int.ofNat b) 1))) (ile (wr IntKind.i64 (iadd (Int.ofNat b) 1)) (Int.ofNat n))) = true) (h18 : fitN (nsub (toN (wr IntKind.i64 (iadd (Int.ofNat b) 1))) b) = true) (h1 : ieq (printE (nsub (toN (wr IntKind.i64 (iadd (Int.ofNat b) 1))) b) (fun i => (f (nadd b i)))) 0 = true) (h2 : ilt (Int.ofNat b) (Int.ofNat m) = false) (h19 : strOK t w = true) (h3 : ilt 262144 (Int.ofNat (slen (sapp t w))) = true) (hp2 : p2 (body20_2 (onP 2 p2 (en20_2e n f m g t w b c k) L)) (ent20n n f m g s b j) = true) : ((body20 (onP 2 p2 (en20_2e n f m g t w b c k) L) (st20 n f m g s b j)).bind fun r => T.leaf (cutR (lp20 n f m g) r)).sem = some (.rt, ⟨[(.sl 6 n (fun k => (eV (f k)))), (.sl 1 m (fun k => (iV (g k)))), .und, .und, (bV Bool.true), (.str (sapp t w)), .und, .und, .und, .und, .und, .und, .und, .und, .und, .und, .und, .und, .und, .und, .und, .und, .und, .und, .und, .und, .und, .und, .und, .und, .und, .und, .und, .und, .und, .und, .und, .und, .und, .und, .und, .und, .und, .und, .und, .und, .und, .und, .und, .und, .und, .und, .und, .und, .und, .und, .und, .und, .und, .und, .und, .und, .und, .und, .und, .und, .und, .und, .und, .und, .und, .und, .und, .und, .und, .und, .und, .und, .und, .und, .und, .und, .und, .und, .und, .und, .und, .und, .und, .und, .und, .und, .und, .und, .und, .und, .und, .und, .und, .und, .und, .und], []⟩) := by
  exact sem_of_path (ro20ng_p L p2 n f m g s t w b c k j) (by simp only [hp2] <;> simp only [h17] <;> simp only [h0, h18, h1, h2, h19, h3, allN_true] <;> rfl)

theorem ro20p_p (L : Nat → (St → T (Ex × St)) → St → T (Ex × St)) (n : Nat) (f : Nat → E6) (m : Nat) (g : Nat → Int) (s : List UInt8) (b : Nat) (j : Nat → V) : ((body20 L (st20 n f m g s b j)).bind fun r => T.leaf (cutR (lp20 n f m g) r)).path [true, true, true, true, true, true, true, true, true, true, true, true] = some ([(ilt (Int.ofNat b) (Int.ofNat n)), (band (ile 0 (Int.ofNat b)) (band (ile (Int.ofNat b) (wr IntKind.i64 (iadd (Int.ofNat b) 1))) (ile (wr IntKind.i64 (iadd (Int.ofNat b) 1)) (Int.ofNat n)))), (allN (nsub (toN (wr IntKind.i64 (iadd (Int.ofNat b) 1))) b) (fun _ => Bool.true)), (fitN (nsub (toN (wr IntKind.i64 (iadd (Int.ofNat b) 1))) b)), (bnot (ieq (printE (nsub (toN (wr IntKind.i64 (iadd (Int.ofNat b) 1))) b) (fun i => (f (nadd b i)))) 0)), (allN n (fun _ => Bool.true)), (fitN n), (ieq (printE n f) 30), (ieq (printE n f) 30), (ieq (printE n f) 30), (seq (printS (nsub (toN (wr IntKind.i64 (iadd (Int.ofNat b) 1))) b) (fun i => (f (nadd b i)))) []), (seq (printS (nsub (toN (wr IntKind.i64 (iadd (Int.ofNat b) 1))) b) (fun i => (f (nadd b i)))) [])], (.rt, ⟨[(.sl 6 n (fun k => (eV (f k)))), (.sl 1 m (fun k => (iV (g k)))), .und, .und, (bV Bool.true), (.str s), .und, .und, .und, .und, .und, .und, .und, .und, .und, .und, .und, .und, .und, .und, .und, .und, .und, .und, .und, .und, .und, .und, .und, .und, .und, .und, .und, .und, .und, .und, .und, .und, .und, .und, .und, .und, .und, .und, .und, .und, .und, .und, .und, .und, .und, .und, .und, .und, .und, .und, .und, .und, .und, .und, .und, .und, .und, .und, .und, .und, .und, .und, .und, .und, .und, .und, .und, .und, .und, .und, .und, .und, .und, .und, .und, .und, .und, .und, .und, .und, .und, .und, .und, .und, .und, .und, .und, .und, .und, .und, .und, .und, .und, .und, .und, .und], []⟩)) := by kernel_rfl
theorem ro20p (L : Nat → (St → T (Ex × St)) → St → T (Ex × St)) (n : Nat) (f : Nat → E6) (m : Nat) (g : Nat → Int) (s : List UInt8) (b : Nat) (j : Nat → V) (h0 : ilt (Int.ofNat b) (Int.ofNat n) = true) (h17 : band (ile 0 (Int.ofNat b)) (band (ile (Int.ofNat b) (wr IntKind.i64 (iadd (Int.ofNat b) 1))) (ile (wr IntKind.i64 (iadd (Int.ofNat b) 1)) (Int.ofNat n))) = true) (h18 : fitN (nsub (toN (wr IntKind.i64 (iadd (Int.ofNat b) 1))) b) = true) (h1 : ieq (printE (nsub (toN (wr IntKind.i64 (iadd (Int.ofNat b) 1))) b) (fun i => (f (nadd b i)))) 0 = false) (h19 : fitN n = true) (h2 : ieq (printE n f) 30 = true) (h3 : seq (printS (nsub (toN (wr IntKind.i64 (iadd (Int.ofNat b) 1))) b) (fun i => (f (nadd b i)))) [] = true) : ((body20 L (st20 n f m g s b j)).bind fun r => T.leaf (cutR (lp20 n f m g) r)).sem = some (.rt, ⟨[(.sl 6 n (fun k => (eV (f k)))), (.sl 1 m (fun k => (iV (g k)))), .und, .und, (bV Bool.true), (.str s), .und, .und, .und, .und, .und, .und, .und, .und, .und, .und, .und, .und, .und, .und, .und, .und, .und, .und, .und, .und, .und, .und, .und, .und, .und, .und, .und, .und, .und, .und, .und, .und, .und, .und, .und, .und, .und, .und, .und, .und, .und, .und, .und, .und, .und, .und, .und, .und, .und, .und, .und, .und, .und, .und, .und, .und, .und, .und, .und, .und, .und, .und, .und, .und, .und, .und, .und, .und, .und, .und, .und, .und, .und, .und, .und, .und, .und, .und, .und, .und, .und, .und, .und, .und, .und, .und, .und, .und, .und, .und, .und, .und, .und, .und, .und, .und], []⟩) := by
  exact sem_of_path (ro20p_p L n f m g s b j) (by simp only [h17] <;> simp only [h0, h18, h1, h19, h2, h3, allN_true] <;> rfl)

def ent20 (n : Nat) (f : Nat → E6) (m : Nat) (g : Nat → Int)  : St := ⟨[(.sl 6 n (fun i => (eV (f i)))), (.sl 1 m (fun i => (iV (g i)))), undefV, undefV, (bV Bool.false), (.str []), (iV 0), undefV, undefV, undefV, undefV, undefV, undefV, undefV, undefV, undefV, undefV, undefV, undefV, undefV, undefV, undefV, undefV, undefV, undefV, undefV, undefV, undefV, undefV, undefV, undefV, undefV, undefV, undefV, undefV, undefV, undefV, undefV, undefV, undefV, undefV, undefV, undefV, undefV, undefV, undefV, undefV, undefV, undefV, undefV, undefV, undefV, undefV, undefV, undefV, undefV, undefV, undefV, undefV, undefV, undefV, undefV, undefV, undefV, undefV, undefV, undefV, undefV, undefV, undefV, undefV, undefV, undefV, undefV, undefV, undefV, undefV, undefV, undefV, undefV, undefV, undefV, undefV, undefV, undefV, undefV, undefV, undefV, undefV, undefV, undefV, undefV, undefV, undefV, undefV, undefV, undefV, undefV, undefV, undefV, undefV, undefV], []⟩

theorem wc20e_p (L : Nat → (St → T (Ex × St)) → St → T (Ex × St)) (p0 : (St → T (Ex × St)) → St → Bool) (n : Nat) (f : Nat → E6) (m : Nat) (g : Nat → Int) (s : List UInt8) (b : Nat) : (finF (evalF tab ⟨callT tb20, (onP 0 p0 (en20e n f m g s b) L), Gl⟩ Tryd.f20 [edgesV n f, intsV m g] [])).path [true, true, true, true, true, true, true, true, true, true, true, true, true] = some ([(p0 (body20 (onP 0 p0 (en20e n f m g s b) L)) (ent20 n f m g)), (ieq (psE s) 0), (ieq (psE s) 0), (ieq (psE s) 0), (ieq (psI s) 0), (ieq (psI s) 0), (ieq (psI s) 0), (allN n (fun _ => Bool.true)), (allN (psN s) (fun _ => Bool.true)), (smallN n), (ieq (psI s) 0), (sameB n f (psN s) (fun i => (psG s i))), (sameB n f (psN s) (fun i => (psG s i)))], ((bV Bool.true), [])) := by kernel_rfl
theorem wc20e (L : Nat → (St → T (Ex × St)) → St → T (Ex × St)) (p0 : (St → T (Ex × St)) → St → Bool) (n : Nat) (f : Nat → E6) (m : Nat) (g : Nat → Int) (s : List UInt8) (b : Nat) (h15 : ieq (psE s) 0 = true) (h16 : ieq (psI s) 0 = true) (h17 : smallN n = true) (h18 : sameB n f (psN s) (fun i => (psG s i)) = true) (hp0 : p0 (body20 (onP 0 p0 (en20e n f m g s b) L)) (ent20 n f m g) = true) : (finF (evalF tab ⟨callT tb20, (onP 0 p0 (en20e n f m g s b) L), Gl⟩ Tryd.f20 [edgesV n f, intsV m g] [])).sem = some ((bV Bool.true), []) := by
  exact sem_of_path (wc20e_p L p0 n f m g s b) (by simp only [hp0] <;> simp only [h15, h16, h17, h18, allN_true] <;> rfl)

theorem wc20r_p (L : Nat → (St → T (Ex × St)) → St → T (Ex × St)) (p0 : (St → T (Ex × St)) → St → Bool) (n : Nat) (f : Nat → E6) (m : Nat) (g : Nat → Int) (s : List UInt8) : (finF (evalF tab ⟨callT tb20, (onP 0 p0 (en20r n f m g s) L), Gl⟩ Tryd.f20 [edgesV n f, intsV m g] [])).path [true] = some ([(p0 (body20 (onP 0 p0 (en20r n f m g s) L)) (ent20 n f m g))], ((bV Bool.true), [])) := by kernel_rfl
theorem wc20r (L : Nat → (St → T (Ex × St)) → St → T (Ex × St)) (p0 : (St → T (Ex × St)) → St → Bool) (n : Nat) (f : Nat → E6) (m : Nat) (g : Nat → Int) (s : List UInt8)  (hp0 : p0 (body20 (onP 0 p0 (en20r n f m g s) L)) (ent20 n f m g) = true) : (finF (evalF tab ⟨callT tb20, (onP 0 p0 (en20r n f m g s) L), Gl⟩ Tryd.f20 [edgesV n f, intsV m g] [])).sem = some ((bV Bool.true), []) := by
  exact sem_of_path (wc20r_p L p0 n f m g s) (by simp only [hp0] <;> rfl)

theorem run20i (L : Nat → (St → T (Ex × St)) → St → T (Ex × St)) (n : Nat) (f : Nat → E6) (m : Nat) (g : Nat → Int) (s w : List UInt8) (b : Nat) (hs : s.length ≤ 262144) (hb : b ≤ 4611686018427387904) (N : Nat) (hN : N ≤ 3) : ∀ (d k : Nat) (j : Nat → V) (q : Nat), N = k + d → d < q →
    (iterT (body20_2 L) (lp20_2 n f m g) q (st20_2 n f m g (s ++ blL b k) w b (Int.ofNat N) k j)).sem = some (en20_2e n f m g (s ++ blL b N) w b (Int.ofNat N) N)
  | 0, k, j, q + 1, h, _ => by
    have : N = k := by omega
    subst this
    exact iter_round (ri20e L n f m g (s ++ blL b N) w b (Int.ofNat N) N j (ofNat_ge (Nat.le_refl _)))
  | d + 1, k, j, q + 1, h, h2 => by
    have hk : k < N := by omega
    have e1 : itmod (wr IntKind.i64 (iadd (Int.ofNat b) (Int.ofNat k))) 4 = Int.ofNat ((b + k) % 4) := by
      rw [wr_add (by omega)]
      exact mod_nat (b + k) 4
    have l1 : (b + k) % 4 < 4 := Nat.mod_lt _ (by decide)
    have h14 : band (ile 0 (itmod (wr IntKind.i64 (iadd (Int.ofNat b) (Int.ofNat k))) 4)) (ilt (itmod (wr IntKind.i64 (iadd (Int.ofNat b) (Int.ofNat k))) 4) 4) = true := by
      rw [e1]; exact ofNat_in (n := 4) l1
    have h15 : nlt (toN (itmod (wr IntKind.i64 (iadd (Int.ofNat b) (Int.ofNat k))) 4)) 4 = true := by
      rw [e1]; exact decide_eq_true l1
    have h16 : strOK (s ++ blL b k) [blB b k] = true := decide_eq_true (by rw [List.length_append, blL_len]; simp only [List.length_cons, List.length_nil]; omega)
    have hr := ri20n L n f m g (s ++ blL b k) w b (Int.ofNat N) k j (ofNat_lt hk) h14 h15 h16
    have es : sapp (s ++ blL b k) [blB b k] = s ++ blL b (k + 1) := by
      rw [blL_succ, ← List.append_assoc]; rfl
    rw [es] at hr
    rw [iter_round hr, goOn_nm, succ_wr hk (by omega)]
    exact run20i L n f m g s w b hs hb N hN d (k + 1) (fun _ => .und) q (by omega) (by omega)

theorem print_one {f : Nat → E6} (h : codeF (f 0) = 0) : printE 1 f = 0 ∧ printS 1 f = nameF (f 0) := by
  have hm : mayN 1 f = true := mayN_iff.2 fun i hi => by
    have : i = 0 := by omega
    rw [this]; exact h
  have hl := name_len (f 0)
  have hb : bigL 1 f = false := decide_eq_false (by show ¬ 262144 < (nameF (f 0)).length; omega)
  exact print_ok hm hb
theorem print_bad {n : Nat} {f : Nat → E6} {b : Nat} (hb : b < n) (h : codeF (f b) ≠ 0) : printE n f = 30 ∧ printS n f = [] := by
  have hm : mayN n f = false := by
    cases hm : mayN n f with
    | false => rfl
    | true => exact absurd (mayN_iff.1 hm b hb) h
  unfold printE printS
  rw [hm]
  exact ⟨rfl, rfl⟩

/-- Where it ends early: with which text. -/
def out20 (m : Nat) (f : Nat → E6) (g : Nat → Int) : Nat → Nat → Option (List UInt8)
  | 0, _ => none
  | d + 1, b => if codeF (f b) = 0 then (if 262144 < (textW (gapW m f g (b + 1))).length then some (textW (gapW m f g (b + 1))) else out20 m f g d (b + 1)) else some (textW (gapW m f g b))

theorem out20_none {m : Nat} {f : Nat → E6} {g : Nat → Int} : ∀ d b, out20 m f g d b = none → (textW (gapW m f g b)).length ≤ 262144 → (∀ i, i < b → codeF (f i) = 0) → (textW (gapW m f g (b + d))).length ≤ 262144 ∧ ∀ i, i < b + d → codeF (f i) = 0
  | 0, b, _, h1, h2 => ⟨h1, h2⟩
  | d + 1, b, h, h1, h2 => by
    unfold out20 at h
    by_cases hc : codeF (f b) = 0
    · rw [if_pos hc] at h
      by_cases hl : 262144 < (textW (gapW m f g (b + 1))).length
      · rw [if_pos hl] at h; cases h
      · rw [if_neg hl] at h
        have := out20_none d (b + 1) h (by omega) fun i hi => by
          by_cases hib : i = b
          · rw [hib]; exact hc
          · exact h2 i (by omega)
        rw [show b + (d + 1) = b + 1 + d by omega]
        exact this
    · rw [if_neg hc] at h; cases h

theorem ent20y_eq (n : Nat) (f : Nat → E6) (m : Nat) (g : Nat → Int) (s : List UInt8) (b : Nat) (j : Nat → V) : ent20y n f m g s b j = st20_2 n f m g s (printS (nsub (toN (wr IntKind.i64 (iadd (Int.ofNat b) 1))) b) (fun i => f (nadd b i))) b (wr IntKind.i64 (iadd 1 (wr IntKind.i64 (itmod (wr IntKind.u64 (g b)) 3)))) 0 (fun i => nth (ent20y n f m g s b j).t i) := by kernel_rfl
theorem ent20n_eq (n : Nat) (f : Nat → E6) (m : Nat) (g : Nat → Int) (s : List UInt8) (b : Nat) (j : Nat → V) : ent20n n f m g s b j = st20_2 n f m g s (printS (nsub (toN (wr IntKind.i64 (iadd (Int.ofNat b) 1))) b) (fun i => f (nadd b i))) b 1 0 (fun i => nth (ent20n n f m g s b j).t i) := by kernel_rfl
theorem ent20_eq (n : Nat) (f : Nat → E6) (m : Nat) (g : Nat → Int) : ent20 n f m g = st20 n f m g [] 0 (fun i => nth (ent20 n f m g).t i) := by kernel_rfl

theorem run20 (M : Nat → (St → T (Ex × St)) → St → T (Ex × St)) (hMM : LLe M M) (n : Nat) (f : Nat → E6) (m : Nat) (g : Nat → Int) (hn : fitN n = true) (m2 : ∀ f' st, M 2 f' st = iterT f' (lp20_2 n f m g) 4 st) : ∀ (d b : Nat) (j : Nat → V) (q : Nat), n = b + d → d < q → (textW (gapW m f g b)).length ≤ 262144 →
    (iterT (body20 M) (lp20 n f m g) q (st20 n f m g (textW (gapW m f g b)) b j)).sem = some (match out20 m f g d b with | some u => en20r n f m g u | none => en20e n f m g (textW (gapW m f g n)) n)
  | 0, b, j, q + 1, h, _, _ => by
    have : n = b := by omega
    subst this
    exact iter_round (rb20e M n f m g (textW (gapW m f g n)) n j (ofNat_ge (Nat.le_refl _)))
  | d + 1, b, j, q + 1, h, h2, hl => by
    have hb : b < n := by omega
    have h8 : n * 40 ≤ 140737488355328 := of_decide_eq_true hn
    have e1 : wr IntKind.i64 (iadd (Int.ofNat b) 1) = Int.ofNat (b + 1) := wr_one (by omega)
    have e2 : nsub (toN (wr IntKind.i64 (iadd (Int.ofNat b) 1))) b = 1 := by
      rw [e1]
      show b + 1 - b = 1
      omega
    have c1 : band (ile 0 (Int.ofNat b)) (band (ile (Int.ofNat b) (wr IntKind.i64 (iadd (Int.ofNat b) 1))) (ile (wr IntKind.i64 (iadd (Int.ofNat b) 1)) (Int.ofNat n))) = true := by
      rw [e1, ofNat_0, ile_nat, ile_nat, decide_eq_true (by omega), decide_eq_true (by omega)]
      rfl
    have c2 : fitN (nsub (toN (wr IntKind.i64 (iadd (Int.ofNat b) 1))) b) = true := by
      rw [e2]; rfl
    obtain ⟨g1, g3⟩ := gap_le m g b
    unfold out20
    by_cases hc : codeF (f b) = 0
    · obtain ⟨p1, p2⟩ := print_one (f := fun i => f (nadd b i)) hc
      have p2 : printS 1 (fun i => f (nadd b i)) = nameF (f b) := p2
      have c3 : ieq (printE (nsub (toN (wr IntKind.i64 (iadd (Int.ofNat b) 1))) b) (fun i => f (nadd b i))) 0 = true := by
        rw [e2, p1]; rfl
      have hi : ∀ M' J, (iterT (body20_2 M') (lp20_2 n f m g) 4 (st20_2 n f m g (textW (gapW m f g b)) (nameF (f b)) b (Int.ofNat (gapN m g b)) 0 J)).sem = some (en20_2e n f m g (textW (gapW m f g b) ++ blL b (gapN m g b)) (nameF (f b)) b (Int.ofNat (gapN m g b)) (gapN m g b)) := fun M' J => by
        have := run20i M' n f m g (textW (gapW m f g b)) (nameF (f b)) b hl (by omega) (gapN m g b) g3 (gapN m g b) 0 J 4 (by omega) (by omega)
        rw [show blL b 0 = [] from rfl, List.append_nil] at this
        exact this
      have hsa : sapp (textW (gapW m f g b) ++ blL b (gapN m g b)) (nameF (f b)) = textW (gapW m f g (b + 1)) := by
        rw [gapW_succ, ← List.append_assoc]; rfl
      have hnl := name_len (f b)
      have c4 : strOK (textW (gapW m f g b) ++ blL b (gapN m g b)) (nameF (f b)) = true := decide_eq_true (by rw [List.length_append, blL_len]; omega)
      rw [if_pos hc]
      by_cases hm : b < m
      · have hi2 : ∀ M', (M 2 (body20_2 M') (ent20y n f m g (textW (gapW m f g b)) b j)).sem = some (en20_2e n f m g (textW (gapW m f g b) ++ blL b (gapN m g b)) (nameF (f b)) b (Int.ofNat (gapN m g b)) (gapN m g b)) := fun M' => by
          rw [m2, ent20y_eq, e2, p2, gap_in g hm]
          exact hi M' _
        by_cases hbig : 262144 < (textW (gapW m f g (b + 1))).length
        · have c5 : ilt 262144 (Int.ofNat (slen (sapp (textW (gapW m f g b) ++ blL b (gapN m g b)) (nameF (f b))))) = true := by
            rw [hsa]; exact ofNat_lt (i := 262144) hbig
          have h3 := ro20yg M _ n f m g (textW (gapW m f g b)) (textW (gapW m f g b) ++ blL b (gapN m g b)) (nameF (f b)) b (Int.ofNat (gapN m g b)) (gapN m g b) j (ofNat_lt hb) c1 c2 c3 (ofNat_lt hm) (ile_0b b) c4 c5 (isP_true (hi2 _))
          have h4 : roundT (body20 M) (lp20 n f m g) (st20 n f m g (textW (gapW m f g b)) b j) = _ := roundT_le (l := lp20 n f m g) (evalC_le (Γ := ⟨callT tb20, M, Gl⟩) (onP_le hMM hMM) (loopBody Tryd.f20 0) 0 (st20 n f m g (textW (gapW m f g b)) b j)) h3
          rw [hsa] at h4
          rw [if_pos hbig]
          exact iter_round h4
        · have c5 : ilt 262144 (Int.ofNat (slen (sapp (textW (gapW m f g b) ++ blL b (gapN m g b)) (nameF (f b))))) = false := by
            rw [hsa, show (262144 : Int) = Int.ofNat 262144 from rfl, ilt_nat]; exact decide_eq_false hbig
          have h3 := ro20y M _ n f m g (textW (gapW m f g b)) (textW (gapW m f g b) ++ blL b (gapN m g b)) (nameF (f b)) b (Int.ofNat (gapN m g b)) (gapN m g b) j (ofNat_lt hb) c1 c2 c3 (ofNat_lt hm) (ile_0b b) c4 c5 (isP_true (hi2 _))
          have h4 : roundT (body20 M) (lp20 n f m g) (st20 n f m g (textW (gapW m f g b)) b j) = _ := roundT_le (l := lp20 n f m g) (evalC_le (Γ := ⟨callT tb20, M, Gl⟩) (onP_le hMM hMM) (loopBody Tryd.f20 0) 0 (st20 n f m g (textW (gapW m f g b)) b j)) h3
          rw [hsa, e1] at h4
          rw [if_neg hbig, iter_round h4, goOn_nm]
          exact run20 M hMM n f m g hn m2 d (b + 1) (fun _ => .und) q (by omega) (by omega) (by omega)
      · have hi2 : ∀ M', (M 2 (body20_2 M') (ent20n n f m g (textW (gapW m f g b)) b j)).sem = some (en20_2e n f m g (textW (gapW m f g b) ++ blL b (gapN m g b)) (nameF (f b)) b (Int.ofNat (gapN m g b)) (gapN m g b)) := fun M' => by
          rw [m2, ent20n_eq, e2, p2, gap_out g hm]
          exact hi M' _
        by_cases hbig : 262144 < (textW (gapW m f g (b + 1))).length
        · have c5 : ilt 262144 (Int.ofNat (slen (sapp (textW (gapW m f g b) ++ blL b (gapN m g b)) (nameF (f b))))) = true := by
            rw [hsa]; exact ofNat_lt (i := 262144) hbig
          have h3 := ro20ng M _ n f m g (textW (gapW m f g b)) (textW (gapW m f g b) ++ blL b (gapN m g b)) (nameF (f b)) b (Int.ofNat (gapN m g b)) (gapN m g b) j (ofNat_lt hb) c1 c2 c3 (ofNat_ge (by omega)) c4 c5 (isP_true (hi2 _))
          have h4 : roundT (body20 M) (lp20 n f m g) (st20 n f m g (textW (gapW m f g b)) b j) = _ := roundT_le (l := lp20 n f m g) (evalC_le (Γ := ⟨callT tb20, M, Gl⟩) (onP_le hMM hMM) (loopBody Tryd.f20 0) 0 (st20 n f m g (textW (gapW m f g b)) b j)) h3
          rw [hsa] at h4
          rw [if_pos hbig]
          exact iter_round h4
        · have c5 : ilt 262144 (Int.ofNat (slen (sapp (textW (gapW m f g b) ++ blL b (gapN m g b)) (nameF (f b))))) = false := by
            rw [hsa, show (262144 : Int) = Int.ofNat 262144 from rfl, ilt_nat]; exact decide_eq_false hbig
          have h3 := ro20n M _ n f m g (textW (gapW m f g b)) (textW (gapW m f g b) ++ blL b (gapN m g b)) (nameF (f b)) b (Int.ofNat (gapN m g b)) (gapN m g b) j (ofNat_lt hb) c1 c2 c3 (ofNat_ge (by omega)) c4 c5 (isP_true (hi2 _))
          have h4 : roundT (body20 M) (lp20 n f m g) (st20 n f m g (textW (gapW m f g b)) b j) = _ := roundT_le (l := lp20 n f m g) (evalC_le (Γ := ⟨callT tb20, M, Gl⟩) (onP_le hMM hMM) (loopBody Tryd.f20 0) 0 (st20 n f m g (textW (gapW m f g b)) b j)) h3
          rw [hsa, e1] at h4
          rw [if_neg hbig, iter_round h4, goOn_nm]
          exact run20 M hMM n f m g hn m2 d (b + 1) (fun _ => .und) q (by omega) (by omega) (by omega)
    · obtain ⟨p1, p2⟩ := print_bad (n := 1) (f := fun i => f (nadd b i)) (b := 0) (by decide) hc
      obtain ⟨p3, _⟩ := print_bad hb hc
      rw [if_neg hc]
      exact iter_round (ro20p M n f m g (textW (gapW m f g b)) b j (ofNat_lt hb) c1 c2 (by rw [e2, p1]; rfl) hn (by rw [p3]; rfl) (by rw [e2, p2]; rfl))

/-! ### The law -/

theorem ps_gaps {n m : Nat} {f : Nat → E6} {g : Nat → Int} (h : out20 m f g n 0 = none) : psE (textW (gapW m f g n)) = 0 ∧ psI (textW (gapW m f g n)) = 0 ∧ psL (textW (gapW m f g n)) = (List.range n).map f := by
  obtain ⟨h1, h2⟩ := out20_none n 0 h (Nat.zero_le _) fun i hi => absurd hi (Nat.not_lt_zero _)
  rw [Nat.zero_add] at h1 h2
  have hr : psR (textW (gapW m f g n)) = ((List.range n).map f, 0, 0) := by
    unfold psR
    rw [parse_ws (gapW m f g n) _ 0 [] (fun w hw => by
      obtain ⟨i, hi, rfl⟩ := List.mem_map.1 hw
      refine ⟨fun h0 => ?_, blL_blank i _, h2 i (List.mem_range.1 hi)⟩
      have := blL_len i (gapN m g i)
      rw [show blL i (gapN m g i) = [] from h0] at this
      have := (gap_le m g i).1
      simp only [List.length_nil] at *
      omega) (Nat.lt_succ_self _)]
    simp [gapW]
  have hB : bigS (textW (gapW m f g n)) = false := by
    unfold bigS
    rw [show (262144 : Int) = Int.ofNat 262144 from rfl, ilt_nat]
    exact decide_eq_false (by show ¬ 262144 < (textW (gapW m f g n)).length; omega)
  unfold psE psI psL
  rw [hB, hr]
  exact ⟨rfl, rfl, rfl⟩

def law20T : List V → T (V × List Blk)
  | [v, u] => apL v fun n _ => apI u fun _ _ => .br (fitN n) (out (bV true)) .fail
  | _ => .fail

theorem p20 : PureC Tryd.prog Gl 20 law20T := by
  refine pureC_intro tabOK mixed Tryd.func20 (by kernel_rfl) (by kernel_rfl) fun vs v h' h => ?_
  unfold law20T at h
  split at h
  · rename_i u1 u2
    obtain ⟨n, f, ha, h1⟩ := apL_some h
    obtain ⟨m, g, hb, h2⟩ := apI_some h1
    obtain ⟨hn, hq⟩ := sem_br_fail h2
    have := sem_leaf hq
    simp only [Prod.mk.injEq] at this
    obtain ⟨rfl, rfl⟩ := this
    have hA : ArgLE [u1, u2] [edgesV n f, intsV m g] := fun S w cs q => by
      obtain ⟨c, l, rfl, q1, c2, l2, rfl, q2, q3⟩ := q
      exact ⟨c, _, rfl, ha S w c q1, c2, _, rfl, hb S w c2 q2, q3⟩
    have hx := cx_ok tb20_ok [(0, lp20 n f m g), (2, lp20_2 n f m g)]
    have hL := loopsBy_le [(0, lp20 n f m g), (2, lp20_2 n f m g)]
    have key : ∀ M, LLe M M → (∀ f' st, M 2 f' st = iterT f' (lp20_2 n f m g) 4 st) → (iterT (body20 M) (lp20 n f m g) (n + 1) (ent20 n f m g)).sem = some (match out20 m f g n 0 with | some u => en20r n f m g u | none => en20e n f m g (textW (gapW m f g n)) n) := fun M k1 k2 => by
      rw [ent20_eq]
      exact run20 M k1 n f m g hn k2 n 0 _ (n + 1) (by omega) (by omega) (Nat.zero_le _)
    have mm : ∀ r, LLe (onP 0 (isP (loopsBy [(0, lp20 n f m g), (2, lp20_2 n f m g)]) 0 r) r (loopsBy [(0, lp20 n f m g), (2, lp20_2 n f m g)])) (onP 0 (isP (loopsBy [(0, lp20 n f m g), (2, lp20_2 n f m g)]) 0 r) r (loopsBy [(0, lp20 n f m g), (2, lp20_2 n f m g)])) := fun r => isPleY hL 0 r
    refine ⟨_, cxOf Gl tb20 [(0, lp20 n f m g), (2, lp20_2 n f m g)], _, hA, rfl, hx.1, hx.2, ?_, RowsLE.refl _⟩
    cases hc : out20 m f g n 0 with
    | some u =>
      rw [hc] at key
      exact told_le (onP_le hL hL) _ (wc20r (loopsBy [(0, lp20 n f m g), (2, lp20_2 n f m g)]) _ n f m g u (isP_true (key _ (mm _) fun _ _ => rfl)))
    | none =>
      rw [hc] at key
      obtain ⟨q1, q2, q3⟩ := ps_gaps hc
      have q4 : sameB n f (psN (textW (gapW m f g n))) (fun i => psG (textW (gapW m f g n)) i) = true := sameB_at.2 ⟨by unfold psN; rw [q3]; simp, fun i hi => by
        show f i = getE (psL _) i
        rw [q3, getE_map f hi]⟩
      exact told_le (onP_le hL hL) _ (wc20e (loopsBy [(0, lp20 n f m g), (2, lp20_2 n f m g)]) _ n f m g (textW (gapW m f g n)) n (by rw [q1]; rfl) (by rw [q2]; rfl) (fit_smallB hn) q4 (isP_true (key _ (mm _) fun _ _ => rfl)))
  · cases h

theorem law20_sem {n m : Nat} (f : Nat → E6) (g : Nat → Int) (hn : n * 40 ≤ 140737488355328) : (law20T [edgesV n f, intsV m g]).sem = some (bV true, []) := by
  show (apL (edgesV n f) fun n _ => apI (intsV m g) fun _ _ => T.br (fitN n) (out (bV true)) .fail).sem = _
  rw [apLsem, apIsemB]
  have hn : fitN n = true := decide_eq_true hn
  simp only [hn]
  rfl

#print axioms p20

end Go.Proofs.YtcaljjnadbpacaaDoor.Ed
