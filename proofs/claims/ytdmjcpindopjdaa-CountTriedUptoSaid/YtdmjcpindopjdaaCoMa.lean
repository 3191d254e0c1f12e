/-
  Matrices of two by two of natural numbers: traces of their powers, and how many words these count. No conditions.
-/

namespace Go.Proofs.Ytdmjcpindopjdaa.Co

structure N4 where
  a : Nat
  b : Nat
  c : Nat
  d : Nat

def N4.mul (m k : N4) : N4 := ⟨m.a * k.a + m.b * k.c, m.a * k.b + m.b * k.d, m.c * k.a + m.d * k.c, m.c * k.b + m.d * k.d⟩
def N4.one : N4 := ⟨1, 0, 0, 1⟩
def N4.pow (m : N4) : Nat → N4
  | 0 => N4.one
  | k + 1 => (m.pow k).mul m
def N4.tr (m : N4) : Nat := m.a + m.d

theorem N4.mul_assoc (m k l : N4) : (m.mul k).mul l = m.mul (k.mul l) := by
  simp only [N4.mul, N4.mk.injEq]
  refine ⟨?_, ?_, ?_, ?_⟩ <;> grind

theorem N4.mul_one (m : N4) : m.mul N4.one = m := by simp [N4.mul, N4.one]
theorem N4.one_mul (m : N4) : N4.one.mul m = m := by simp [N4.mul, N4.one]

theorem N4.pow_add (m : N4) (i : Nat) : ∀ j, m.pow (i + j) = (m.pow i).mul (m.pow j)
  | 0 => (N4.mul_one _).symm
  | j + 1 => by
    show (m.pow (i + j)).mul m = (m.pow i).mul ((m.pow j).mul m)
    rw [N4.pow_add m i j, N4.mul_assoc]

theorem N4.pow_mul (m : N4) (i : Nat) : ∀ j, m.pow (i * j) = (m.pow i).pow j
  | 0 => rfl
  | j + 1 => by
    rw [Nat.mul_succ, N4.pow_add, N4.pow_mul m i j]
    rfl

theorem N4.pow_one (m : N4) : m.pow 1 = m := N4.one_mul m

/-- The trace of a power. -/
def trI (m : N4) (k : Nat) : Int := Int.ofNat (m.pow k).tr

theorem trI_mul (m : N4) (i j : Nat) : trI m (i * j) = trI (m.pow i) j := by
  unfold trI
  rw [N4.pow_mul]

/-! ### The traces by the sum and the product of the matrix's own numbers -/

def vS (t d : Int) : Nat → Int × Int
  | 0 => (2, t)
  | k + 1 => ((vS t d k).2, t * (vS t d k).2 - d * (vS t d k).1)

theorem trI_step (m : N4) (k : Nat) : trI m (k + 2) = (Int.ofNat m.a + Int.ofNat m.d) * trI m (k + 1) - (Int.ofNat m.a * Int.ofNat m.d - Int.ofNat m.b * Int.ofNat m.c) * trI m k := by
  have e1 : m.pow (k + 1) = (m.pow k).mul m := rfl
  have e2 : m.pow (k + 2) = ((m.pow k).mul m).mul m := rfl
  unfold trI
  rw [e1, e2]
  simp only [N4.mul, N4.tr, Int.ofNat_eq_natCast, Int.natCast_add, Int.natCast_mul]
  grind

theorem vS_tr (m : N4) : ∀ k, vS (Int.ofNat m.a + Int.ofNat m.d) (Int.ofNat m.a * Int.ofNat m.d - Int.ofNat m.b * Int.ofNat m.c) k = (trI m k, trI m (k + 1))
  | 0 => by
    have h : trI m 1 = Int.ofNat m.a + Int.ofNat m.d := by
      unfold trI
      rw [N4.pow_one]
      rfl
    show (2, _) = (_, _)
    rw [h]
    rfl
  | k + 1 => by
    show ((vS _ _ k).2, _ * (vS _ _ k).2 - _ * (vS _ _ k).1) = _
    rw [vS_tr m k, trI_step m k]

theorem vS_mod (n t d : Int) : ∀ k, (vS t d k).1 % n = (vS (t % n) (d % n) k).1 % n ∧ (vS t d k).2 % n = (vS (t % n) (d % n) k).2 % n
  | 0 => ⟨rfl, by show t % n = t % n % n; rw [Int.emod_emod_of_dvd _ (Int.dvd_refl n)]⟩
  | k + 1 => by
    obtain ⟨h1, h2⟩ := vS_mod n t d k
    refine ⟨h2, ?_⟩
    show (t * (vS t d k).2 - d * (vS t d k).1) % n = (t % n * (vS (t % n) (d % n) k).2 - d % n * (vS (t % n) (d % n) k).1) % n
    rw [Int.sub_emod, Int.mul_emod t, Int.mul_emod d, h1, h2, ← Int.sub_emod]
    conv => rhs; rw [Int.sub_emod, Int.mul_emod (t % n), Int.mul_emod (d % n), Int.emod_emod_of_dvd _ (Int.dvd_refl n), Int.emod_emod_of_dvd _ (Int.dvd_refl n), ← Int.sub_emod]

/-- n times the words of n edges, out of the closed lists by their length. -/
def mobN (v : Nat → Int) : Nat → Int
  | 1 => v 1
  | 2 => v 2 - v 1
  | 3 => v 3 - v 1
  | 4 => v 4 - v 2
  | 5 => v 5 - v 1
  | 6 => v 6 - v 3 - v 2 + v 1
  | 7 => v 7 - v 1
  | 8 => v 8 - v 4
  | 9 => v 9 - v 3
  | 10 => v 10 - v 5 - v 2 + v 1
  | 11 => v 11 - v 1
  | 12 => v 12 - v 6 - v 4 + v 2
  | 13 => v 13 - v 1
  | 14 => v 14 - v 7 - v 2 + v 1
  | 15 => v 15 - v 5 - v 3 + v 1
  | 16 => v 16 - v 8
  | _ => 0

theorem mob_mod (n : Int) (v u : Nat → Int) (h : ∀ k, v k % n = u k % n) : ∀ k, mobN v k % n = mobN u k % n := by
  have two : ∀ i j, (v i - v j) % n = (u i - u j) % n := fun i j => by rw [Int.sub_emod, h, h, ← Int.sub_emod]
  have four : ∀ i j k l, (v i - v j - v k + v l) % n = (u i - u j - u k + u l) % n := fun i j k l => by
    rw [Int.add_emod, Int.sub_emod, two, h, h, ← Int.sub_emod, ← Int.add_emod]
  intro k
  unfold mobN
  split <;> first | exact h _ | exact two _ _ | exact four _ _ _ _ | rfl

def modOK (n : Nat) : Bool := (List.range n).all fun t => (List.range n).all fun d => decide (mobN (fun k => (vS (Int.ofNat t) (Int.ofNat d) k).1) n % Int.ofNat n = 0)

theorem mods : (List.range 17).all modOK = true := by decide +kernel

theorem mob_dvd (m : N4) (n : Nat) (h1 : 1 ≤ n) (hn : n ≤ 16) : mobN (trI m) n % Int.ofNat n = 0 := by
  have hm := List.all_eq_true.1 mods n (by simp; omega)
  have hp : (0 : Int) < Int.ofNat n := by simp; omega
  obtain ⟨t, d, ht⟩ : ∃ t d, ∀ k, trI m k = (vS t d k).1 := ⟨_, _, fun k => by rw [vS_tr m k]⟩
  have e := mob_mod (Int.ofNat n) (trI m) (fun k => (vS (t % Int.ofNat n) (d % Int.ofNat n) k).1) (fun k => by rw [ht k]; exact (vS_mod (Int.ofNat n) t d k).1) n
  rw [e]
  have ht0 := Int.emod_nonneg t (show Int.ofNat n ≠ 0 by omega)
  have htn := Int.emod_lt_of_pos t hp
  have hd0 := Int.emod_nonneg d (show Int.ofNat n ≠ 0 by omega)
  have hdn := Int.emod_lt_of_pos d hp
  obtain ⟨t', et⟩ := Int.eq_ofNat_of_zero_le ht0
  obtain ⟨d', ed⟩ := Int.eq_ofNat_of_zero_le hd0
  rw [et] at htn ⊢
  rw [ed] at hdn ⊢
  have a1 := List.all_eq_true.1 hm t' (List.mem_range.2 (by simpa using htn))
  have a2 := List.all_eq_true.1 a1 d' (List.mem_range.2 (by simpa using hdn))
  exact of_decide_eq_true a2

/-! ### There are no fewer than none -/

theorem N4.pow_ge (m : N4) : ∀ k, m.a ≤ (m.pow (k + 1)).a ∧ m.d ≤ (m.pow (k + 1)).d
  | 0 => by rw [show m.pow (0 + 1) = m from N4.pow_one m]; exact ⟨Nat.le_refl _, Nat.le_refl _⟩
  | k + 1 => by
    obtain ⟨h1, h2⟩ := N4.pow_ge m k
    have e : m.pow (k + 1 + 1) = (m.pow (k + 1)).mul m := rfl
    rw [e]
    generalize m.pow (k + 1) = q at *
    simp only [N4.mul]
    refine ⟨?_, ?_⟩
    · rcases Nat.eq_zero_or_pos m.a with hz | hz
      · omega
      · have := Nat.mul_le_mul h1 hz
        omega
    · rcases Nat.eq_zero_or_pos m.d with hz | hz
      · omega
      · have := Nat.mul_le_mul h2 hz
        omega

theorem trI_ge (m : N4) (k : Nat) : trI m 1 ≤ trI m (k + 1) := by
  have := N4.pow_ge m k
  have e : trI m 1 = Int.ofNat (m.a + m.d) := by unfold trI; rw [N4.pow_one]; rfl
  rw [e]
  unfold trI N4.tr
  simp
  omega

theorem trI_nonneg (m : N4) (k : Nat) : 0 ≤ trI m k := by unfold trI; simp

/-- What grows with odd powers. -/
theorem N4.odd_ge (m : N4) : ∀ j, m.a ≤ (m.pow (2 * j + 1)).a ∧ m.d ≤ (m.pow (2 * j + 1)).d ∧ (1 ≤ m.b → 1 ≤ m.c → m.b ≤ (m.pow (2 * j + 1)).b ∧ m.c ≤ (m.pow (2 * j + 1)).c)
  | 0 => by rw [show m.pow (2 * 0 + 1) = m from N4.pow_one m]; exact ⟨Nat.le_refl _, Nat.le_refl _, fun _ _ => ⟨Nat.le_refl _, Nat.le_refl _⟩⟩
  | j + 1 => by
    obtain ⟨_, _, h3⟩ := N4.odd_ge m j
    have hg := N4.pow_ge m (2 * (j + 1))
    refine ⟨hg.1, hg.2, fun hb hc => ?_⟩
    obtain ⟨h4, h5⟩ := h3 hb hc
    have e : m.pow (2 * (j + 1) + 1) = ((m.pow (2 * j + 1)).mul m).mul m := rfl
    rw [e]
    generalize m.pow (2 * j + 1) = q at *
    simp only [N4.mul]
    have hbc : 1 ≤ m.b * m.c := Nat.mul_pos hb hc
    have f1 : q.b ≤ q.b * (m.b * m.c) := Nat.le_mul_of_pos_right _ hbc
    have f2 : q.c ≤ q.c * (m.b * m.c) := Nat.le_mul_of_pos_right _ hbc
    have g1 : (q.a * m.a + q.b * m.c) * m.b = q.a * m.a * m.b + q.b * (m.b * m.c) := by grind
    have g2 : (q.c * m.b + q.d * m.d) * m.c = q.c * (m.b * m.c) + q.d * m.d * m.c := by grind
    refine ⟨?_, ?_⟩ <;> omega

theorem N4.odd_bc (m : N4) (j : Nat) : m.b * m.c ≤ (m.pow (2 * j + 1)).b * (m.pow (2 * j + 1)).c := by
  rcases Nat.eq_zero_or_pos m.b with hz | hb
  · rw [hz]; simp
  · rcases Nat.eq_zero_or_pos m.c with hz | hc
    · rw [hz]; simp
    · obtain ⟨_, _, h⟩ := N4.odd_ge m j
      obtain ⟨h1, h2⟩ := h hb hc
      exact Nat.mul_le_mul h1 h2

theorem sq_grow {a e : Nat} (h : a ≤ e) : a * a + e ≤ e * e + a := by
  obtain ⟨x, rfl⟩ := Nat.exists_eq_add_of_le h
  have : x ≤ x * x := Nat.le_mul_self x
  have e1 : (a + x) * (a + x) = a * a + 2 * (a * x) + x * x := by grind
  omega

theorem cube_grow {a e : Nat} (h : a ≤ e) : a * a * a + e ≤ e * e * e + a := by
  obtain ⟨x, rfl⟩ := Nat.exists_eq_add_of_le h
  have h1 : x ≤ x * x := Nat.le_mul_self x
  have h2 : x * x ≤ x * x * x := by
    rcases Nat.eq_zero_or_pos x with hz | hz
    · subst hz; simp
    · exact Nat.le_mul_of_pos_right _ hz
  have e1 : (a + x) * (a + x) * (a + x) = a * a * a + 3 * (a * a * x) + 3 * (a * x * x) + x * x * x := by grind
  omega

theorem tr2 (m : N4) : (m.pow 2).tr = m.a * m.a + m.d * m.d + 2 * (m.b * m.c) := by
  have e : m.pow 2 = (N4.one.mul m).mul m := rfl
  rw [e, N4.one_mul]
  simp only [N4.mul, N4.tr]
  grind

theorem tr3 (m : N4) : (m.pow 3).tr = m.a * m.a * m.a + m.d * m.d * m.d + 3 * (m.b * m.c * (m.a + m.d)) := by
  have e : m.pow 3 = ((N4.one.mul m).mul m).mul m := rfl
  rw [e, N4.one_mul]
  simp only [N4.mul, N4.tr]
  grind

theorem tr1 (m : N4) : (m.pow 1).tr = m.a + m.d := by rw [N4.pow_one]; rfl

theorem two_odd (m : N4) (j : Nat) : 0 ≤ trI m ((2 * j + 1) * 2) - trI m (2 * j + 1) - trI m 2 + trI m 1 := by
  obtain ⟨h1, h2, _⟩ := N4.odd_ge m j
  have h3 := N4.odd_bc m j
  have e1 : trI m (2 * j + 1) = trI (m.pow (2 * j + 1)) 1 := by rw [← trI_mul, Nat.mul_one]
  rw [trI_mul, e1]
  unfold trI
  rw [tr2, tr2, tr1, tr1]
  generalize m.pow (2 * j + 1) = q at *
  have f1 := sq_grow h1
  have f2 := sq_grow h2
  simp only [Int.ofNat_eq_natCast]
  omega

theorem three_five (m : N4) : 0 ≤ trI m 15 - trI m 5 - trI m 3 + trI m 1 := by
  obtain ⟨h1, h2, _⟩ := N4.odd_ge m 2
  have h3 := N4.odd_bc m 2
  have e1 : trI m (2 * 2 + 1) = trI (m.pow (2 * 2 + 1)) 1 := by rw [← trI_mul, Nat.mul_one]
  have e2 : trI m 15 = trI (m.pow (2 * 2 + 1)) 3 := by rw [← trI_mul]
  rw [e2, show trI m 5 = _ from e1]
  unfold trI
  rw [tr3, tr3, tr1, tr1]
  generalize m.pow (2 * 2 + 1) = q at *
  have f1 := cube_grow h1
  have f2 := cube_grow h2
  have f3 := Nat.mul_le_mul h3 (Nat.add_le_add h1 h2)
  simp only [Int.ofNat_eq_natCast]
  omega

theorem pp_ge (m : N4) (q p : Nat) : 0 ≤ trI m (q * (p + 1)) - trI m q := by
  have h := trI_ge (m.pow q) p
  rw [← trI_mul, ← trI_mul, Nat.mul_one] at h
  omega

theorem mob_nonneg (m : N4) (n : Nat) (hn : n ≤ 16) : 0 ≤ mobN (trI m) n := by
  have p1 := pp_ge m
  have p2 := two_odd m
  have p2' := two_odd (m.pow 2) 1
  rw [← trI_mul, ← trI_mul, ← trI_mul, ← trI_mul] at p2'
  have p3 := three_five m
  have hc : n = 0 ∨ n = 1 ∨ n = 2 ∨ n = 3 ∨ n = 4 ∨ n = 5 ∨ n = 6 ∨ n = 7 ∨ n = 8 ∨ n = 9 ∨ n = 10 ∨ n = 11 ∨ n = 12 ∨ n = 13 ∨ n = 14 ∨ n = 15 ∨ n = 16 := by omega
  rcases hc with rfl | rfl | rfl | rfl | rfl | rfl | rfl | rfl | rfl | rfl | rfl | rfl | rfl | rfl | rfl | rfl | rfl
  · exact Int.le_refl 0
  · exact trI_nonneg m 1
  · exact p1 1 1
  · exact p1 1 2
  · exact p1 2 1
  · exact p1 1 4
  · exact p2 1
  · exact p1 1 6
  · exact p1 4 1
  · exact p1 3 2
  · exact p2 2
  · exact p1 1 10
  · exact p2'
  · exact p1 1 12
  · exact p2 3
  · exact p3
  · exact p1 8 1

/-- The words of n edges. -/
def wrdN (v : Nat → Int) (n : Nat) : Int := mobN v n / Int.ofNat n

theorem wrd_mul (m : N4) (n : Nat) (h1 : 1 ≤ n) (hn : n ≤ 16) : Int.ofNat n * wrdN (trI m) n = mobN (trI m) n := by
  have h := mob_dvd m n h1 hn
  unfold wrdN
  have := Int.mul_ediv_add_emod (mobN (trI m) n) (Int.ofNat n)
  omega

theorem wrd_nonneg (m : N4) (n : Nat) (h1 : 1 ≤ n) (hn : n ≤ 16) : 0 ≤ wrdN (trI m) n := by
  unfold wrdN
  exact Int.ediv_nonneg (mob_nonneg m n hn) (by simp)

end Go.Proofs.Ytdmjcpindopjdaa.Co
