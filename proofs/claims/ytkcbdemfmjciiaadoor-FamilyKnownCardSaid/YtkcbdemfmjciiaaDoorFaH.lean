/-
  Fences put in leave a cycle of its family. Conditions: the listed variables read as listed.
-/
import Derived.Test.YtkcbdemfmjciiaaDoorFaG
namespace Go.Proofs.YtkcbdemfmjciiaaDoor.Fa
open Go.Sy Go Go.Proofs.YtkcbdemfmjciiaaDoor.Ed

theorem dirs_all : (List.range 112).all (fun k => (ieq (madeE k).src 1 || ieq (madeE k).src 2) && (ieq (madeE k).dst 1 || ieq (madeE k).dst 2)) = true := by kernel_rfl

theorem fen_may {e : E6} {w : Int} (h : codeF e = 0) (h1 : ile 1 w = true) (h2 : ile w 11 = true) : codeF (fenE e w) = 0 := by
  have hd : (e.src = 1 ∨ e.src = 2) ∧ (e.dst = 1 ∨ e.dst = 2) := by
    rcases codeF_cases e with ⟨k, hk, _, _, he, _⟩ | ⟨h3, _⟩
    · have := List.all_eq_true.1 dirs_all k (List.mem_range.2 hk)
      rw [he] at this
      simpa only [Bool.and_eq_true, Bool.or_eq_true, ieq, beq_iff_eq] using this
    · rw [h] at h3; cases h3
  have h1 : 1 ≤ w := of_decide_eq_true h1
  have h2 : w ≤ 11 := of_decide_eq_true h2
  have key : ∀ v a b : Nat, v < 11 → a < 2 → b < 2 → codeF ⟨5, false, false, Int.ofNat (a + 1), Int.ofNat (b + 1), Int.ofNat (v + 1)⟩ = 0 := fun v a b hv ha hb =>
    ieq_eq (List.all_eq_true.1 (List.all_eq_true.1 (List.all_eq_true.1 fence_all v (List.mem_range.2 hv)) a (List.mem_range.2 ha)) b (List.mem_range.2 hb))
  obtain ⟨v, rfl⟩ : ∃ v : Nat, w = Int.ofNat (v + 1) := ⟨(w - 1).toNat, by simp only [Int.ofNat_eq_natCast]; omega⟩
  have hv : v < 11 := by simp only [Int.ofNat_eq_natCast] at h2; omega
  unfold fenE
  rcases hd.1 with hs | hs <;> rcases hd.2 with ht | ht <;> rw [hs, ht]
  · exact key v 0 0 hv (by decide) (by decide)
  · exact key v 0 1 hv (by decide) (by decide)
  · exact key v 1 0 hv (by decide) (by decide)
  · exact key v 1 1 hv (by decide) (by decide)

theorem fen_pl {e : E6} {w : Int} (h : movB e = true) : plE (fenE e w) = plE e := by
  rw [plE_t h]
  rfl

theorem fenZ_ok {g : Nat → Int} {z : Nat → E6} {b : Nat} (hz : codeF (z b) = 0) : ∀ i, plE (fenZ g z b i) = plE (z i) ∧ (codeF (z i) = 0 → codeF (fenZ g z b i) = 0) := fun i => by
  unfold fenZ
  split
  · rename_i h
    show plE (bif Nat.beq i b then _ else _) = _ ∧ (_ → codeF (bif Nat.beq i b then _ else _) = 0)
    by_cases hi : i = b
    · subst hi
      rw [Nat.beq_refl]
      exact ⟨fen_pl h.1, fun _ => fen_may hz h.2.1 h.2.2⟩
    · rw [beq_no hi]
      exact ⟨rfl, fun h => h⟩
  · exact ⟨rfl, fun h => h⟩

theorem zRun_ok {m q : Nat} {g : Nat → Int} : ∀ (d b : Nat) (z : Nat → E6), (∀ i, i < q → codeF (z i) = 0) → ∀ i, i < q → plE (zRun m q g d b z i) = plE (z i) ∧ codeF (zRun m q g d b z i) = 0
  | 0, b, z, h, i, hi => ⟨rfl, h i hi⟩
  | d + 1, b, z, h, i, hi => by
    unfold zRun
    split
    · rename_i hb
      have hf := fenZ_ok (g := g) (z := z) (b := b) (h b hb.1)
      have := zRun_ok (m := m) (g := g) d (b + 1) (fenZ g z b) (fun t ht => (hf t).2 (h t ht)) i hi
      exact ⟨this.1.trans (hf i).1, this.2⟩
    · exact ⟨rfl, h i hi⟩

theorem turnK_ltF (b : Int) {n : Nat} (h : 0 < n) (hn : n ≤ 4611686018427387904) : turnK n b < n := by
  cases hb : ilt (itmod b (Int.ofNat n)) 0 with
  | true => exact (turnK_neg h hn hb).2
  | false => exact (turnK_pos h hb).2

theorem fam_zz {k m q : Nat} {p : Nat → E6} {g : Nat → Int} {n : Int} (hm1 : ∀ i, i < q → codeF (p i) = 0) (hq : q ≤ 100) (ho : famO q p = some k) :
    famE q (zRun m q g m 0 (fun i => turnE q p n i)) = 0 ∧ famT q (zRun m q g m 0 (fun i => turnE q p n i)) = famS k := by
  have ht : ∀ i, i < q → codeF (turnE q p n i) = 0 := fun i hi => hm1 _ (Nat.mod_lt _ (by omega))
  have hz := zRun_ok (m := m) (g := g) m 0 (fun i => turnE q p n i) ht
  have hmz : mayN q (zRun m q g m 0 fun i => turnE q p n i) = true := mayN_iff.2 fun i hi => (hz i hi).2
  have hO : famO q (zRun m q g m 0 fun i => turnE q p n i) = some k := by
    rw [← ho]
    unfold famO
    congr 1
    funext b
    rcases Nat.eq_zero_or_pos q with h0 | h0
    · exact sameC_congr fun i hi => by omega
    · rw [show famQ q (zRun m q g m 0 fun i => turnE q p n i) b = famQ q (fun i => turnE q p n i) b from sameC_congr fun i hi => (hz i hi).1]
      exact famQ_turned (turnK_ltF n h0 (by omega)) (fun i hi => rfl) b
  unfold famE famT
  rw [hmz, hO]
  exact ⟨rfl, rfl⟩

/-- Of a family's bare cycle, turned, with fences: its family. -/
theorem fam_z {k m : Nat} {g : Nat → Int} {n : Int} (hk : k < 25) :
    famE (psN (bareS k)) (zRun m (psN (bareS k)) g m 0 (fun i => turnE (psN (bareS k)) (fun i => psG (bareS k) i) n i)) = 0 ∧
    famT (psN (bareS k)) (zRun m (psN (bareS k)) g m 0 (fun i => turnE (psN (bareS k)) (fun i => psG (bareS k) i) n i)) = famS k :=
  fam_zz (mayN_iff.1 (bare_may hk).1) (bareF_le hk) (of_fam hk)
end Go.Proofs.YtkcbdemfmjciiaaDoor.Fa
