/-
  Layer 5: closed lists by their length, as a contract. No conditions.
-/
import Derived.Test.YtdmjcpindopjdaaCoU
namespace Go.Proofs.Ytdmjcpindopjdaa.Co
open Go.Sy

/-- The closed lists of k edges, up to 2^63. -/
def wG (m : M4) : Nat → Int
  | 0 => 0
  | t + 1 => trU m t

theorem rowW_get (m : M4) : ∀ n i, i < n + 1 → rowW m n i = uV (wG m i)
  | 0, i, h => by
    have : i = 0 := by omega
    subst this
    rfl
  | n + 1, i, h => by
    show (bif Nat.beq i (n + 1) then uV (trU m n) else rowW m n i) = _
    cases hb : Nat.beq i (n + 1) with
    | true =>
      rw [Nat.eq_of_beq_eq_true hb]
      rfl
    | false =>
      have := Nat.ne_of_beq_eq_false hb
      exact rowW_get m n i (by omega)

def gA : V → Option (Int × Int × Int × Int)
  | .agg [a, b, c, d] => match gI a, gI b, gI c, gI d with
    | some a, some b, some c, some d => some (a, b, c, d)
    | _, _, _, _ => none
  | _ => none

def aV (x : Int × Int × Int × Int) : V := .agg [iV x.1, iV x.2.1, iV x.2.2.1, iV x.2.2.2]

theorem gA_ok : ∀ v x, gA v = some x → v = aV x := by
  intro v x h
  unfold gA at h
  split at h
  · split at h
    · rename_i h1 h2 h3 h4
      simp only [Option.some.injEq] at h
      subst h
      rw [gI_some h1, gI_some h2, gI_some h3, gI_some h4]
      rfl
    · cases h
  · cases h

def mOf (x : Int × Int × Int × Int) : M4 := m50 x.1 x.2.1 x.2.2.1 x.2.2.2

def walksT : List V → T (V × List Blk) := ap2 gA gI fun x n => .br (ile 1 n) (.br (ile n 16) (.br (mOf x).ok (.leaf (.ref 0, [.row 54 1 (toN n + 1) fun i => uV (wG (mOf x) i)])) .fail) .fail) .fail

theorem p50 : PureC Try.prog Gl 50 walksT := by
  refine pureC_intro tabOK mixed Try.func50 (by kernel_rfl) (by kernel_rfl) fun vs v h' h => ?_
  obtain ⟨x, n, rfl, h⟩ := ap2_some gA_ok gI_ok h
  obtain ⟨h1, h⟩ := sem_br_fail h
  obtain ⟨h2, h⟩ := sem_br_fail h
  obtain ⟨h3, h⟩ := sem_br_fail h
  have h1 : (1 : Int) ≤ n := of_decide_eq_true h1
  have h2 : n ≤ 16 := of_decide_eq_true h2
  obtain ⟨k, rfl⟩ := Int.eq_ofNat_of_zero_le (show (0 : Int) ≤ n by omega)
  have := sem_leaf h
  simp only [Prod.mk.injEq] at this
  obtain ⟨rfl, rfl⟩ := this
  have hx := cx_ok tbT_ok (ls50 x.1 x.2.1 x.2.2.1 x.2.2.2 (Int.ofNat k))
  exact ⟨_, cxOf Gl tbT _, _, ArgLE.refl _, rfl, hx.1, hx.2, walks50 x.1 x.2.1 x.2.2.1 x.2.2.2 k (by omega) (by omega) h3, RowsLE.one fun i hi => (rowW_get (mOf x) k i hi).symm⟩

end Go.Proofs.Ytdmjcpindopjdaa.Co
