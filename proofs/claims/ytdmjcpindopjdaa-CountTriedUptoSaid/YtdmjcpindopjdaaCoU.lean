/-
  Layer 5: closed lists by their length, the function. No conditions.
-/
import Derived.Test.YtdmjcpindopjdaaCoT
namespace Go.Proofs.Ytdmjcpindopjdaa.Co
open Go.Sy

def ls50 (a b c d n : Int) : List (Nat × Lp) := [(0, lp50 a b c d n), (2, ⟨[], 1000, [], 1000, 10⟩), (4, lp50_4 a b c d n)]
def m50 (a b c d : Int) : M4 := ⟨wr IntKind.u64 a, wr IntKind.u64 b, wr IntKind.u64 c, wr IntKind.u64 d⟩

theorem first50 (p0 p4 : (St → T (Ex × St)) → St → Bool) (r0 r4 : Ex × St) (a b c d n : Int) :
    (iterT (body50 (onP 0 p0 r0 (onP 4 p4 r4 (loopsBy (ls50 a b c d n))))) (lp50 a b c d n) 3 (ent50 a b c d n)).sem = some (en50a a b c d n 0) := by kernel_rfl

theorem ent50_st (a b c d n : Int) : ent50_4 a b c d n = st50_4 a b c d n (m50 a b c d) (m50 a b c d) 1 (rowW (m50 a b c d) 0) 1 fun i => nth (ent50_4 a b c d n).t i := rfl

theorem walks50 (a b c d : Int) (n : Nat) (h1 : 1 ≤ n) (hn : n ≤ 1000) (hm : (m50 a b c d).ok = true) :
    (finF (evalF tab (cxOf Gl tbT (ls50 a b c d (Int.ofNat n))) Try.f50 [.agg [iV a, iV b, iV c, iV d], iV (Int.ofNat n)] [])).sem = some (.ref 0, [.row 54 1 (n + 1) (rowW (m50 a b c d) n)]) := by
  have hL := loopsBy_le (ls50 a b c d (Int.ofNat n))
  have hq := M4.ok_iff.1 hm
  have h4 : ∀ L, (iterT (body50_4 L) (lp50_4 a b c d (Int.ofNat n)) (n + 1) (ent50_4 a b c d (Int.ofNat n))).sem = some (en50_4a a b c d (Int.ofNat n) (m50 a b c d) (powM (m50 a b c d) (n - 1)) (n + 1) (rowW (m50 a b c d) n) 0) := by
    intro L
    rw [ent50_st, iter_round (round50f L a b c d _ _ _ 1 _ 1 _ (le_true (by simp; omega)) rfl hq.1 hq.2.2.2 rfl), show wr IntKind.i64 (iadd 1 1) = 2 from rfl]
    exact run50 L a b c d n (m50 a b c d) hm hn (n - 1) 0 (fun _ => .und) n (by omega) (by omega)
  refine told_le (onP_le (onP_le hL hL) hL) _ (way50 _ _ _ a b c d _ (m50 a b c d) (powM (m50 a b c d) (n - 1)) (n + 1) (rowW (m50 a b c d) n) 0 (isP_true ?_) (isP_true (h4 _)))
  exact first50 _ _ _ _ a b c d _

end Go.Proofs.Ytdmjcpindopjdaa.Co
