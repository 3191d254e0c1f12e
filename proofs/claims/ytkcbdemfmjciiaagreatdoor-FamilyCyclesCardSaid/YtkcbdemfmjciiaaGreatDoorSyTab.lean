/-
  The table of the program's types, as the evaluator asks of them, and that it is the program's own. No conditions.
-/
import Derived.Test.YtkcbdemfmjciiaaGreatDoorSyA
import Derived.Test.YtkcbdemfmjciiaaGreatDoorProg
import Derived.KernelRfl
namespace Go.Sy
open Go.Proofs
set_option maxRecDepth 100000

def tab : List Ty := [
  ⟨.other, 1, 0, .und, false⟩,
  ⟨.other, 1, 8, .val (.nilFunc), false⟩,
  ⟨.int .i64, 1, 8, .val (.int .i64 0), false⟩,
  ⟨.int .i64, 1, 8, .val (.int .i64 0), false⟩,
  ⟨.bool, 1, 1, .val (.bool false), false⟩,
  ⟨.int .u8, 1, 1, .val (.int .u8 0), false⟩,
  ⟨.int .u8, 1, 1, .val (.int .u8 0), false⟩,
  ⟨.st [(0, 2), (1, 3), (2, 4), (3, 6)], 4, 24, .agg [.val (.int .i64 0), .val (.int .i64 0), .val (.bool false), .val (.int .u8 0)], true⟩,
  ⟨.st [(0, 2), (1, 3), (2, 4), (3, 6)], 4, 24, .agg [.val (.int .i64 0), .val (.int .i64 0), .val (.bool false), .val (.int .u8 0)], true⟩,
  ⟨.str, 1, 16, .str [], false⟩,
  ⟨.str, 1, 16, .str [], false⟩,
  ⟨.str, 1, 16, .str [], false⟩,
  ⟨.int .u64, 1, 8, .val (.int .u64 0), false⟩,
  ⟨.st [(0, 9), (1, 12)], 2, 24, .agg [.str [], .val (.int .u64 0)], false⟩,
  ⟨.st [(0, 9), (1, 12)], 2, 24, .agg [.str [], .val (.int .u64 0)], false⟩,
  ⟨.other, 1, 8, .val (.pointer none), false⟩,
  ⟨.other, 1, 8, .val (.pointer none), false⟩,
  ⟨.other, 1, 8, .val (.pointer none), false⟩,
  ⟨.st [(0, 17)], 1, 8, .agg [.val (.pointer none)], false⟩,
  ⟨.st [(0, 17)], 1, 8, .agg [.val (.pointer none)], false⟩,
  ⟨.other, 1, 16, .val (.nilIface), false⟩,
  ⟨.int .i32, 1, 4, .val (.int .i32 0), false⟩,
  ⟨.sl 38, 1, 24, .nilS, false⟩,
  ⟨.int .i64, 1, 8, .val (.int .i64 0), false⟩,
  ⟨.other, 1, 0, .und, false⟩,
  ⟨.other, 1, 8, .val (.nilFunc), false⟩,
  ⟨.other, 1, 8, .val (.nilFunc), false⟩,
  ⟨.other, 1, 8, .val (.nilFunc), false⟩,
  ⟨.other, 1, 8, .val (.nilFunc), false⟩,
  ⟨.st [(0, 9), (1, 9)], 2, 32, .agg [.str [], .str []], true⟩,
  ⟨.st [(0, 9), (1, 9)], 2, 32, .agg [.str [], .str []], true⟩,
  ⟨.arr 25 30, 50, 800, .agg [.str [], .str [], .str [], .str [], .str [], .str [], .str [], .str [], .str [], .str [], .str [], .str [], .str [], .str [], .str [], .str [], .str [], .str [], .str [], .str [], .str [], .str [], .str [], .str [], .str [], .str [], .str [], .str [], .str [], .str [], .str [], .str [], .str [], .str [], .str [], .str [], .str [], .str [], .str [], .str [], .str [], .str [], .str [], .str [], .str [], .str [], .str [], .str [], .str [], .str []], false⟩,
  ⟨.other, 1, 0, .und, false⟩,
  ⟨.other, 1, 8, .val (.nilFunc), false⟩,
  ⟨.other, 1, 8, .val (.nilFunc), false⟩,
  ⟨.other, 1, 0, .und, false⟩,
  ⟨.other, 1, 8, .val (.nilFunc), false⟩,
  ⟨.st [(0, 3), (1, 4), (2, 4), (3, 3), (4, 3), (5, 3)], 6, 40, .agg [.val (.int .i64 0), .val (.bool false), .val (.bool false), .val (.int .i64 0), .val (.int .i64 0), .val (.int .i64 0)], true⟩,
  ⟨.st [(0, 3), (1, 4), (2, 4), (3, 3), (4, 3), (5, 3)], 6, 40, .agg [.val (.int .i64 0), .val (.bool false), .val (.bool false), .val (.int .i64 0), .val (.int .i64 0), .val (.int .i64 0)], true⟩,
  ⟨.other, 1, 0, .und, false⟩,
  ⟨.other, 1, 8, .val (.nilFunc), false⟩,
  ⟨.other, 1, 0, .und, false⟩,
  ⟨.other, 1, 8, .val (.nilFunc), false⟩,
  ⟨.other, 1, 8, .val (.nilFunc), false⟩,
  ⟨.other, 1, 0, .und, false⟩,
  ⟨.other, 1, 8, .val (.nilFunc), false⟩,
  ⟨.other, 1, 0, .und, false⟩,
  ⟨.other, 1, 8, .val (.nilFunc), false⟩,
  ⟨.other, 1, 8, .val (.nilFunc), false⟩,
  ⟨.other, 1, 8, .val (.nilFunc), false⟩,
  ⟨.other, 1, 8, .val (.nilFunc), false⟩,
  ⟨.other, 1, 8, .val (.nilFunc), false⟩,
  ⟨.other, 1, 8, .val (.nilFunc), false⟩,
  ⟨.other, 1, 8, .val (.nilFunc), false⟩,
  ⟨.other, 1, 8, .val (.nilFunc), false⟩,
  ⟨.other, 1, 8, .val (.nilFunc), false⟩,
  ⟨.other, 1, 0, .und, false⟩,
  ⟨.other, 1, 8, .val (.nilFunc), false⟩,
  ⟨.other, 1, 8, .val (.nilFunc), false⟩,
  ⟨.sl 3, 1, 24, .nilS, false⟩,
  ⟨.other, 1, 8, .val (.nilFunc), false⟩,
  ⟨.other, 1, 8, .val (.nilFunc), false⟩,
  ⟨.other, 1, 8, .val (.nilFunc), false⟩,
  ⟨.other, 1, 8, .val (.nilFunc), false⟩,
  ⟨.other, 1, 0, .und, false⟩,
  ⟨.other, 1, 8, .val (.nilFunc), false⟩,
  ⟨.other, 1, 8, .val (.nilFunc), false⟩,
  ⟨.other, 1, 8, .val (.nilFunc), false⟩,
  ⟨.other, 1, 8, .val (.nilFunc), false⟩,
  ⟨.other, 1, 0, .und, false⟩,
  ⟨.other, 1, 8, .val (.nilFunc), false⟩,
  ⟨.other, 1, 8, .val (.nilFunc), false⟩,
  ⟨.other, 1, 0, .und, false⟩,
  ⟨.other, 1, 8, .val (.nilFunc), false⟩,
  ⟨.other, 1, 8, .val (.nilFunc), false⟩,
  ⟨.other, 1, 8, .val (.nilFunc), false⟩,
  ⟨.other, 1, 8, .val (.nilFunc), false⟩,
  ⟨.other, 1, 8, .val (.nilFunc), false⟩,
  ⟨.other, 1, 8, .val (.pointer none), false⟩,
  ⟨.sl 5, 1, 24, .nilS, false⟩,
  ⟨.st [(0, 78), (1, 79)], 2, 32, .agg [.val (.pointer none), .nilS], false⟩,
  ⟨.st [(0, 78), (1, 79)], 2, 32, .agg [.val (.pointer none), .nilS], false⟩,
  ⟨.other, 1, 8, .val (.nilFunc), false⟩,
  ⟨.other, 1, 16, .val (.nilIface), false⟩,
  ⟨.other, 1, 16, .val (.nilIface), false⟩,
  ⟨.other, 1, 0, .und, false⟩,
  ⟨.other, 1, 8, .val (.nilFunc), false⟩,
  ⟨.other, 1, 0, .und, false⟩,
  ⟨.other, 1, 8, .val (.nilFunc), false⟩,
  ⟨.other, 1, 8, .val (.nilFunc), false⟩,
  ⟨.other, 1, 8, .val (.nilFunc), false⟩,
  ⟨.other, 1, 8, .val (.nilFunc), false⟩,
  ⟨.other, 1, 8, .val (.nilFunc), false⟩,
  ⟨.sl 4, 1, 24, .nilS, false⟩,
  ⟨.other, 1, 8, .val (.nilFunc), false⟩,
  ⟨.other, 1, 0, .und, false⟩,
  ⟨.other, 1, 8, .val (.nilFunc), false⟩,
  ⟨.other, 1, 8, .val (.nilFunc), false⟩,
  ⟨.sl 9, 1, 24, .nilS, false⟩,
  ⟨.other, 1, 8, .val (.nilFunc), false⟩,
  ⟨.other, 1, 8, .val (.nilFunc), false⟩,
  ⟨.other, 1, 8, .val (.nilFunc), false⟩,
  ⟨.imap 3, 1, 8, .val (.map none), false⟩,
  ⟨.other, 1, 8, .val (.nilFunc), false⟩,
  ⟨.arr 6 9, 6, 96, .agg [.str [], .str [], .str [], .str [], .str [], .str []], true⟩,
  ⟨.arr 10 9, 10, 160, .agg [.str [], .str [], .str [], .str [], .str [], .str [], .str [], .str [], .str [], .str []], true⟩,
  ⟨.arr 9 9, 9, 144, .agg [.str [], .str [], .str [], .str [], .str [], .str [], .str [], .str [], .str []], true⟩,
  ⟨.arr 4 9, 4, 64, .agg [.str [], .str [], .str [], .str []], true⟩,
  ⟨.other, 1, 8, .val (.nilFunc), false⟩,
  ⟨.other, 1, 8, .val (.nilFunc), false⟩,
  ⟨.other, 1, 8, .val (.pointer none), false⟩,
  ⟨.other, 1, 8, .val (.nilFunc), false⟩,
  ⟨.other, 1, 8, .val (.nilFunc), false⟩,
  ⟨.other, 1, 8, .val (.nilFunc), false⟩,
  ⟨.other, 1, 8, .val (.nilFunc), false⟩,
  ⟨.other, 1, 8, .val (.pointer none), false⟩,
  ⟨.other, 1, 8, .val (.nilFunc), false⟩,
  ⟨.other, 1, 8, .val (.nilFunc), false⟩,
  ⟨.other, 1, 8, .val (.nilFunc), false⟩,
  ⟨.int .u64, 1, 8, .val (.int .u64 0), false⟩,
  ⟨.arr 256 5, 256, 256, .agg [.val (.int .u8 0), .val (.int .u8 0), .val (.int .u8 0), .val (.int .u8 0), .val (.int .u8 0), .val (.int .u8 0), .val (.int .u8 0), .val (.int .u8 0), .val (.int .u8 0), .val (.int .u8 0), .val (.int .u8 0), .val (.int .u8 0), .val (.int .u8 0), .val (.int .u8 0), .val (.int .u8 0), .val (.int .u8 0), .val (.int .u8 0), .val (.int .u8 0), .val (.int .u8 0), .val (.int .u8 0), .val (.int .u8 0), .val (.int .u8 0), .val (.int .u8 0), .val (.int .u8 0), .val (.int .u8 0), .val (.int .u8 0), .val (.int .u8 0), .val (.int .u8 0), .val (.int .u8 0), .val (.int .u8 0), .val (.int .u8 0), .val (.int .u8 0), .val (.int .u8 0), .val (.int .u8 0), .val (.int .u8 0), .val (.int .u8 0), .val (.int .u8 0), .val (.int .u8 0), .val (.int .u8 0), .val (.int .u8 0), .val (.int .u8 0), .val (.int .u8 0), .val (.int .u8 0), .val (.int .u8 0), .val (.int .u8 0), .val (.int .u8 0), .val (.int .u8 0), .val (.int .u8 0), .val (.int .u8 0), .val (.int .u8 0), .val (.int .u8 0), .val (.int .u8 0), .val (.int .u8 0), .val (.int .u8 0), .val (.int .u8 0), .val (.int .u8 0), .val (.int .u8 0), .val (.int .u8 0), .val (.int .u8 0), .val (.int .u8 0), .val (.int .u8 0), .val (.int .u8 0), .val (.int .u8 0), .val (.int .u8 0), .val (.int .u8 0), .val (.int .u8 0), .val (.int .u8 0), .val (.int .u8 0), .val (.int .u8 0), .val (.int .u8 0), .val (.int .u8 0), .val (.int .u8 0), .val (.int .u8 0), .val (.int .u8 0), .val (.int .u8 0), .val (.int .u8 0), .val (.int .u8 0), .val (.int .u8 0), .val (.int .u8 0), .val (.int .u8 0), .val (.int .u8 0), .val (.int .u8 0), .val (.int .u8 0), .val (.int .u8 0), .val (.int .u8 0), .val (.int .u8 0), .val (.int .u8 0), .val (.int .u8 0), .val (.int .u8 0), .val (.int .u8 0), .val (.int .u8 0), .val (.int .u8 0), .val (.int .u8 0), .val (.int .u8 0), .val (.int .u8 0), .val (.int .u8 0), .val (.int .u8 0), .val (.int .u8 0), .val (.int .u8 0), .val (.int .u8 0), .val (.int .u8 0), .val (.int .u8 0), .val (.int .u8 0), .val (.int .u8 0), .val (.int .u8 0), .val (.int .u8 0), .val (.int .u8 0), .val (.int .u8 0), .val (.int .u8 0), .val (.int .u8 0), .val (.int .u8 0), .val (.int .u8 0), .val (.int .u8 0), .val (.int .u8 0), .val (.int .u8 0), .val (.int .u8 0), .val (.int .u8 0), .val (.int .u8 0), .val (.int .u8 0), .val (.int .u8 0), .val (.int .u8 0), .val (.int .u8 0), .val (.int .u8 0), .val (.int .u8 0), .val (.int .u8 0), .val (.int .u8 0), .val (.int .u8 0), .val (.int .u8 0), .val (.int .u8 0), .val (.int .u8 0), .val (.int .u8 0), .val (.int .u8 0), .val (.int .u8 0), .val (.int .u8 0), .val (.int .u8 0), .val (.int .u8 0), .val (.int .u8 0), .val (.int .u8 0), .val (.int .u8 0), .val (.int .u8 0), .val (.int .u8 0), .val (.int .u8 0), .val (.int .u8 0), .val (.int .u8 0), .val (.int .u8 0), .val (.int .u8 0), .val (.int .u8 0), .val (.int .u8 0), .val (.int .u8 0), .val (.int .u8 0), .val (.int .u8 0), .val (.int .u8 0), .val (.int .u8 0), .val (.int .u8 0), .val (.int .u8 0), .val (.int .u8 0), .val (.int .u8 0), .val (.int .u8 0), .val (.int .u8 0), .val (.int .u8 0), .val (.int .u8 0), .val (.int .u8 0), .val (.int .u8 0), .val (.int .u8 0), .val (.int .u8 0), .val (.int .u8 0), .val (.int .u8 0), .val (.int .u8 0), .val (.int .u8 0), .val (.int .u8 0), .val (.int .u8 0), .val (.int .u8 0), .val (.int .u8 0), .val (.int .u8 0), .val (.int .u8 0), .val (.int .u8 0), .val (.int .u8 0), .val (.int .u8 0), .val (.int .u8 0), .val (.int .u8 0), .val (.int .u8 0), .val (.int .u8 0), .val (.int .u8 0), .val (.int .u8 0), .val (.int .u8 0), .val (.int .u8 0), .val (.int .u8 0), .val (.int .u8 0), .val (.int .u8 0), .val (.int .u8 0), .val (.int .u8 0), .val (.int .u8 0), .val (.int .u8 0), .val (.int .u8 0), .val (.int .u8 0), .val (.int .u8 0), .val (.int .u8 0), .val (.int .u8 0), .val (.int .u8 0), .val (.int .u8 0), .val (.int .u8 0), .val (.int .u8 0), .val (.int .u8 0), .val (.int .u8 0), .val (.int .u8 0), .val (.int .u8 0), .val (.int .u8 0), .val (.int .u8 0), .val (.int .u8 0), .val (.int .u8 0), .val (.int .u8 0), .val (.int .u8 0), .val (.int .u8 0), .val (.int .u8 0), .val (.int .u8 0), .val (.int .u8 0), .val (.int .u8 0), .val (.int .u8 0), .val (.int .u8 0), .val (.int .u8 0), .val (.int .u8 0), .val (.int .u8 0), .val (.int .u8 0), .val (.int .u8 0), .val (.int .u8 0), .val (.int .u8 0), .val (.int .u8 0), .val (.int .u8 0), .val (.int .u8 0), .val (.int .u8 0), .val (.int .u8 0), .val (.int .u8 0), .val (.int .u8 0), .val (.int .u8 0), .val (.int .u8 0), .val (.int .u8 0), .val (.int .u8 0), .val (.int .u8 0), .val (.int .u8 0), .val (.int .u8 0), .val (.int .u8 0), .val (.int .u8 0), .val (.int .u8 0), .val (.int .u8 0), .val (.int .u8 0), .val (.int .u8 0), .val (.int .u8 0), .val (.int .u8 0), .val (.int .u8 0), .val (.int .u8 0), .val (.int .u8 0), .val (.int .u8 0), .val (.int .u8 0), .val (.int .u8 0), .val (.int .u8 0), .val (.int .u8 0)], true⟩,
  ⟨.st [(0, 5), (1, 5)], 2, 2, .agg [.val (.int .u8 0), .val (.int .u8 0)], true⟩,
  ⟨.st [(0, 5), (1, 5)], 2, 2, .agg [.val (.int .u8 0), .val (.int .u8 0)], true⟩,
  ⟨.arr 16 122, 32, 32, .agg [.val (.int .u8 0), .val (.int .u8 0), .val (.int .u8 0), .val (.int .u8 0), .val (.int .u8 0), .val (.int .u8 0), .val (.int .u8 0), .val (.int .u8 0), .val (.int .u8 0), .val (.int .u8 0), .val (.int .u8 0), .val (.int .u8 0), .val (.int .u8 0), .val (.int .u8 0), .val (.int .u8 0), .val (.int .u8 0), .val (.int .u8 0), .val (.int .u8 0), .val (.int .u8 0), .val (.int .u8 0), .val (.int .u8 0), .val (.int .u8 0), .val (.int .u8 0), .val (.int .u8 0), .val (.int .u8 0), .val (.int .u8 0), .val (.int .u8 0), .val (.int .u8 0), .val (.int .u8 0), .val (.int .u8 0), .val (.int .u8 0), .val (.int .u8 0)], false⟩,
  ⟨.other, 1, 8, .val (.nilFunc), false⟩,
  ⟨.other, 1, 8, .val (.nilFunc), false⟩,
  ⟨.int .u32, 1, 4, .val (.int .u32 0), false⟩,
  ⟨.other, 1, 0, .und, false⟩,
  ⟨.other, 1, 8, .val (.nilFunc), false⟩,
  ⟨.st [(0, 17), (1, 17), (2, 17), (3, 9)], 4, 40, .agg [.val (.pointer none), .val (.pointer none), .val (.pointer none), .str []], false⟩,
  ⟨.st [(0, 17), (1, 17), (2, 17), (3, 9)], 4, 40, .agg [.val (.pointer none), .val (.pointer none), .val (.pointer none), .str []], false⟩,
  ⟨.arr 0 16, 0, 0, .agg [], false⟩,
  ⟨.st [(0, 131)], 0, 0, .agg [], false⟩,
  ⟨.st [(0, 131)], 0, 0, .agg [], false⟩,
  ⟨.other, 1, 8, .val (.nilFunc), false⟩,
  ⟨.int .u8, 1, 1, .val (.int .u8 0), false⟩,
  ⟨.int .u8, 1, 1, .val (.int .u8 0), false⟩,
  ⟨.other, 1, 8, .val (.nilFunc), false⟩,
  ⟨.int .i32, 1, 4, .val (.int .i32 0), false⟩,
  ⟨.int .i32, 1, 4, .val (.int .i32 0), false⟩,
  ⟨.st [(0, 12), (1, 12), (2, 126), (3, 135), (4, 5), (5, 5), (6, 136), (7, 137), (8, 110), (9, 138), (10, 139)], 11, 48, .agg [.val (.int .u64 0), .val (.int .u64 0), .val (.int .u32 0), .val (.int .u8 0), .val (.int .u8 0), .val (.int .u8 0), .val (.int .u8 0), .val (.nilFunc), .val (.pointer none), .val (.int .i32 0), .val (.int .i32 0)], false⟩,
  ⟨.st [(0, 12), (1, 12), (2, 126), (3, 135), (4, 5), (5, 5), (6, 136), (7, 137), (8, 110), (9, 138), (10, 139)], 11, 48, .agg [.val (.int .u64 0), .val (.int .u64 0), .val (.int .u32 0), .val (.int .u8 0), .val (.int .u8 0), .val (.int .u8 0), .val (.int .u8 0), .val (.nilFunc), .val (.pointer none), .val (.int .i32 0), .val (.int .i32 0)], false⟩]

def rowsOf (P : Program) : Nat → Nat → List (Option Ty)
  | 0, _ => []
  | n + 1, k => tyOf P k :: rowsOf P n (Nat.succ k)

def somes : List Ty → List (Option Ty)
  | [] => []
  | t :: l => some t :: somes l

theorem tab_eq : rowsOf Tryz.prog 142 0 = somes tab := by kernel_rfl

theorem rows_get (P : Program) : ∀ (n k j : Nat), j < n → (rowsOf P n k)[j]? = some (tyOf P (k + j))
  | 0, _, _, h => absurd h (Nat.not_lt_zero _)
  | n + 1, k, 0, _ => rfl
  | n + 1, k, j + 1, h => by
    have := rows_get P n (Nat.succ k) j (Nat.lt_of_succ_lt_succ h)
    simp only [rowsOf, List.getElem?_cons_succ, this]
    rw [show Nat.succ k + j = k + (j + 1) by omega]

theorem somes_get : ∀ (l : List Ty) (j : Nat) (t : Ty), l[j]? = some t → (somes l)[j]? = some (some t) ∧ j < l.length
  | [], _, _, h => by simp at h
  | a :: l, 0, t, h => by simp at h; subst h; exact ⟨rfl, by simp⟩
  | a :: l, j + 1, t, h => by
    have := somes_get l j t (by simpa using h)
    exact ⟨by simpa [somes] using this.1, by simp; exact this.2⟩

theorem tab_len : tab.length = 142 := by kernel_rfl

/-- Each row of the table is the program's. -/
theorem tab_ok (j : Nat) (t : Ty) (h : tab[j]? = some t) : tyOf Tryz.prog j = some t := by
  obtain ⟨h1, h2⟩ := somes_get tab j t h
  rw [tab_len] at h2
  rw [← tab_eq, rows_get _ _ _ _ h2] at h1
  simpa using h1

end Go.Sy
