/- The seat's types as tables of the VC evaluator: printed by wip/tools/tab.py, checked by the kernel. -/
import Derived.Test.YtdddmgbbjifkdaaVcY
import Derived.Test.YtdddmgbbjifkdaaProg
import Derived.KernelRfl
namespace Go.Proofs.YtdddmgbbjifkdaaV
def tt : List (Nat × Ty) := [
  (1, .opq 1),
  (2, .int .i64),
  (3, .int .i64),
  (4, .bool),
  (5, .int .u8),
  (6, .int .u8),
  (7, .pair (.int .i64) (.pair (.int .i64) (.pair (.bool) (.pair (.int .u8) (.unit))))),
  (8, .pair (.int .i64) (.pair (.int .i64) (.pair (.bool) (.pair (.int .u8) (.unit))))),
  (9, .str),
  (10, .str),
  (11, .str),
  (12, .int .u64),
  (15, .opq 0),
  (16, .opq 0),
  (17, .opq 0),
  (20, .opq 2),
  (21, .int .i32),
  (22, .int .i64),
  (24, .opq 1),
  (26, .opq 1),
  (27, .opq 1),
  (28, .opq 1),
  (29, .opq 1),
  (30, .opq 1),
  (31, .int .u32),
  (32, .int .u16),
  (33, .arr 2 (.int .u16)),
  (34, .opq 1),
  (35, .int .u64),
  (36, .int .u64),
  (37, .opq 1),
  (38, .opq 1),
  (39, .opq 1),
  (40, .opq 1),
  (41, .sl (.int .i64)),
  (43, .opq 1),
  (45, .opq 1),
  (47, .opq 1),
  (48, .opq 1),
  (49, .opq 1),
  (50, .opq 1),
  (51, .sl (.int .u8)),
  (52, .opq 1),
  (53, .opq 1),
  (54, .opq 1),
  (57, .arr 0 (.opq 0)),
  (60, .opq 1),
  (61, .int .u8),
  (62, .int .u8),
  (63, .opq 1),
  (64, .opq 0),
  (65, .int .i32),
  (66, .int .i32)]
def et : List (Nat × Nat) := [(41, 3), (51, 5)]
theorem tt_ok : ttB Go.Proofs.Try.prog tt = true := by kernel_rfl
theorem et_ok : etB Go.Proofs.Try.prog et = true := by kernel_rfl
theorem mixed_ok : Go.Proofs.Try.prog.follows .mixedOrders = true := by kernel_rfl
end Go.Proofs.YtdddmgbbjifkdaaV
