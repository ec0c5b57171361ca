/- The seat's types as tables of the VC evaluator: printed by wip/tools/tab.py, checked by the kernel. -/
import Derived.Test.YtdddmgbbjifkdaaDoorVcY
import Derived.Test.YtdddmgbbjifkdaaDoorProg
import Derived.KernelRfl
namespace Go.Proofs.YtdddmgbbjifkdaaDoorV
def tt : List (Nat × Ty) := [
  (1, .opq 1),
  (2, .int .i64),
  (3, .int .i64),
  (4, .bool),
  (5, .int .u8),
  (6, .int .u8),
  (7, .pair (.int .i64) (.pair (.int .i64) (.pair (.bool) (.pair (.int .u8) (.unit))))),
  (8, .pair (.int .i64) (.pair (.int .i64) (.pair (.bool) (.pair (.int .u8) (.unit))))),
  (9, .str),
  (10, .str),
  (11, .str),
  (12, .int .u64),
  (15, .opq 0),
  (16, .opq 0),
  (17, .opq 0),
  (20, .opq 2),
  (21, .int .i32),
  (22, .pair (.str) (.pair (.str) (.pair (.int .i64) (.unit)))),
  (23, .pair (.str) (.pair (.str) (.pair (.int .i64) (.unit)))),
  (24, .opq 1),
  (25, .opq 1),
  (26, .opq 1),
  (27, .opq 1),
  (28, .opq 1),
  (30, .opq 1),
  (31, .opq 1),
  (32, .opq 1),
  (33, .sl (.pair (.str) (.pair (.str) (.pair (.int .i64) (.unit))))),
  (34, .opq 1),
  (35, .pair (.str) (.pair (.str) (.pair (.int .i64) (.unit)))),
  (36, .pair (.str) (.pair (.str) (.pair (.int .i64) (.unit)))),
  (37, .arr 48 (.pair (.str) (.pair (.str) (.pair (.int .i64) (.unit))))),
  (38, .opq 1),
  (41, .arr 0 (.opq 0)),
  (44, .opq 1),
  (45, .int .u32),
  (46, .int .u8),
  (47, .int .u8),
  (48, .opq 1),
  (49, .opq 0),
  (50, .int .i32),
  (51, .int .i32)]
def et : List (Nat × Nat) := [(33, 23)]
theorem tt_ok : ttB Go.Proofs.Tryd.prog tt = true := by kernel_rfl
theorem et_ok : etB Go.Proofs.Tryd.prog et = true := by kernel_rfl
theorem mixed_ok : Go.Proofs.Tryd.prog.follows .mixedOrders = true := by kernel_rfl
end Go.Proofs.YtdddmgbbjifkdaaDoorV
