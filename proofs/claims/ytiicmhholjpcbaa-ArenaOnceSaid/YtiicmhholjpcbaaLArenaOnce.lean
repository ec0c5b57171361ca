/- becket/becketlaw02.ArenaOnce: for every input the law returns true, and each argument reads behind the call as before. No condition. -/
import Derived.Test.YtiicmhholjpcbaaRows
import Derived.Test.YtiicmhholjpcbaaVcG2
import Derived.Test.YtiicmhholjpcbaaCL02
import Derived.Test.YtiicmhholjpcbaaML02
namespace Go.Proofs.YtiicmhholjpcbaaV
open Go.Proofs
set_option linter.unusedVariables false
noncomputable def lf_L02_ArenaOnce : List AV → Option AV := liftF (.pair (.int .u8) (.pair (.int .u8) (.pair (.sl (.pair (.int .u8) (.pair (.int .i64) (.pair (.int .i64) .unit)))) .unit))) (unpack .bool) (fun x => L02_ArenaOnce x.1 x.2.1 x.2.2.1)
def tt_L02_ArenaOnce : List (Nat × Ty) := [(3, .int .i64), (4, .bool), (5, .int .u8), (22, .sl (.pair (.int .u8) (.pair (.int .i64) (.pair (.int .i64) .unit)))), (23, .opq 0), (24, .int .i64), (29, .pair (.int .u8) (.pair (.int .i64) (.pair (.int .i64) .unit))), (30, .int .u64), (49, .sl (.pair (.int .i64) (.pair .bool (.pair (.int .i64) .unit)))), (51, .pair (.int .i64) (.pair (.int .i64) (.pair (.sl (.pair (.int .i64) (.pair .bool (.pair (.int .i64) .unit)))) .unit))), (145, .opq 0), (149, .pair (.int .i64) (.pair .bool (.pair (.int .i64) .unit)))]
def et_L02_ArenaOnce : List (Nat × Nat) := [(22, 29), (49, 149)]
theorem tt_L02_ArenaOnce_ok : subT tt tt_L02_ArenaOnce = true := by kernel_rfl
theorem et_L02_ArenaOnce_ok : subE et et_L02_ArenaOnce = true := by kernel_rfl
noncomputable def pr_L02_ArenaOnce_15 (fns : List (Nat × (List AV → Option AV))) : List (Nat × Proc) := (15, procOf ⟨0, 0, et_L02_ArenaOnce, tt_L02_ArenaOnce, fns, [], [], [(0, [0, 1]), (1, [0, 1, 19]), (2, [4, 5]), (3, [4, 5])], none, []⟩ 25 [.tmp 4, .tmp 5] (bodyOf Try.f15)) :: []
theorem pr_L02_ArenaOnce_15_ok {fns : List (Nat × (List AV → Option AV))} (hf : FnsOk Go.Proofs.Try.prog fns) : PrsOk Go.Proofs.Try.prog (pr_L02_ArenaOnce_15 fns) :=
  PrsOk.cons (proc_con (EnvC.sub (yl := none) tt_ok et_ok hf (PrsOk.nil _) (ItsOk.nil _) tt_L02_ArenaOnce_ok et_L02_ArenaOnce_ok) (PrOk.of mixed_ok) Go.Proofs.Try.func15 rfl (by decide) rfl rfl) (PrsOk.nil _)
noncomputable def pr_L02_ArenaOnce_75 (fns : List (Nat × (List AV → Option AV))) : List (Nat × Proc) := (75, procOf ⟨0, 0, et_L02_ArenaOnce, tt_L02_ArenaOnce, fns, (pr_L02_ArenaOnce_15 fns), [], [(0, [0]), (1, [2])], none, []⟩ 13 [.tmp 2] (bodyOf Try.f75)) :: (pr_L02_ArenaOnce_15 fns)
theorem pr_L02_ArenaOnce_75_ok {fns : List (Nat × (List AV → Option AV))} (hf : FnsOk Go.Proofs.Try.prog fns) : PrsOk Go.Proofs.Try.prog (pr_L02_ArenaOnce_75 fns) :=
  PrsOk.cons (proc_con (EnvC.sub (yl := none) tt_ok et_ok hf (pr_L02_ArenaOnce_15_ok hf) (ItsOk.nil _) tt_L02_ArenaOnce_ok et_L02_ArenaOnce_ok) (PrOk.of mixed_ok) Go.Proofs.Try.func75 rfl (by decide) rfl rfl) (pr_L02_ArenaOnce_15_ok hf)
noncomputable def pr_L02_ArenaOnce_74 (fns : List (Nat × (List AV → Option AV))) : List (Nat × Proc) := (74, procOf ⟨0, 0, et_L02_ArenaOnce, tt_L02_ArenaOnce, fns, (pr_L02_ArenaOnce_75 fns), [(7, (.one 0 (.one 1 (.one 2 (.one 3 (.one 4 (.one 5 (.one 6 (.one 7 (.one 8 (.one 9 (.one 10 (.one 11 (.one 12 (.one 13 .nil)))))))))))))))], [(0, [0, 1]), (1, [0, 1, 10]), (2, [4, 5]), (3, [0, 1, 6]), (4, [0, 1, 6, 23]), (5, [4, 5]), (6, [1, 7]), (7, [7, 43]), (8, [4, 5]), (9, [4, 5])], none, []⟩ 45 [.tmp 4, .tmp 5] (bodyOf Try.f74)) :: (pr_L02_ArenaOnce_75 fns)
theorem pr_L02_ArenaOnce_74_ok {fns : List (Nat × (List AV → Option AV))} (hf : FnsOk Go.Proofs.Try.prog fns) : PrsOk Go.Proofs.Try.prog (pr_L02_ArenaOnce_74 fns) :=
  PrsOk.cons (proc_con (EnvC.sub (yl := none) tt_ok et_ok hf (pr_L02_ArenaOnce_75_ok hf) (ItsOk.nil _) tt_L02_ArenaOnce_ok et_L02_ArenaOnce_ok) (PrOk.of mixed_ok) Go.Proofs.Try.func74 rfl (by decide) rfl rfl) (pr_L02_ArenaOnce_75_ok hf)
noncomputable def pr_L02_ArenaOnce_17 (fns : List (Nat × (List AV → Option AV))) : List (Nat × Proc) := (17, procOf ⟨0, 0, et_L02_ArenaOnce, tt_L02_ArenaOnce, fns, (pr_L02_ArenaOnce_74 fns), [], [(0, [0, 1]), (1, [0, 5, 6]), (2, [0, 5, 6, 15]), (3, [0, 5, 6, 7]), (4, [0, 6]), (5, [6]), (6, [4])], none, []⟩ 31 [.tmp 4] (bodyOf Try.f17)) :: (pr_L02_ArenaOnce_74 fns)
theorem pr_L02_ArenaOnce_17_ok {fns : List (Nat × (List AV → Option AV))} (hf : FnsOk Go.Proofs.Try.prog fns) : PrsOk Go.Proofs.Try.prog (pr_L02_ArenaOnce_17 fns) :=
  PrsOk.cons (proc_con (EnvC.sub (yl := none) tt_ok et_ok hf (pr_L02_ArenaOnce_74_ok hf) (ItsOk.nil _) tt_L02_ArenaOnce_ok et_L02_ArenaOnce_ok) (PrOk.of mixed_ok) Go.Proofs.Try.func17 rfl (by decide) rfl rfl) (pr_L02_ArenaOnce_74_ok hf)
noncomputable def pr_L02_ArenaOnce_76 (fns : List (Nat × (List AV → Option AV))) : List (Nat × Proc) := (76, procOf ⟨0, 0, et_L02_ArenaOnce, tt_L02_ArenaOnce, fns, (pr_L02_ArenaOnce_17 fns), [(1, (.one 0 (.one 1 (.one 2 (.one 3 (.one 4 (.one 5 (.one 6 (.one 7 (.one 8 (.one 9 (.one 10 (.one 11 (.one 12 (.one 13 (.one 14 (.one 15 (.one 16 (.one 17 (.one 18 (.one 19 (.one 20 (.one 21 (.one 22 (.one 23 (.one 24 .nil))))))))))))))))))))))))))], [(0, [0, 1]), (1, [4])], none, []⟩ 29 [.tmp 4] (bodyOf Try.f76)) :: (pr_L02_ArenaOnce_17 fns)
theorem pr_L02_ArenaOnce_76_ok {fns : List (Nat × (List AV → Option AV))} (hf : FnsOk Go.Proofs.Try.prog fns) : PrsOk Go.Proofs.Try.prog (pr_L02_ArenaOnce_76 fns) :=
  PrsOk.cons (proc_con (EnvC.sub (yl := none) tt_ok et_ok hf (pr_L02_ArenaOnce_17_ok hf) (ItsOk.nil _) tt_L02_ArenaOnce_ok et_L02_ArenaOnce_ok) (PrOk.of mixed_ok) Go.Proofs.Try.func76 rfl (by decide) rfl rfl) (pr_L02_ArenaOnce_17_ok hf)
noncomputable def pr_L02_ArenaOnce_18 (fns : List (Nat × (List AV → Option AV))) : List (Nat × Proc) := (18, procOf ⟨0, 0, et_L02_ArenaOnce, tt_L02_ArenaOnce, fns, (pr_L02_ArenaOnce_76 fns), [], [(0, [0, 1]), (1, [0, 1, 10]), (2, [4, 5]), (3, [0, 1, 15, 16]), (4, [0, 1, 15, 16, 17]), (5, [0, 1, 6, 15, 16]), (6, [0, 1, 6, 15, 16, 21]), (7, [0, 1, 6, 7]), (8, [0, 6, 7]), (9, [6, 7]), (10, [4, 5]), (11, [0, 1, 15, 16]), (12, [4, 5])], none, []⟩ 59 [.tmp 4, .tmp 5] (bodyOf Try.f18)) :: (pr_L02_ArenaOnce_76 fns)
theorem pr_L02_ArenaOnce_18_ok {fns : List (Nat × (List AV → Option AV))} (hf : FnsOk Go.Proofs.Try.prog fns) : PrsOk Go.Proofs.Try.prog (pr_L02_ArenaOnce_18 fns) :=
  PrsOk.cons (proc_con (EnvC.sub (yl := none) tt_ok et_ok hf (pr_L02_ArenaOnce_76_ok hf) (ItsOk.nil _) tt_L02_ArenaOnce_ok et_L02_ArenaOnce_ok) (PrOk.of mixed_ok) Go.Proofs.Try.func18 rfl (by decide) rfl rfl) (pr_L02_ArenaOnce_76_ok hf)
noncomputable def pr_L02_ArenaOnce_19 (fns : List (Nat × (List AV → Option AV))) : List (Nat × Proc) := (19, procOf ⟨0, 0, et_L02_ArenaOnce, tt_L02_ArenaOnce, fns, (pr_L02_ArenaOnce_18 fns), [], [(0, [0, 1]), (1, [6, 7]), (2, [6, 7, 16]), (3, [7, 8]), (4, [4, 5]), (5, [4, 5])], none, []⟩ 23 [.tmp 4, .tmp 5] (bodyOf Try.f19)) :: (pr_L02_ArenaOnce_18 fns)
theorem pr_L02_ArenaOnce_19_ok {fns : List (Nat × (List AV → Option AV))} (hf : FnsOk Go.Proofs.Try.prog fns) : PrsOk Go.Proofs.Try.prog (pr_L02_ArenaOnce_19 fns) :=
  PrsOk.cons (proc_con (EnvC.sub (yl := none) tt_ok et_ok hf (pr_L02_ArenaOnce_18_ok hf) (ItsOk.nil _) tt_L02_ArenaOnce_ok et_L02_ArenaOnce_ok) (PrOk.of mixed_ok) Go.Proofs.Try.func19 rfl (by decide) rfl rfl) (pr_L02_ArenaOnce_18_ok hf)
noncomputable def pr_L02_ArenaOnce_20 (fns : List (Nat × (List AV → Option AV))) : List (Nat × Proc) := (20, procOf ⟨0, 0, et_L02_ArenaOnce, tt_L02_ArenaOnce, fns, (pr_L02_ArenaOnce_19 fns), [], [(0, [0]), (1, [0, 5]), (2, [2]), (3, [2])], none, []⟩ 10 [.tmp 2] (bodyOf Try.f20)) :: (pr_L02_ArenaOnce_19 fns)
theorem pr_L02_ArenaOnce_20_ok {fns : List (Nat × (List AV → Option AV))} (hf : FnsOk Go.Proofs.Try.prog fns) : PrsOk Go.Proofs.Try.prog (pr_L02_ArenaOnce_20 fns) :=
  PrsOk.cons (proc_con (EnvC.sub (yl := none) tt_ok et_ok hf (pr_L02_ArenaOnce_19_ok hf) (ItsOk.nil _) tt_L02_ArenaOnce_ok et_L02_ArenaOnce_ok) (PrOk.of mixed_ok) Go.Proofs.Try.func20 rfl (by decide) rfl rfl) (pr_L02_ArenaOnce_19_ok hf)
def L02_ArenaOnce_S1 (u0 : AV) (u1 : AV) (x2 : Int × Int × Int × (List (Int × Int × Int × Unit)) × (List (Int × Bool × Int × Unit)) × Int × Int) : St :=
  ⟨[(7, u0), (18, .int .i64 x2.1), (122, u1), (123, .int .i64 x2.2.1), (124, .int .i64 x2.2.2.1)], [(120, .row 29 (.pair (.int .u8) (.pair (.int .i64) (.pair (.int .i64) .unit))) x2.2.2.2.1 false), (33814, .row 149 (.pair (.int .i64) (.pair .bool (.pair (.int .i64) .unit))) x2.2.2.2.2.1 false), (33816, .var (.pair (.int .i64) (.pair (.int .i64) (.pair (.sl (.pair (.int .i64) (.pair .bool (.pair (.int .i64) .unit)))) .unit))) (.agg [.int .i64 x2.2.2.2.2.2.1, .int .i64 x2.2.2.2.2.2.2, .own 33814]) false)], none⟩
def L02_ArenaOnce_M1 : Msk := ⟨[7, 18, 122, 123, 124], [120, 33814, 33816], [], [], [], [], [], [], []⟩
def L02_ArenaOnce_S2 (u0 : AV) (u1 : AV) (u2 : AV) (B4 : Blk) (B5 : Blk) (B6 : Blk) (B8 : Blk) (x9 : Int) : St :=
  ⟨[(0, u0), (1, u1), (15, u2), (16, .int .i64 x9)], [(11, B4), (120, B5), (33814, B6), (33816, B8)], (some ([], 0))⟩
def L02_ArenaOnce_M2 : Msk := ⟨[0, 1, 15, 16], [11, 120, 33814, 33816], [], [], [], [], [], [], []⟩
def L02_ArenaOnce_S3 (u0 : AV) (u1 : AV) (u2 : AV) (u3 : AV) (u4 : AV) (u5 : AV) (u6 : AV) (u7 : AV) (u8 : AV) (B10 : Blk) (B11 : Blk) (B12 : Blk) (B14 : Blk) (x10 : Int) : St :=
  ⟨[(7, u0), (9, u1), (11, u2), (14, u3), (51, u4), (52, u5), (53, u6), (103, u7), (104, u8), (105, .int .i64 x10)], [(11, B10), (120, B11), (33814, B12), (33816, B14)], none⟩
def L02_ArenaOnce_M3 : Msk := ⟨[7, 9, 11, 14, 51, 52, 53, 103, 104, 105], [11, 120, 33814, 33816], [], [], [], [], [], [], []⟩
def L02_ArenaOnce_S4 (u0 : AV) (u1 : AV) (u2 : AV) (B4 : Blk) (B5 : Blk) (B6 : Blk) (B8 : Blk) (x12 : Int) : St :=
  ⟨[(0, u0), (1, u1), (15, u2), (16, .int .i64 x12)], [(11, B4), (120, B5), (33814, B6), (33816, B8)], (some ([], 0))⟩
def L02_ArenaOnce_M4 : Msk := ⟨[0, 1, 15, 16], [11, 120, 33814, 33816], [], [], [], [], [], [], []⟩
def L02_ArenaOnce_S5 (u0 : AV) (u1 : AV) (u2 : AV) (u3 : AV) (u4 : AV) (u5 : AV) (u6 : AV) (u7 : AV) (u8 : AV) (B10 : Blk) (B11 : Blk) (B12 : Blk) (B14 : Blk) (x13 : Int) : St :=
  ⟨[(7, u0), (9, u1), (11, u2), (14, u3), (51, u4), (52, u5), (53, u6), (103, u7), (104, u8), (105, .int .i64 x13)], [(11, B10), (120, B11), (33814, B12), (33816, B14)], none⟩
def L02_ArenaOnce_M5 : Msk := ⟨[7, 9, 11, 14, 51, 52, 53, 103, 104, 105], [11, 120, 33814, 33816], [], [], [], [], [], [], []⟩
def L02_ArenaOnce_S6 (u0 : AV) (u1 : AV) (x5 : (List (Int × Int × Int × Unit)) × Int × Int × (List (Int × Int × Int × Unit)) × (List (Int × Bool × Int × Unit)) × Int × Int) : St :=
  ⟨[(7, u0), (9, u1), (51, .ro (.pair (.int .u8) (.pair (.int .i64) (.pair (.int .i64) .unit))) x5.1), (52, .int .i64 x5.2.1), (53, .int .i64 x5.2.2.1)], [(120, .row 29 (.pair (.int .u8) (.pair (.int .i64) (.pair (.int .i64) .unit))) x5.2.2.2.1 false), (33814, .row 149 (.pair (.int .i64) (.pair .bool (.pair (.int .i64) .unit))) x5.2.2.2.2.1 false), (33816, .var (.pair (.int .i64) (.pair (.int .i64) (.pair (.sl (.pair (.int .i64) (.pair .bool (.pair (.int .i64) .unit)))) .unit))) (.agg [.int .i64 x5.2.2.2.2.2.1, .int .i64 x5.2.2.2.2.2.2, .own 33814]) false)], none⟩
def L02_ArenaOnce_M6 : Msk := ⟨[7, 9, 51, 52, 53], [120, 33814, 33816], [(9, 120, 22)], [], [], [], [], [], []⟩
def L02_ArenaOnce_Q1 (x1 : Bool) : St :=
  ⟨[(6, .bool x1)], [], none⟩
def L02_ArenaOnce_Q2 (x4 : Int × Int × Int × Int × Int × Int × Int × Int × (List (Int × Int × Int × Unit)) × (List (Int × Bool × Int × Unit)) × Int × Int) : St :=
  ⟨[(7, .ptr 33816 []), (18, .int .i64 x4.1), (20, .ptr 20 []), (21, .int .i64 x4.2.1), (22, .int .i64 x4.2.2.1), (122, .own 120), (123, .int .i64 x4.2.2.2.1), (124, .int .i64 x4.2.2.2.2.1)], [(20, .var (.pair (.int .u8) (.pair (.int .i64) (.pair (.int .i64) .unit))) (.agg [.int .u8 x4.2.2.2.2.2.1, .int .i64 x4.2.2.2.2.2.2.1, .int .i64 x4.2.2.2.2.2.2.2.1]) false), (120, .row 29 (.pair (.int .u8) (.pair (.int .i64) (.pair (.int .i64) .unit))) x4.2.2.2.2.2.2.2.2.1 false), (33814, .row 149 (.pair (.int .i64) (.pair .bool (.pair (.int .i64) .unit))) x4.2.2.2.2.2.2.2.2.2.1 false), (33816, .var (.pair (.int .i64) (.pair (.int .i64) (.pair (.sl (.pair (.int .i64) (.pair .bool (.pair (.int .i64) .unit)))) .unit))) (.agg [.int .i64 x4.2.2.2.2.2.2.2.2.2.2.1, .int .i64 x4.2.2.2.2.2.2.2.2.2.2.2, .own 33814]) false)], none⟩
def L02_ArenaOnce_Q3 (x3 : Int × Int × Int × (List (Int × Int × Int × Unit)) × (List (Int × Bool × Int × Unit)) × Int × Int) : St :=
  ⟨[(7, .ptr 33816 []), (18, .int .i64 x3.1), (122, .own 120), (123, .int .i64 x3.2.1), (124, .int .i64 x3.2.2.1)], [(120, .row 29 (.pair (.int .u8) (.pair (.int .i64) (.pair (.int .i64) .unit))) x3.2.2.2.1 false), (33814, .row 149 (.pair (.int .i64) (.pair .bool (.pair (.int .i64) .unit))) x3.2.2.2.2.1 false), (33816, .var (.pair (.int .i64) (.pair (.int .i64) (.pair (.sl (.pair (.int .i64) (.pair .bool (.pair (.int .i64) .unit)))) .unit))) (.agg [.int .i64 x3.2.2.2.2.2.1, .int .i64 x3.2.2.2.2.2.2, .own 33814]) false)], none⟩
def L02_ArenaOnce_Q4 (x7 : Int × Int × (List (Int × Int × Int × Unit)) × Int × Int × (List (Int × Int × Int × Unit)) × (List (Int × Bool × Int × Unit)) × Int × Int) : St :=
  ⟨[(7, .ptr 33816 []), (9, .own 120), (12, .int .i64 x7.1), (13, .int .i64 x7.2.1), (51, .ro (.pair (.int .u8) (.pair (.int .i64) (.pair (.int .i64) .unit))) x7.2.2.1), (52, .int .i64 x7.2.2.2.1), (53, .int .i64 x7.2.2.2.2.1)], [(120, .row 29 (.pair (.int .u8) (.pair (.int .i64) (.pair (.int .i64) .unit))) x7.2.2.2.2.2.1 false), (33814, .row 149 (.pair (.int .i64) (.pair .bool (.pair (.int .i64) .unit))) x7.2.2.2.2.2.2.1 false), (33816, .var (.pair (.int .i64) (.pair (.int .i64) (.pair (.sl (.pair (.int .i64) (.pair .bool (.pair (.int .i64) .unit)))) .unit))) (.agg [.int .i64 x7.2.2.2.2.2.2.2.1, .int .i64 x7.2.2.2.2.2.2.2.2, .own 33814]) false)], none⟩
def L02_ArenaOnce_Q5 (x8 : Int × Int × (List (Int × Int × Int × Unit)) × Int × Int × Int × Int × Int × (List (Int × Int × Int × Unit)) × (List (Int × Bool × Int × Unit)) × Int × Int) : St :=
  ⟨[(7, .ptr 33816 []), (9, .own 120), (11, .ptr 11 []), (14, .int .i64 x8.1), (15, .int .i64 x8.2.1), (51, .ro (.pair (.int .u8) (.pair (.int .i64) (.pair (.int .i64) .unit))) x8.2.2.1), (52, .int .i64 x8.2.2.2.1), (53, .int .i64 x8.2.2.2.2.1)], [(11, .var (.pair (.int .u8) (.pair (.int .i64) (.pair (.int .i64) .unit))) (.agg [.int .u8 x8.2.2.2.2.2.1, .int .i64 x8.2.2.2.2.2.2.1, .int .i64 x8.2.2.2.2.2.2.2.1]) false), (120, .row 29 (.pair (.int .u8) (.pair (.int .i64) (.pair (.int .i64) .unit))) x8.2.2.2.2.2.2.2.2.1 false), (33814, .row 149 (.pair (.int .i64) (.pair .bool (.pair (.int .i64) .unit))) x8.2.2.2.2.2.2.2.2.2.1 false), (33816, .var (.pair (.int .i64) (.pair (.int .i64) (.pair (.sl (.pair (.int .i64) (.pair .bool (.pair (.int .i64) .unit)))) .unit))) (.agg [.int .i64 x8.2.2.2.2.2.2.2.2.2.2.1, .int .i64 x8.2.2.2.2.2.2.2.2.2.2.2, .own 33814]) false)], none⟩
def L02_ArenaOnce_Q6 (x11 : Int × Int × (List (Int × Int × Int × Unit)) × Int × Int × Int × Int × Int × (List (Int × Int × Int × Unit)) × (List (Int × Bool × Int × Unit)) × Int × Int) : St :=
  ⟨[(7, .ptr 33816 []), (9, .own 120), (11, .ptr 11 []), (14, .int .i64 x11.1), (15, .int .i64 x11.2.1), (51, .ro (.pair (.int .u8) (.pair (.int .i64) (.pair (.int .i64) .unit))) x11.2.2.1), (52, .int .i64 x11.2.2.2.1), (53, .int .i64 x11.2.2.2.2.1)], [(11, .var (.pair (.int .u8) (.pair (.int .i64) (.pair (.int .i64) .unit))) (.agg [.int .u8 x11.2.2.2.2.2.1, .int .i64 x11.2.2.2.2.2.2.1, .int .i64 x11.2.2.2.2.2.2.2.1]) false), (120, .row 29 (.pair (.int .u8) (.pair (.int .i64) (.pair (.int .i64) .unit))) x11.2.2.2.2.2.2.2.2.1 false), (33814, .row 149 (.pair (.int .i64) (.pair .bool (.pair (.int .i64) .unit))) x11.2.2.2.2.2.2.2.2.2.1 false), (33816, .var (.pair (.int .i64) (.pair (.int .i64) (.pair (.sl (.pair (.int .i64) (.pair .bool (.pair (.int .i64) .unit)))) .unit))) (.agg [.int .i64 x11.2.2.2.2.2.2.2.2.2.2.1, .int .i64 x11.2.2.2.2.2.2.2.2.2.2.2, .own 33814]) false)], none⟩
def L02_ArenaOnce_Q7 (x6 : (List (Int × Int × Int × Unit)) × Int × Int × (List (Int × Int × Int × Unit)) × (List (Int × Bool × Int × Unit)) × Int × Int) : St :=
  ⟨[(7, .ptr 33816 []), (9, .own 120), (51, .ro (.pair (.int .u8) (.pair (.int .i64) (.pair (.int .i64) .unit))) x6.1), (52, .int .i64 x6.2.1), (53, .int .i64 x6.2.2.1)], [(120, .row 29 (.pair (.int .u8) (.pair (.int .i64) (.pair (.int .i64) .unit))) x6.2.2.2.1 false), (33814, .row 149 (.pair (.int .i64) (.pair .bool (.pair (.int .i64) .unit))) x6.2.2.2.2.1 false), (33816, .var (.pair (.int .i64) (.pair (.int .i64) (.pair (.sl (.pair (.int .i64) (.pair .bool (.pair (.int .i64) .unit)))) .unit))) (.agg [.int .i64 x6.2.2.2.2.2.1, .int .i64 x6.2.2.2.2.2.2, .own 33814]) false)], none⟩
noncomputable def E_L02_ArenaOnce (fns : List (Nat × (List AV → Option AV))) : Env := ⟨0, 0, et_L02_ArenaOnce, tt_L02_ArenaOnce, fns, (pr_L02_ArenaOnce_20 fns), [], [(0, [0, 1, 2]), (1, [2, 7, 8]), (2, [2, 7, 45]), (3, [6]), (4, [2, 7, 9]), (5, [7, 9, 51, 52, 53]), (6, [7, 9, 51, 52, 53, 54]), (7, [7, 9, 11, 51, 52, 53]), (8, [7, 9, 11, 51, 52, 53, 65]), (9, [7, 9, 12, 51, 52, 53]), (10, [7, 9, 12, 13, 51, 52, 53]), (11, [7, 9, 12, 51, 52, 53, 89]), (12, [6]), (13, [7, 9, 51, 52, 53]), (14, [7, 9, 11, 14, 15, 51, 52, 53]), (15, [7, 9, 11, 14, 51, 52, 53, 102]), (16, [7, 9, 11, 14, 51, 52, 53, 103, 104, 105]), (17, [7, 9, 11, 14, 51, 52, 53, 103, 104, 105, 106]), (18, [7, 9, 11, 14, 17, 51, 52, 53, 103, 104, 105]), (19, [7, 9, 11, 14, 51, 52, 53, 103, 104, 105, 112]), (20, [6]), (21, [7, 9, 11, 14, 51, 52, 53, 103, 104, 105]), (22, [7, 9, 51, 52, 53]), (23, [7, 9, 51, 52, 53]), (24, [7, 9, 18]), (25, [7, 18, 122, 123, 124]), (26, [7, 18, 122, 123, 124, 125]), (27, [7, 18, 20, 122, 123, 124]), (28, [7, 18, 20, 21, 22, 122, 123, 124]), (29, [7, 18, 20, 122, 123, 124, 156]), (30, [6]), (31, [7, 18, 122, 123, 124]), (32, [7, 18, 122, 123, 124]), (33, [6]), (5000010, []), (4000010, [120, 33814, 33816]), (6000010, []), (5000014, []), (4000014, [11, 120, 33814, 33816]), (6000014, []), (5000028, []), (4000028, [20, 120, 33814, 33816]), (6000028, []), (5000033, []), (4000033, []), (6000033, []), (12000001, []), (7000001, [7, 9, 51, 52, 53]), (11000001, [120, 33814, 33816]), (13000001, []), (12000005, []), (7000005, [7, 18, 122, 123, 124]), (11000005, [120, 33814, 33816]), (13000005, []), (4000000, []), (4000001, [33814, 33816]), (4000002, [33814, 33816]), (4000003, []), (4000004, [33814, 33816]), (4000005, [33814, 33816]), (4000006, [120, 33814, 33816]), (4000007, [11, 120, 33814, 33816]), (4000008, [11, 120, 33814, 33816]), (4000009, [120, 33814, 33816]), (4000011, [120, 33814, 33816]), (4000012, []), (4000013, [120, 33814, 33816]), (4000015, [11, 120, 33814, 33816]), (4000016, [11, 120, 33814, 33816]), (4000017, [11, 120, 33814, 33816]), (4000018, [11, 17, 120, 33814, 33816]), (4000019, [11, 120, 33814, 33816]), (4000020, []), (4000021, [11, 120, 33814, 33816]), (4000022, [120, 33814, 33816]), (4000023, [120, 33814, 33816]), (4000024, [120, 33814, 33816]), (4000025, [120, 33814, 33816]), (4000026, [120, 33814, 33816]), (4000027, [20, 120, 33814, 33816]), (4000029, [20, 120, 33814, 33816]), (4000030, []), (4000031, [120, 33814, 33816]), (4000032, [120, 33814, 33816])], none, []⟩
set_option maxRecDepth 100000 in
set_option maxHeartbeats 40000000 in
theorem c_L02_ArenaOnce : PCon Go.Proofs.Try.prog 3 lf_L02_ArenaOnce := by
  obtain ⟨G16, hG16, cG16⟩ : ∃ G : (.unit : Ty).den → Option Bool, (∀ x, G x = L02_alive) ∧ PCon Go.Proofs.Try.prog 16 (liftF .unit (unpack .bool) G) := ⟨_, fun _ => rfl, c_L02_alive⟩
  obtain ⟨G77, hG77, cG77⟩ : ∃ G : ((.pair (.int .i64) (.pair (.int .i64) .unit)) : Ty).den → Option (Int × Int × Unit), (∀ x, G x = handle_Make x.1 x.2.1) ∧ PCon Go.Proofs.Try.prog 77 (liftF (.pair (.int .i64) (.pair (.int .i64) .unit)) (unpR (.pair (.int .i64) (.pair (.int .i64) .unit))) G) := ⟨_, fun _ => rfl, c_handle_Make⟩
  obtain ⟨G107, hG107, cG107⟩ : ∃ G : ((.pair (.int .i64) .unit) : Ty).den → Option Int, (∀ x, G x = handle_Slot x.1) ∧ PCon Go.Proofs.Try.prog 107 (liftF (.pair (.int .i64) .unit) (unpack (.int .i64)) G) := ⟨_, fun _ => rfl, c_handle_Slot⟩
  obtain ⟨G108, hG108, cG108⟩ : ∃ G : ((.pair (.int .i64) .unit) : Ty).den → Option Int, (∀ x, G x = handle_Gen x.1) ∧ PCon Go.Proofs.Try.prog 108 (liftF (.pair (.int .i64) .unit) (unpack (.int .i64)) G) := ⟨_, fun _ => rfl, c_handle_Gen⟩
  obtain ⟨fns, hfns, hf⟩ : ∃ fns, fns = [(16, liftF .unit (unpack .bool) G16), (77, liftF (.pair (.int .i64) (.pair (.int .i64) .unit)) (unpR (.pair (.int .i64) (.pair (.int .i64) .unit))) G77), (107, liftF (.pair (.int .i64) .unit) (unpack (.int .i64)) G107), (108, liftF (.pair (.int .i64) .unit) (unpack (.int .i64)) G108)] ∧ FnsOk Go.Proofs.Try.prog fns := ⟨_, rfl, FnsOk.cons cG16 (FnsOk.cons cG77 (FnsOk.cons cG107 (FnsOk.cons cG108 (FnsOk.nil _))))⟩
  refine lift_con (E := E_L02_ArenaOnce fns) (c := bodyOf Try.f3) (nt := 170) (rs := [.tmp 6]) (ts := [4]) (EnvC.sub tt_ok et_ok hf (pr_L02_ArenaOnce_20_ok hf) (ItsOk.nil _) tt_L02_ArenaOnce_ok et_L02_ArenaOnce_ok) (PrOk.of mixed_ok) Go.Proofs.Try.func3 rfl (by decide) rfl rfl rfl (pureR_one (e := .bool) rfl) ?_
  subst hfns
  intro x r hw hs
  repeat'
    (try (conv => whnf)
     first
       | (have hs := letv_out hs)
       | (refine draw_and (by kernel_rfl) ?_)
       | (refine both_mk ?_ ?_)
       | (refine br_bool (fun h => ?_) (fun h => ?_) <;> first | have hs := cT h hs | have hs := cF h hs)
       | (refine bind_elim hs fun v hb hs => ?_; first | refine callK_liftG hG16 rfl hb ?_ | refine callK_liftG hG77 rfl hb ?_ | refine callK_liftG hG107 rfl hb ?_ | refine callK_liftG hG108 rfl hb ?_)
       | refine chk_elim hs fun hs => ?_
       | exact fin_some hs rfl
       | (intro b hb; first | have hs := nilq_elim hs b hb | have hs := nilqn_elim hs b hb)
       | exact hJ1 _ hs
       | exact hJ2 _ hs
       | exact hJ3 _ hs
       | exact hJ4 _ hs
       | exact hJ5 _ hs
       | exact hJ6 _ hs
       | exact hC1 _ hs
       | exact hC2 _ hs
       | exact hC3 _ hs
       | exact hC4 _ hs
       | exact hC5 _ hs
       | exact hC6 _ hs
       | exact hC7 _ hs
       | (refine cut_out 1 L02_ArenaOnce_Q1 hs (fun Jc1 kc1 hC1 hs => ?_) (fun xc1 hs => ?_))
       | (refine cut_out 2 L02_ArenaOnce_Q2 hs (fun Jc2 kc2 hC2 hs => ?_) (fun xc2 hs => ?_))
       | (refine cut_out 3 L02_ArenaOnce_Q3 hs (fun Jc3 kc3 hC3 hs => ?_) (fun xc3 hs => ?_))
       | (refine cut_out 4 L02_ArenaOnce_Q4 hs (fun Jc4 kc4 hC4 hs => ?_) (fun xc4 hs => ?_))
       | (refine cut_out 5 L02_ArenaOnce_Q5 hs (fun Jc5 kc5 hC5 hs => ?_) (fun xc5 hs => ?_))
       | (refine cut_out 6 L02_ArenaOnce_Q6 hs (fun Jc6 kc6 hC6 hs => ?_) (fun xc6 hs => ?_))
       | (refine cut_out 7 L02_ArenaOnce_Q7 hs (fun Jc7 kc7 hC7 hs => ?_) (fun xc7 hs => ?_))
       | (have hs := cT rfl hs)
       | (have hs := cF rfl hs)
       | (refine vc_loop (L02_ArenaOnce_S1 _ _) L02_ArenaOnce_M1 hs rfl ?_; intro J1 k1 x1 hJ1 hs)
       | (refine vc_loop (L02_ArenaOnce_S2 _ _ _ _ _ _ _) L02_ArenaOnce_M2 hs rfl ?_; intro J2 k2 x2 hJ2 hs)
       | (refine vc_loop (L02_ArenaOnce_S3 _ _ _ _ _ _ _ _ _ _ _ _ _) L02_ArenaOnce_M3 hs rfl ?_; intro J3 k3 x3 hJ3 hs)
       | (refine vc_loop (L02_ArenaOnce_S4 _ _ _ _ _ _ _) L02_ArenaOnce_M4 hs rfl ?_; intro J4 k4 x4 hJ4 hs)
       | (refine vc_loop (L02_ArenaOnce_S5 _ _ _ _ _ _ _ _ _ _ _ _ _) L02_ArenaOnce_M5 hs rfl ?_; intro J5 k5 x5 hJ5 hs)
       | (refine vc_loop (L02_ArenaOnce_S6 _ _) L02_ArenaOnce_M6 hs rfl ?_; intro J6 k6 x6 hJ6 hs)
       | exact (none_ne hs).elim)
end Go.Proofs.YtiicmhholjpcbaaV
namespace Go.Proofs.Ytiicmhholjpcbaa.arenaOnce
open Go.ChangeShapes Go.WideShapes Go.ChangeAt Go.RowKit Go.Proofs.YtiicmhholjpcbaaV
set_option linter.unusedVariables false
theorem own : ownKnob Try.prog.godebug = none := by kernel_rfl
set_option maxRecDepth 100000 in
theorem lifted (os : Os) (started : os.Started) (H : Type) (enc : TypeId × Value → H) :
    ReturnsInHanded {} Try.checked os 3 .any (Rows.arenaOnceSpec.pre6 enc Try.prog Try.f3 Rows.arenaOnceRow.domain false) (Rows.arenaOnceSpec.post enc Try.prog Try.f3 false true false false) := by
  refine returnsInHanded_of_change_sized (C := Try.checked) own started (by kernel_rfl) Try.func3
    (ChangeSpec.witness6 (enc := enc) (C := Try.checked) false ⟨#[], #[.int .u8 0, .int .u8 0, .slice none 0 0], []⟩ 12 (by kernel_rfl) (by kernel_rfl) (by kernel_rfl) (by kernel_rfl)) ?_
  intro W base args ds gs before hval0 hW hcnd hsz0 _
  refine row_of (C := Try.checked) (s := Rows.arenaOnceSpec) (c := bodyOf Try.f3) (tr := 4) c_L02_ArenaOnce Try.func3 rfl (by decide) (by kernel_rfl) (by kernel_rfl) (by kernel_rfl) rfl Try.underlying4 rfl ?_ law_L02_ArenaOnce rfl W base args ds gs before hval0 hW hsz0
  intro ds hl
  match ds, hl with
  | [d1, d2, d3], _ => exact ⟨rfl, rfl, rfl⟩
theorem over : Rows.arenaOnceRow.holds Try.pinned (OpenSpec.ofChange Rows.arenaOnceSpec) :=
  OpenClaim.holds_of_wide 3 Try.f3 rfl rfl rfl rfl rfl rfl rfl ⟨rfl, rfl, rfl, rfl, rfl⟩ rfl rfl rfl rfl rfl (by kernel_rfl) Try.func3 (by kernel_rfl)
    (of_decide_eq_true (by kernel_rfl)) (by unfold Func.isWrapper; first | (rw [if_pos (by decide +kernel)]; kernel_rfl) | (rw [if_neg (by decide +kernel)]; exact ⟨rfl, rfl⟩))
    (fun os started H enc _ => lifted os started H enc)
end Go.Proofs.Ytiicmhholjpcbaa.arenaOnce
namespace Go.Proofs.Ytiicmhholjpcbaa
/-- The row, under a short name, for the claim. -/
theorem arenaOnce_holds : Rows.ArenaOnceSaid := arenaOnce.over
end Go.Proofs.Ytiicmhholjpcbaa
