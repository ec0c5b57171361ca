import Derived.Test.YtiicmhholjpcbaaVcTab
import Derived.Test.YtiicmhholjpcbaaDL02
import Derived.Test.YtiicmhholjpcbaaCR02
import Derived.Test.YtiicmhholjpcbaaChandle
namespace Go.Proofs.YtiicmhholjpcbaaV
open Go.Proofs
set_option linter.unusedVariables false
noncomputable def lf_L02_alive : List AV → Option AV := liftF .unit (unpack .bool) (fun x => L02_alive)
def tt_L02_alive : List (Nat × Ty) := [(3, .int .i64), (4, .bool), (23, .opq 0), (24, .int .i64), (36, .sl (.int .i64)), (49, .sl (.pair (.int .i64) (.pair .bool (.pair (.int .i64) .unit)))), (51, .pair (.int .i64) (.pair (.int .i64) (.pair (.sl (.pair (.int .i64) (.pair .bool (.pair (.int .i64) .unit)))) .unit))), (145, .opq 0), (149, .pair (.int .i64) (.pair .bool (.pair (.int .i64) .unit)))]
def et_L02_alive : List (Nat × Nat) := [(36, 3), (49, 149)]
theorem tt_L02_alive_ok : subT tt tt_L02_alive = true := by kernel_rfl
theorem et_L02_alive_ok : subE et et_L02_alive = true := by kernel_rfl
noncomputable def pr_L02_alive_15 (fns : List (Nat × (List AV → Option AV))) : List (Nat × Proc) := (15, procOf ⟨0, 0, et_L02_alive, tt_L02_alive, fns, [], [], [(0, [0, 1]), (1, [0, 1, 19]), (2, [4, 5]), (3, [4, 5])], none, []⟩ 25 [.tmp 4, .tmp 5] (bodyOf Try.f15)) :: []
theorem pr_L02_alive_15_ok {fns : List (Nat × (List AV → Option AV))} (hf : FnsOk Go.Proofs.Try.prog fns) : PrsOk Go.Proofs.Try.prog (pr_L02_alive_15 fns) :=
  PrsOk.cons (proc_con (EnvC.sub (yl := none) tt_ok et_ok hf (PrsOk.nil _) (ItsOk.nil _) tt_L02_alive_ok et_L02_alive_ok) (PrOk.of mixed_ok) Go.Proofs.Try.func15 rfl (by decide) rfl rfl) (PrsOk.nil _)
noncomputable def pr_L02_alive_75 (fns : List (Nat × (List AV → Option AV))) : List (Nat × Proc) := (75, procOf ⟨0, 0, et_L02_alive, tt_L02_alive, fns, (pr_L02_alive_15 fns), [], [(0, [0]), (1, [2])], none, []⟩ 13 [.tmp 2] (bodyOf Try.f75)) :: (pr_L02_alive_15 fns)
theorem pr_L02_alive_75_ok {fns : List (Nat × (List AV → Option AV))} (hf : FnsOk Go.Proofs.Try.prog fns) : PrsOk Go.Proofs.Try.prog (pr_L02_alive_75 fns) :=
  PrsOk.cons (proc_con (EnvC.sub (yl := none) tt_ok et_ok hf (pr_L02_alive_15_ok hf) (ItsOk.nil _) tt_L02_alive_ok et_L02_alive_ok) (PrOk.of mixed_ok) Go.Proofs.Try.func75 rfl (by decide) rfl rfl) (pr_L02_alive_15_ok hf)
noncomputable def pr_L02_alive_74 (fns : List (Nat × (List AV → Option AV))) : List (Nat × Proc) := (74, procOf ⟨0, 0, et_L02_alive, tt_L02_alive, fns, (pr_L02_alive_75 fns), [(7, (.one 0 (.one 1 (.one 2 (.one 3 (.one 4 (.one 5 (.one 6 (.one 7 (.one 8 (.one 9 (.one 10 (.one 11 (.one 12 (.one 13 .nil)))))))))))))))], [(0, [0, 1]), (1, [0, 1, 10]), (2, [4, 5]), (3, [0, 1, 6]), (4, [0, 1, 6, 23]), (5, [4, 5]), (6, [1, 7]), (7, [7, 43]), (8, [4, 5]), (9, [4, 5])], none, []⟩ 45 [.tmp 4, .tmp 5] (bodyOf Try.f74)) :: (pr_L02_alive_75 fns)
theorem pr_L02_alive_74_ok {fns : List (Nat × (List AV → Option AV))} (hf : FnsOk Go.Proofs.Try.prog fns) : PrsOk Go.Proofs.Try.prog (pr_L02_alive_74 fns) :=
  PrsOk.cons (proc_con (EnvC.sub (yl := none) tt_ok et_ok hf (pr_L02_alive_75_ok hf) (ItsOk.nil _) tt_L02_alive_ok et_L02_alive_ok) (PrOk.of mixed_ok) Go.Proofs.Try.func74 rfl (by decide) rfl rfl) (pr_L02_alive_75_ok hf)
noncomputable def pr_L02_alive_17 (fns : List (Nat × (List AV → Option AV))) : List (Nat × Proc) := (17, procOf ⟨0, 0, et_L02_alive, tt_L02_alive, fns, (pr_L02_alive_74 fns), [], [(0, [0, 1]), (1, [0, 5, 6]), (2, [0, 5, 6, 15]), (3, [0, 5, 6, 7]), (4, [0, 6]), (5, [6]), (6, [4])], none, []⟩ 31 [.tmp 4] (bodyOf Try.f17)) :: (pr_L02_alive_74 fns)
theorem pr_L02_alive_17_ok {fns : List (Nat × (List AV → Option AV))} (hf : FnsOk Go.Proofs.Try.prog fns) : PrsOk Go.Proofs.Try.prog (pr_L02_alive_17 fns) :=
  PrsOk.cons (proc_con (EnvC.sub (yl := none) tt_ok et_ok hf (pr_L02_alive_74_ok hf) (ItsOk.nil _) tt_L02_alive_ok et_L02_alive_ok) (PrOk.of mixed_ok) Go.Proofs.Try.func17 rfl (by decide) rfl rfl) (pr_L02_alive_74_ok hf)
noncomputable def pr_L02_alive_76 (fns : List (Nat × (List AV → Option AV))) : List (Nat × Proc) := (76, procOf ⟨0, 0, et_L02_alive, tt_L02_alive, fns, (pr_L02_alive_17 fns), [(1, (.one 0 (.one 1 (.one 2 (.one 3 (.one 4 (.one 5 (.one 6 (.one 7 (.one 8 (.one 9 (.one 10 (.one 11 (.one 12 (.one 13 (.one 14 (.one 15 (.one 16 (.one 17 (.one 18 (.one 19 (.one 20 (.one 21 (.one 22 (.one 23 (.one 24 .nil))))))))))))))))))))))))))], [(0, [0, 1]), (1, [4])], none, []⟩ 29 [.tmp 4] (bodyOf Try.f76)) :: (pr_L02_alive_17 fns)
theorem pr_L02_alive_76_ok {fns : List (Nat × (List AV → Option AV))} (hf : FnsOk Go.Proofs.Try.prog fns) : PrsOk Go.Proofs.Try.prog (pr_L02_alive_76 fns) :=
  PrsOk.cons (proc_con (EnvC.sub (yl := none) tt_ok et_ok hf (pr_L02_alive_17_ok hf) (ItsOk.nil _) tt_L02_alive_ok et_L02_alive_ok) (PrOk.of mixed_ok) Go.Proofs.Try.func76 rfl (by decide) rfl rfl) (pr_L02_alive_17_ok hf)
noncomputable def pr_L02_alive_18 (fns : List (Nat × (List AV → Option AV))) : List (Nat × Proc) := (18, procOf ⟨0, 0, et_L02_alive, tt_L02_alive, fns, (pr_L02_alive_76 fns), [], [(0, [0, 1]), (1, [0, 1, 10]), (2, [4, 5]), (3, [0, 1, 15, 16]), (4, [0, 1, 15, 16, 17]), (5, [0, 1, 6, 15, 16]), (6, [0, 1, 6, 15, 16, 21]), (7, [0, 1, 6, 7]), (8, [0, 6, 7]), (9, [6, 7]), (10, [4, 5]), (11, [0, 1, 15, 16]), (12, [4, 5])], none, []⟩ 59 [.tmp 4, .tmp 5] (bodyOf Try.f18)) :: (pr_L02_alive_76 fns)
theorem pr_L02_alive_18_ok {fns : List (Nat × (List AV → Option AV))} (hf : FnsOk Go.Proofs.Try.prog fns) : PrsOk Go.Proofs.Try.prog (pr_L02_alive_18 fns) :=
  PrsOk.cons (proc_con (EnvC.sub (yl := none) tt_ok et_ok hf (pr_L02_alive_76_ok hf) (ItsOk.nil _) tt_L02_alive_ok et_L02_alive_ok) (PrOk.of mixed_ok) Go.Proofs.Try.func18 rfl (by decide) rfl rfl) (pr_L02_alive_76_ok hf)
noncomputable def pr_L02_alive_19 (fns : List (Nat × (List AV → Option AV))) : List (Nat × Proc) := (19, procOf ⟨0, 0, et_L02_alive, tt_L02_alive, fns, (pr_L02_alive_18 fns), [], [(0, [0, 1]), (1, [6, 7]), (2, [6, 7, 16]), (3, [7, 8]), (4, [4, 5]), (5, [4, 5])], none, []⟩ 23 [.tmp 4, .tmp 5] (bodyOf Try.f19)) :: (pr_L02_alive_18 fns)
theorem pr_L02_alive_19_ok {fns : List (Nat × (List AV → Option AV))} (hf : FnsOk Go.Proofs.Try.prog fns) : PrsOk Go.Proofs.Try.prog (pr_L02_alive_19 fns) :=
  PrsOk.cons (proc_con (EnvC.sub (yl := none) tt_ok et_ok hf (pr_L02_alive_18_ok hf) (ItsOk.nil _) tt_L02_alive_ok et_L02_alive_ok) (PrOk.of mixed_ok) Go.Proofs.Try.func19 rfl (by decide) rfl rfl) (pr_L02_alive_18_ok hf)
noncomputable def pr_L02_alive_20 (fns : List (Nat × (List AV → Option AV))) : List (Nat × Proc) := (20, procOf ⟨0, 0, et_L02_alive, tt_L02_alive, fns, (pr_L02_alive_19 fns), [], [(0, [0]), (1, [0, 5]), (2, [2]), (3, [2])], none, []⟩ 10 [.tmp 2] (bodyOf Try.f20)) :: (pr_L02_alive_19 fns)
theorem pr_L02_alive_20_ok {fns : List (Nat × (List AV → Option AV))} (hf : FnsOk Go.Proofs.Try.prog fns) : PrsOk Go.Proofs.Try.prog (pr_L02_alive_20 fns) :=
  PrsOk.cons (proc_con (EnvC.sub (yl := none) tt_ok et_ok hf (pr_L02_alive_19_ok hf) (ItsOk.nil _) tt_L02_alive_ok et_L02_alive_ok) (PrOk.of mixed_ok) Go.Proofs.Try.func20 rfl (by decide) rfl rfl) (pr_L02_alive_19_ok hf)
noncomputable def pr_L02_alive_27 (fns : List (Nat × (List AV → Option AV))) : List (Nat × Proc) := (27, procOf ⟨0, 0, et_L02_alive, tt_L02_alive, fns, (pr_L02_alive_20 fns), [], [(0, [0]), (1, [0, 7]), (2, [2]), (3, [0, 3]), (4, [0, 3, 12, 13]), (5, [0, 3, 12, 13, 14]), (6, [0, 3, 4, 12, 13]), (7, [0, 3, 12, 13, 18]), (8, [0, 3, 12, 13]), (9, [0, 3, 12, 13]), (10, [2]), (12000001, []), (7000001, [0, 3, 12, 13]), (11000001, [16406, 16408]), (13000001, [])], none, []⟩ 23 [.tmp 2] (bodyOf Try.f27)) :: (pr_L02_alive_20 fns)
theorem pr_L02_alive_27_ok {fns : List (Nat × (List AV → Option AV))} (hf : FnsOk Go.Proofs.Try.prog fns) : PrsOk Go.Proofs.Try.prog (pr_L02_alive_27 fns) :=
  PrsOk.cons (proc_con (EnvC.sub (yl := none) tt_ok et_ok hf (pr_L02_alive_20_ok hf) (ItsOk.nil _) tt_L02_alive_ok et_L02_alive_ok) (PrOk.of mixed_ok) Go.Proofs.Try.func27 rfl (by decide) rfl rfl) (pr_L02_alive_20_ok hf)
noncomputable def pr_L02_alive_28 (fns : List (Nat × (List AV → Option AV))) : List (Nat × Proc) := (28, procOf ⟨0, 0, et_L02_alive, tt_L02_alive, fns, (pr_L02_alive_27 fns), [], [(0, [0]), (1, [0, 10]), (2, [2]), (3, [0, 3]), (4, [3, 14, 15, 16]), (5, [3, 14, 15, 16, 17]), (6, [3, 4, 5, 14, 15, 16]), (7, [3, 4, 5, 14, 15, 16, 22]), (8, [3, 6, 14, 15, 16]), (9, [3, 14, 15, 16]), (10, [3, 14, 15, 16]), (11, [2])], none, []⟩ 36 [.tmp 2] (bodyOf Try.f28)) :: (pr_L02_alive_27 fns)
theorem pr_L02_alive_28_ok {fns : List (Nat × (List AV → Option AV))} (hf : FnsOk Go.Proofs.Try.prog fns) : PrsOk Go.Proofs.Try.prog (pr_L02_alive_28 fns) :=
  PrsOk.cons (proc_con (EnvC.sub (yl := none) tt_ok et_ok hf (pr_L02_alive_27_ok hf) (ItsOk.nil _) tt_L02_alive_ok et_L02_alive_ok) (PrOk.of mixed_ok) Go.Proofs.Try.func28 rfl (by decide) rfl rfl) (pr_L02_alive_27_ok hf)
def L02_alive_S1 (u0 : AV) (u1 : AV) (u2 : AV) (B3 : Blk) (B5 : Blk) (x2 : Int) : St :=
  ⟨[(0, u0), (1, u1), (15, u2), (16, .int .i64 x2)], [(16406, B3), (16408, B5)], (some ([], 0))⟩
def L02_alive_M1 : Msk := ⟨[0, 1, 15, 16], [16406, 16408], [], [], [], [], [], [], []⟩
def L02_alive_S2 (u0 : AV) (u1 : AV) (u2 : AV) (B3 : Blk) (B5 : Blk) (x5 : Int) : St :=
  ⟨[(0, u0), (1, u1), (15, u2), (16, .int .i64 x5)], [(16406, B3), (16408, B5)], (some ([], 0))⟩
def L02_alive_M2 : Msk := ⟨[0, 1, 15, 16], [16406, 16408], [], [], [], [], [], [], []⟩
def L02_alive_S3 (u0 : AV) (u1 : AV) (u2 : AV) (B3 : Blk) (B5 : Blk) (x10 : Int) : St :=
  ⟨[(0, u0), (1, u1), (15, u2), (16, .int .i64 x10)], [(16406, B3), (16408, B5)], (some ([], 0))⟩
def L02_alive_M3 : Msk := ⟨[0, 1, 15, 16], [16406, 16408], [], [], [], [], [], [], []⟩
def L02_alive_S4 (u0 : AV) (u1 : AV) (u2 : AV) (B3 : Blk) (B5 : Blk) (x12 : Int × List Int) : St :=
  ⟨[(3, u0), (14, u1), (15, u2), (16, .int .i64 x12.1)], [(16406, B3), (16408, B5), (106529, .row 3 (.int .i64) x12.2 false)], (some ([106501, 106528, 106529], 0))⟩
def L02_alive_M4 : Msk := ⟨[3, 14, 15, 16], [16406, 16408, 106529], [(3, 106529, 36)], [], [106501, 106528, 106529], [], [], [], []⟩
def L02_alive_S5 (u0 : AV) (u1 : AV) (u2 : AV) (B3 : Blk) (B5 : Blk) (x13 : Int × List Int) : St :=
  ⟨[(3, u0), (14, u1), (15, u2), (16, .int .i64 x13.1)], [(16406, B3), (16408, B5), (106529, .row 3 (.int .i64) x13.2 false)], (some ([106501, 106528, 106529], 0))⟩
def L02_alive_M5 : Msk := ⟨[3, 14, 15, 16], [16406, 16408, 106529], [(3, 106529, 36)], [], [106501, 106528, 106529], [], [], [], []⟩
def L02_alive_S6 (u0 : AV) (p1 : Int) (x14 : Int × Int × Int × (List (Int × Bool × Int × Unit)) × Int) : St :=
  ⟨[(0, u0), (3, .int .i64 x14.1), (12, .int .i64 x14.2.1), (13, .int .i64 x14.2.2.1)], [(16406, .row 149 (.pair (.int .i64) (.pair .bool (.pair (.int .i64) .unit))) x14.2.2.2.1 false), (16408, .var (.pair (.int .i64) (.pair (.int .i64) (.pair (.sl (.pair (.int .i64) (.pair .bool (.pair (.int .i64) .unit)))) .unit))) (.agg [.int .i64 p1, .int .i64 x14.2.2.2.2, .own 16406]) false)], (some ([], 0))⟩
def L02_alive_M6 : Msk := ⟨[0, 3, 12, 13], [16406, 16408], [], [], [], [], [], [], []⟩
def L02_alive_S7 (u0 : AV) (u1 : AV) (u2 : AV) (B3 : Blk) (B5 : Blk) (x16 : Int × List Int) : St :=
  ⟨[(3, u0), (14, u1), (15, u2), (16, .int .i64 x16.1)], [(16406, B3), (16408, B5), (106529, .row 3 (.int .i64) x16.2 false)], (some ([106501, 106528, 106529], 0))⟩
def L02_alive_M7 : Msk := ⟨[3, 14, 15, 16], [16406, 16408, 106529], [(3, 106529, 36)], [], [106501, 106528, 106529], [], [], [], []⟩
def L02_alive_S8 (u0 : AV) (u1 : AV) (u2 : AV) (B3 : Blk) (B5 : Blk) (x17 : Int × List Int) : St :=
  ⟨[(3, u0), (14, u1), (15, u2), (16, .int .i64 x17.1)], [(16406, B3), (16408, B5), (106529, .row 3 (.int .i64) x17.2 false)], (some ([106501, 106528, 106529], 0))⟩
def L02_alive_M8 : Msk := ⟨[3, 14, 15, 16], [16406, 16408, 106529], [(3, 106529, 36)], [], [106501, 106528, 106529], [], [], [], []⟩
def L02_alive_S9 (u0 : AV) (p1 : Int) (x18 : Int × Int × Int × (List (Int × Bool × Int × Unit)) × Int) : St :=
  ⟨[(0, u0), (3, .int .i64 x18.1), (12, .int .i64 x18.2.1), (13, .int .i64 x18.2.2.1)], [(16406, .row 149 (.pair (.int .i64) (.pair .bool (.pair (.int .i64) .unit))) x18.2.2.2.1 false), (16408, .var (.pair (.int .i64) (.pair (.int .i64) (.pair (.sl (.pair (.int .i64) (.pair .bool (.pair (.int .i64) .unit)))) .unit))) (.agg [.int .i64 p1, .int .i64 x18.2.2.2.2, .own 16406]) false)], (some ([], 0))⟩
def L02_alive_M9 : Msk := ⟨[0, 3, 12, 13], [16406, 16408], [], [], [], [], [], [], []⟩
def L02_alive_Q1 (x1 : Int × Int × (List (Int × Bool × Int × Unit)) × Int) : St :=
  ⟨[(1, .ptr 16408 []), (3, .int .i64 x1.1), (4, .int .i64 x1.2.1)], [(16406, .row 149 (.pair (.int .i64) (.pair .bool (.pair (.int .i64) .unit))) x1.2.2.1 false), (16408, .var (.pair (.int .i64) (.pair (.int .i64) (.pair (.sl (.pair (.int .i64) (.pair .bool (.pair (.int .i64) .unit)))) .unit))) (.agg [.int .i64 2, .int .i64 x1.2.2.2, .own 16406]) false)], none⟩
def L02_alive_Q2 (x3 : Int × Int × Int × (List (Int × Bool × Int × Unit)) × Int) : St :=
  ⟨[(1, .ptr 16408 []), (3, .int .i64 x3.1), (4, .int .i64 x3.2.1), (5, .int .i64 x3.2.2.1)], [(16406, .row 149 (.pair (.int .i64) (.pair .bool (.pair (.int .i64) .unit))) x3.2.2.2.1 false), (16408, .var (.pair (.int .i64) (.pair (.int .i64) (.pair (.sl (.pair (.int .i64) (.pair .bool (.pair (.int .i64) .unit)))) .unit))) (.agg [.int .i64 2, .int .i64 x3.2.2.2.2, .own 16406]) false)], none⟩
def L02_alive_Q3 (x4 : Int × Int × Int × Int × Int × (List (Int × Bool × Int × Unit)) × Int) : St :=
  ⟨[(1, .ptr 16408 []), (3, .int .i64 x4.1), (4, .int .i64 x4.2.1), (5, .int .i64 x4.2.2.1), (6, .int .i64 x4.2.2.2.1), (7, .int .i64 x4.2.2.2.2.1)], [(16406, .row 149 (.pair (.int .i64) (.pair .bool (.pair (.int .i64) .unit))) x4.2.2.2.2.2.1 false), (16408, .var (.pair (.int .i64) (.pair (.int .i64) (.pair (.sl (.pair (.int .i64) (.pair .bool (.pair (.int .i64) .unit)))) .unit))) (.agg [.int .i64 2, .int .i64 x4.2.2.2.2.2.2, .own 16406]) false)], none⟩
def L02_alive_Q4 (x6 : Int × Int × Int × Int × Int × Int × Int × (List (Int × Bool × Int × Unit)) × Int) : St :=
  ⟨[(1, .ptr 16408 []), (3, .int .i64 x6.1), (4, .int .i64 x6.2.1), (5, .int .i64 x6.2.2.1), (6, .int .i64 x6.2.2.2.1), (7, .int .i64 x6.2.2.2.2.1), (8, .int .i64 x6.2.2.2.2.2.1), (9, .int .i64 x6.2.2.2.2.2.2.1)], [(16406, .row 149 (.pair (.int .i64) (.pair .bool (.pair (.int .i64) .unit))) x6.2.2.2.2.2.2.2.1 false), (16408, .var (.pair (.int .i64) (.pair (.int .i64) (.pair (.sl (.pair (.int .i64) (.pair .bool (.pair (.int .i64) .unit)))) .unit))) (.agg [.int .i64 2, .int .i64 x6.2.2.2.2.2.2.2.2, .own 16406]) false)], none⟩
def L02_alive_Q5 (x7 : Int × Int × Int × Int × Int × Int × Int × Int × (List (Int × Bool × Int × Unit)) × Int) : St :=
  ⟨[(1, .ptr 16408 []), (3, .int .i64 x7.1), (4, .int .i64 x7.2.1), (5, .int .i64 x7.2.2.1), (6, .int .i64 x7.2.2.2.1), (7, .int .i64 x7.2.2.2.2.1), (8, .int .i64 x7.2.2.2.2.2.1), (9, .int .i64 x7.2.2.2.2.2.2.1), (11, .int .i64 x7.2.2.2.2.2.2.2.1)], [(16406, .row 149 (.pair (.int .i64) (.pair .bool (.pair (.int .i64) .unit))) x7.2.2.2.2.2.2.2.2.1 false), (16408, .var (.pair (.int .i64) (.pair (.int .i64) (.pair (.sl (.pair (.int .i64) (.pair .bool (.pair (.int .i64) .unit)))) .unit))) (.agg [.int .i64 2, .int .i64 x7.2.2.2.2.2.2.2.2.2, .own 16406]) false)], none⟩
def L02_alive_Q6 (x8 : Int × Int × Int × Int × Int × Int × Int × Int × (List (Int × Bool × Int × Unit)) × Int) : St :=
  ⟨[(1, .ptr 16408 []), (3, .int .i64 x8.1), (4, .int .i64 x8.2.1), (5, .int .i64 x8.2.2.1), (6, .int .i64 x8.2.2.2.1), (7, .int .i64 x8.2.2.2.2.1), (8, .int .i64 x8.2.2.2.2.2.1), (9, .int .i64 x8.2.2.2.2.2.2.1), (11, .int .i64 x8.2.2.2.2.2.2.2.1)], [(16406, .row 149 (.pair (.int .i64) (.pair .bool (.pair (.int .i64) .unit))) x8.2.2.2.2.2.2.2.2.1 false), (16408, .var (.pair (.int .i64) (.pair (.int .i64) (.pair (.sl (.pair (.int .i64) (.pair .bool (.pair (.int .i64) .unit)))) .unit))) (.agg [.int .i64 2, .int .i64 x8.2.2.2.2.2.2.2.2.2, .own 16406]) false)], none⟩
def L02_alive_Q7 (x9 : Int × Int × Int × Int × Int × Int × Int × Int × Int × (List (Int × Bool × Int × Unit)) × Int) : St :=
  ⟨[(1, .ptr 16408 []), (3, .int .i64 x9.1), (4, .int .i64 x9.2.1), (5, .int .i64 x9.2.2.1), (6, .int .i64 x9.2.2.2.1), (7, .int .i64 x9.2.2.2.2.1), (8, .int .i64 x9.2.2.2.2.2.1), (9, .int .i64 x9.2.2.2.2.2.2.1), (11, .int .i64 x9.2.2.2.2.2.2.2.1), (13, .int .i64 x9.2.2.2.2.2.2.2.2.1)], [(16406, .row 149 (.pair (.int .i64) (.pair .bool (.pair (.int .i64) .unit))) x9.2.2.2.2.2.2.2.2.2.1 false), (16408, .var (.pair (.int .i64) (.pair (.int .i64) (.pair (.sl (.pair (.int .i64) (.pair .bool (.pair (.int .i64) .unit)))) .unit))) (.agg [.int .i64 2, .int .i64 x9.2.2.2.2.2.2.2.2.2.2, .own 16406]) false)], none⟩
def L02_alive_Q8 (x15 : Int × Int × Int × (List (Int × Bool × Int × Unit)) × Int) : St :=
  ⟨[(0, .ptr 16408 []), (3, .int .i64 x15.1), (12, .int .i64 x15.2.1), (13, .int .i64 x15.2.2.1)], [(16406, .row 149 (.pair (.int .i64) (.pair .bool (.pair (.int .i64) .unit))) x15.2.2.2.1 false), (16408, .var (.pair (.int .i64) (.pair (.int .i64) (.pair (.sl (.pair (.int .i64) (.pair .bool (.pair (.int .i64) .unit)))) .unit))) (.agg [.int .i64 2, .int .i64 x15.2.2.2.2, .own 16406]) false)], (some ([], 0))⟩
def L02_alive_Q9 (x19 : Int × Int × Int × (List (Int × Bool × Int × Unit)) × Int) : St :=
  ⟨[(0, .ptr 16408 []), (3, .int .i64 x19.1), (12, .int .i64 x19.2.1), (13, .int .i64 x19.2.2.1)], [(16406, .row 149 (.pair (.int .i64) (.pair .bool (.pair (.int .i64) .unit))) x19.2.2.2.1 false), (16408, .var (.pair (.int .i64) (.pair (.int .i64) (.pair (.sl (.pair (.int .i64) (.pair .bool (.pair (.int .i64) .unit)))) .unit))) (.agg [.int .i64 2, .int .i64 x19.2.2.2.2, .own 16406]) false)], (some ([], 0))⟩
def L02_alive_Q10 (x11 : Bool) : St :=
  ⟨[(0, .bool x11)], [], none⟩
noncomputable def E_L02_alive (fns : List (Nat × (List AV → Option AV))) : Env := ⟨0, 0, et_L02_alive, tt_L02_alive, fns, (pr_L02_alive_28 fns), [], [(0, []), (1, [1, 2]), (2, [1, 23]), (3, [0]), (4, [1, 3, 4]), (5, [1, 3, 4, 5]), (6, [1, 3, 4, 5, 6, 7]), (7, [1, 3, 4, 5, 6, 7, 8, 9]), (8, [1, 3, 4, 5, 6, 7, 8, 9, 11]), (9, [1, 3, 4, 5, 6, 7, 8, 9, 11]), (10, [1, 3, 4, 5, 6, 7, 8, 9, 11, 13]), (11, [0]), (5000004, []), (4000004, [16406, 16408]), (6000004, []), (5000005, []), (4000005, [16406, 16408]), (6000005, []), (5000006, []), (4000006, [16406, 16408]), (6000006, []), (5000007, []), (4000007, [16406, 16408]), (6000007, []), (5000008, []), (4000008, [16406, 16408]), (6000008, []), (5000009, []), (4000009, [16406, 16408]), (6000009, []), (5000010, []), (4000010, [16406, 16408]), (6000010, []), (5000011, []), (4000011, []), (6000011, []), (4000000, []), (4000001, [16406, 16408]), (4000002, [16406, 16408])], none, []⟩
set_option maxRecDepth 100000 in
set_option maxHeartbeats 40000000 in
theorem c_L02_alive : PCon Go.Proofs.Try.prog 16 lf_L02_alive := by
  obtain ⟨G77, hG77, cG77⟩ : ∃ G : ((.pair (.int .i64) (.pair (.int .i64) .unit)) : Ty).den → Option (Int × Int × Unit), (∀ x, G x = handle_Make x.1 x.2.1) ∧ PCon Go.Proofs.Try.prog 77 (liftF (.pair (.int .i64) (.pair (.int .i64) .unit)) (unpR (.pair (.int .i64) (.pair (.int .i64) .unit))) G) := ⟨_, fun _ => rfl, c_handle_Make⟩
  obtain ⟨G107, hG107, cG107⟩ : ∃ G : ((.pair (.int .i64) .unit) : Ty).den → Option Int, (∀ x, G x = handle_Slot x.1) ∧ PCon Go.Proofs.Try.prog 107 (liftF (.pair (.int .i64) .unit) (unpack (.int .i64)) G) := ⟨_, fun _ => rfl, c_handle_Slot⟩
  obtain ⟨G108, hG108, cG108⟩ : ∃ G : ((.pair (.int .i64) .unit) : Ty).den → Option Int, (∀ x, G x = handle_Gen x.1) ∧ PCon Go.Proofs.Try.prog 108 (liftF (.pair (.int .i64) .unit) (unpack (.int .i64)) G) := ⟨_, fun _ => rfl, c_handle_Gen⟩
  obtain ⟨fns, hfns, hf⟩ : ∃ fns, fns = [(77, liftF (.pair (.int .i64) (.pair (.int .i64) .unit)) (unpR (.pair (.int .i64) (.pair (.int .i64) .unit))) G77), (107, liftF (.pair (.int .i64) .unit) (unpack (.int .i64)) G107), (108, liftF (.pair (.int .i64) .unit) (unpack (.int .i64)) G108)] ∧ FnsOk Go.Proofs.Try.prog fns := ⟨_, rfl, FnsOk.cons cG77 (FnsOk.cons cG107 (FnsOk.cons cG108 (FnsOk.nil _)))⟩
  refine lift_con (E := E_L02_alive fns) (c := bodyOf Try.f16) (nt := 107) (rs := [.tmp 0]) (ts := [4]) (EnvC.sub tt_ok et_ok hf (pr_L02_alive_28_ok hf) (ItsOk.nil _) tt_L02_alive_ok et_L02_alive_ok) (PrOk.of mixed_ok) Go.Proofs.Try.func16 rfl (by decide) rfl rfl rfl (pureR_one (e := .bool) rfl) ?_
  subst hfns
  intro x r hw hs
  repeat'
    (try (conv => whnf)
     first
       | (have hs := letv_out hs)
       | (refine draw_and (by kernel_rfl) ?_)
       | (refine both_mk ?_ ?_)
       | (refine br_bool (fun h => ?_) (fun h => ?_) <;> first | have hs := cT h hs | have hs := cF h hs)
       | (refine bind_elim hs fun v hb hs => ?_; first | refine callK_liftG hG77 rfl hb ?_ | refine callK_liftG hG107 rfl hb ?_ | refine callK_liftG hG108 rfl hb ?_)
       | refine chk_elim hs fun hs => ?_
       | exact fin_some hs rfl
       | (intro b hb; first | have hs := nilq_elim hs b hb | have hs := nilqn_elim hs b hb)
       | exact hJ1 _ hs
       | exact hJ2 _ hs
       | exact hJ3 _ hs
       | exact hJ4 _ hs
       | exact hJ5 _ hs
       | exact hJ6 _ hs
       | exact hJ7 _ hs
       | exact hJ8 _ hs
       | exact hJ9 _ hs
       | exact hC1 _ hs
       | exact hC2 _ hs
       | exact hC3 _ hs
       | exact hC4 _ hs
       | exact hC5 _ hs
       | exact hC6 _ hs
       | exact hC7 _ hs
       | exact hC8 _ hs
       | exact hC9 _ hs
       | exact hC10 _ hs
       | (refine cut_out 1 L02_alive_Q1 hs (fun Jc1 kc1 hC1 hs => ?_) (fun xc1 hs => ?_))
       | (refine cut_out 2 L02_alive_Q2 hs (fun Jc2 kc2 hC2 hs => ?_) (fun xc2 hs => ?_))
       | (refine cut_out 3 L02_alive_Q3 hs (fun Jc3 kc3 hC3 hs => ?_) (fun xc3 hs => ?_))
       | (refine cut_out 4 L02_alive_Q4 hs (fun Jc4 kc4 hC4 hs => ?_) (fun xc4 hs => ?_))
       | (refine cut_out 5 L02_alive_Q5 hs (fun Jc5 kc5 hC5 hs => ?_) (fun xc5 hs => ?_))
       | (refine cut_out 6 L02_alive_Q6 hs (fun Jc6 kc6 hC6 hs => ?_) (fun xc6 hs => ?_))
       | (refine cut_out 7 L02_alive_Q7 hs (fun Jc7 kc7 hC7 hs => ?_) (fun xc7 hs => ?_))
       | (refine cut_out 8 L02_alive_Q8 hs (fun Jc8 kc8 hC8 hs => ?_) (fun xc8 hs => ?_))
       | (refine cut_out 9 L02_alive_Q9 hs (fun Jc9 kc9 hC9 hs => ?_) (fun xc9 hs => ?_))
       | (refine cut_out 10 L02_alive_Q10 hs (fun Jc10 kc10 hC10 hs => ?_) (fun xc10 hs => ?_))
       | (have hs := cT rfl hs)
       | (have hs := cF rfl hs)
       | (refine vc_loop (L02_alive_S1 _ _ _ _ _) L02_alive_M1 hs rfl ?_; intro J1 k1 x1 hJ1 hs)
       | (refine vc_loop (L02_alive_S2 _ _ _ _ _) L02_alive_M2 hs rfl ?_; intro J2 k2 x2 hJ2 hs)
       | (refine vc_loop (L02_alive_S3 _ _ _ _ _) L02_alive_M3 hs rfl ?_; intro J3 k3 x3 hJ3 hs)
       | (refine vc_loop (L02_alive_S4 _ _ _ _ _) L02_alive_M4 hs rfl ?_; intro J4 k4 x4 hJ4 hs)
       | (refine vc_loop (L02_alive_S5 _ _ _ _ _) L02_alive_M5 hs rfl ?_; intro J5 k5 x5 hJ5 hs)
       | (refine vc_loop (L02_alive_S6 _ _) L02_alive_M6 hs rfl ?_; intro J6 k6 x6 hJ6 hs)
       | (refine vc_loop (L02_alive_S7 _ _ _ _ _) L02_alive_M7 hs rfl ?_; intro J7 k7 x7 hJ7 hs)
       | (refine vc_loop (L02_alive_S8 _ _ _ _ _) L02_alive_M8 hs rfl ?_; intro J8 k8 x8 hJ8 hs)
       | (refine vc_loop (L02_alive_S9 _ _) L02_alive_M9 hs rfl ?_; intro J9 k9 x9 hJ9 hs)
       | exact (none_ne hs).elim)
end Go.Proofs.YtiicmhholjpcbaaV
