import Derived.Test.YtiicmhholjpcbaaVcTab
import Derived.Test.YtiicmhholjpcbaaDL02
import Derived.Test.YtiicmhholjpcbaaChandle
namespace Go.Proofs.YtiicmhholjpcbaaV
open Go.Proofs
set_option linter.unusedVariables false
noncomputable def lf_L02_alive : List AV → Option AV := liftF .unit (unpack .bool) (fun x => L02_alive)
def tt_L02_alive : List (Nat × Ty) := [(3, .int .i64), (4, .bool), (23, .opq 0), (24, .int .i64), (36, .sl (.int .i64)), (49, .sl (.pair (.int .i64) (.pair .bool (.pair (.int .i64) .unit)))), (51, .pair (.int .i64) (.pair (.int .i64) (.pair (.sl (.pair (.int .i64) (.pair .bool (.pair (.int .i64) .unit)))) .unit))), (145, .opq 0), (149, .pair (.int .i64) (.pair .bool (.pair (.int .i64) .unit)))]
def et_L02_alive : List (Nat × Nat) := [(36, 3), (49, 149)]
theorem tt_L02_alive_ok : subT tt tt_L02_alive = true := by kernel_rfl
theorem et_L02_alive_ok : subE et et_L02_alive = true := by kernel_rfl
def kp_L02_alive_15 : List (Nat × List Nat) := [(0, [0, 1]), (1, [0, 1, 19]), (2, [4, 5]), (3, [4, 5])]
def od_L02_alive_15 : List (Nat × Ord) := []
noncomputable def pr_L02_alive_15 (fns : List (Nat × (List AV → Option AV))) : List (Nat × Proc) := (15, procOf ⟨0, 0, et_L02_alive, tt_L02_alive, fns, [], od_L02_alive_15, kp_L02_alive_15, none, []⟩ 25 [.tmp 4, .tmp 5] (bodyOf Try.f15)) :: []
theorem pr_L02_alive_15_ok {fns : List (Nat × (List AV → Option AV))} (hf : FnsOk Go.Proofs.Try.prog fns) : PrsOk Go.Proofs.Try.prog (pr_L02_alive_15 fns) :=
  PrsOk.cons (proc_con (EnvC.sub (yl := none) tt_ok et_ok hf (PrsOk.nil _) (ItsOk.nil _) tt_L02_alive_ok et_L02_alive_ok) (PrOk.of mixed_ok) Go.Proofs.Try.func15 rfl (by decide) rfl rfl) (PrsOk.nil _)
def kp_L02_alive_75 : List (Nat × List Nat) := [(0, [0]), (1, [2])]
def od_L02_alive_75 : List (Nat × Ord) := []
noncomputable def pr_L02_alive_75 (fns : List (Nat × (List AV → Option AV))) : List (Nat × Proc) := (75, procOf ⟨0, 0, et_L02_alive, tt_L02_alive, fns, (pr_L02_alive_15 fns), od_L02_alive_75, kp_L02_alive_75, none, []⟩ 13 [.tmp 2] (bodyOf Try.f75)) :: (pr_L02_alive_15 fns)
theorem pr_L02_alive_75_ok {fns : List (Nat × (List AV → Option AV))} (hf : FnsOk Go.Proofs.Try.prog fns) : PrsOk Go.Proofs.Try.prog (pr_L02_alive_75 fns) :=
  PrsOk.cons (proc_con (EnvC.sub (yl := none) tt_ok et_ok hf (pr_L02_alive_15_ok hf) (ItsOk.nil _) tt_L02_alive_ok et_L02_alive_ok) (PrOk.of mixed_ok) Go.Proofs.Try.func75 rfl (by decide) rfl rfl) (pr_L02_alive_15_ok hf)
def kp_L02_alive_74 : List (Nat × List Nat) := [(0, [0, 1]), (1, [0, 1, 10]), (2, [4, 5]), (3, [0, 1, 6]), (4, [0, 1, 6, 23]), (5, [4, 5]), (6, [1, 7]), (7, [7, 43]), (8, [4, 5]), (9, [4, 5])]
def od_L02_alive_74 : List (Nat × Ord) := [(7, (.one 0 (.one 1 (.one 2 (.one 3 (.one 4 (.one 5 (.one 6 (.one 7 (.one 8 (.one 9 (.one 10 (.one 11 (.one 12 (.one 13 .nil)))))))))))))))]
noncomputable def pr_L02_alive_74 (fns : List (Nat × (List AV → Option AV))) : List (Nat × Proc) := (74, procOf ⟨0, 0, et_L02_alive, tt_L02_alive, fns, (pr_L02_alive_75 fns), od_L02_alive_74, kp_L02_alive_74, none, []⟩ 45 [.tmp 4, .tmp 5] (bodyOf Try.f74)) :: (pr_L02_alive_75 fns)
theorem pr_L02_alive_74_ok {fns : List (Nat × (List AV → Option AV))} (hf : FnsOk Go.Proofs.Try.prog fns) : PrsOk Go.Proofs.Try.prog (pr_L02_alive_74 fns) :=
  PrsOk.cons (proc_con (EnvC.sub (yl := none) tt_ok et_ok hf (pr_L02_alive_75_ok hf) (ItsOk.nil _) tt_L02_alive_ok et_L02_alive_ok) (PrOk.of mixed_ok) Go.Proofs.Try.func74 rfl (by decide) rfl rfl) (pr_L02_alive_75_ok hf)
def kp_L02_alive_17 : List (Nat × List Nat) := [(0, [0, 1]), (1, [0, 5, 6]), (2, [0, 5, 6, 15]), (3, [0, 5, 6, 7]), (4, [0, 6]), (5, [6]), (6, [4])]
def od_L02_alive_17 : List (Nat × Ord) := []
noncomputable def pr_L02_alive_17 (fns : List (Nat × (List AV → Option AV))) : List (Nat × Proc) := (17, procOf ⟨0, 0, et_L02_alive, tt_L02_alive, fns, (pr_L02_alive_74 fns), od_L02_alive_17, kp_L02_alive_17, none, []⟩ 31 [.tmp 4] (bodyOf Try.f17)) :: (pr_L02_alive_74 fns)
theorem pr_L02_alive_17_ok {fns : List (Nat × (List AV → Option AV))} (hf : FnsOk Go.Proofs.Try.prog fns) : PrsOk Go.Proofs.Try.prog (pr_L02_alive_17 fns) :=
  PrsOk.cons (proc_con (EnvC.sub (yl := none) tt_ok et_ok hf (pr_L02_alive_74_ok hf) (ItsOk.nil _) tt_L02_alive_ok et_L02_alive_ok) (PrOk.of mixed_ok) Go.Proofs.Try.func17 rfl (by decide) rfl rfl) (pr_L02_alive_74_ok hf)
def kp_L02_alive_76 : List (Nat × List Nat) := [(0, [0, 1]), (1, [4])]
def od_L02_alive_76 : List (Nat × Ord) := [(1, (.one 0 (.one 1 (.one 2 (.one 3 (.one 4 (.one 5 (.one 6 (.one 7 (.one 8 (.one 9 (.one 10 (.one 11 (.one 12 (.one 13 (.one 14 (.one 15 (.one 16 (.one 17 (.one 18 (.one 19 (.one 20 (.one 21 (.one 22 (.one 23 (.one 24 .nil))))))))))))))))))))))))))]
noncomputable def pr_L02_alive_76 (fns : List (Nat × (List AV → Option AV))) : List (Nat × Proc) := (76, procOf ⟨0, 0, et_L02_alive, tt_L02_alive, fns, (pr_L02_alive_17 fns), od_L02_alive_76, kp_L02_alive_76, none, []⟩ 29 [.tmp 4] (bodyOf Try.f76)) :: (pr_L02_alive_17 fns)
theorem pr_L02_alive_76_ok {fns : List (Nat × (List AV → Option AV))} (hf : FnsOk Go.Proofs.Try.prog fns) : PrsOk Go.Proofs.Try.prog (pr_L02_alive_76 fns) :=
  PrsOk.cons (proc_con (EnvC.sub (yl := none) tt_ok et_ok hf (pr_L02_alive_17_ok hf) (ItsOk.nil _) tt_L02_alive_ok et_L02_alive_ok) (PrOk.of mixed_ok) Go.Proofs.Try.func76 rfl (by decide) rfl rfl) (pr_L02_alive_17_ok hf)
def kp_L02_alive_18 : List (Nat × List Nat) := [(0, [0, 1]), (1, [0, 1, 10]), (2, [4, 5]), (3, [0, 1, 15, 16]), (4, [0, 1, 15, 16, 17]), (5, [0, 1, 6, 15, 16]), (6, [0, 1, 6, 15, 16, 21]), (7, [0, 1, 6, 7]), (8, [0, 6, 7]), (9, [6, 7]), (10, [4, 5]), (11, [0, 1, 15, 16]), (12, [4, 5])]
def od_L02_alive_18 : List (Nat × Ord) := []
noncomputable def pr_L02_alive_18 (fns : List (Nat × (List AV → Option AV))) : List (Nat × Proc) := (18, procOf ⟨0, 0, et_L02_alive, tt_L02_alive, fns, (pr_L02_alive_76 fns), od_L02_alive_18, kp_L02_alive_18, none, []⟩ 59 [.tmp 4, .tmp 5] (bodyOf Try.f18)) :: (pr_L02_alive_76 fns)
theorem pr_L02_alive_18_ok {fns : List (Nat × (List AV → Option AV))} (hf : FnsOk Go.Proofs.Try.prog fns) : PrsOk Go.Proofs.Try.prog (pr_L02_alive_18 fns) :=
  PrsOk.cons (proc_con (EnvC.sub (yl := none) tt_ok et_ok hf (pr_L02_alive_76_ok hf) (ItsOk.nil _) tt_L02_alive_ok et_L02_alive_ok) (PrOk.of mixed_ok) Go.Proofs.Try.func18 rfl (by decide) rfl rfl) (pr_L02_alive_76_ok hf)
def kp_L02_alive_19 : List (Nat × List Nat) := [(0, [0, 1]), (1, [6, 7]), (2, [6, 7, 16]), (3, [7, 8]), (4, [4, 5]), (5, [4, 5])]
def od_L02_alive_19 : List (Nat × Ord) := []
noncomputable def pr_L02_alive_19 (fns : List (Nat × (List AV → Option AV))) : List (Nat × Proc) := (19, procOf ⟨0, 0, et_L02_alive, tt_L02_alive, fns, (pr_L02_alive_18 fns), od_L02_alive_19, kp_L02_alive_19, none, []⟩ 23 [.tmp 4, .tmp 5] (bodyOf Try.f19)) :: (pr_L02_alive_18 fns)
theorem pr_L02_alive_19_ok {fns : List (Nat × (List AV → Option AV))} (hf : FnsOk Go.Proofs.Try.prog fns) : PrsOk Go.Proofs.Try.prog (pr_L02_alive_19 fns) :=
  PrsOk.cons (proc_con (EnvC.sub (yl := none) tt_ok et_ok hf (pr_L02_alive_18_ok hf) (ItsOk.nil _) tt_L02_alive_ok et_L02_alive_ok) (PrOk.of mixed_ok) Go.Proofs.Try.func19 rfl (by decide) rfl rfl) (pr_L02_alive_18_ok hf)
def kp_L02_alive_20 : List (Nat × List Nat) := [(0, [0]), (1, [0, 5]), (2, [2]), (3, [2])]
def od_L02_alive_20 : List (Nat × Ord) := []
noncomputable def pr_L02_alive_20 (fns : List (Nat × (List AV → Option AV))) : List (Nat × Proc) := (20, procOf ⟨0, 0, et_L02_alive, tt_L02_alive, fns, (pr_L02_alive_19 fns), od_L02_alive_20, kp_L02_alive_20, none, []⟩ 10 [.tmp 2] (bodyOf Try.f20)) :: (pr_L02_alive_19 fns)
theorem pr_L02_alive_20_ok {fns : List (Nat × (List AV → Option AV))} (hf : FnsOk Go.Proofs.Try.prog fns) : PrsOk Go.Proofs.Try.prog (pr_L02_alive_20 fns) :=
  PrsOk.cons (proc_con (EnvC.sub (yl := none) tt_ok et_ok hf (pr_L02_alive_19_ok hf) (ItsOk.nil _) tt_L02_alive_ok et_L02_alive_ok) (PrOk.of mixed_ok) Go.Proofs.Try.func20 rfl (by decide) rfl rfl) (pr_L02_alive_19_ok hf)
def kp_L02_alive_27 : List (Nat × List Nat) := [(0, [0]), (1, [0, 7]), (2, [2]), (3, [0, 3]), (4, [0, 3, 12, 13]), (5, [0, 3, 12, 13, 14]), (6, [0, 3, 4, 12, 13]), (7, [0, 3, 12, 13, 18]), (8, [0, 3, 12, 13]), (9, [0, 3, 12, 13]), (10, [2]), (12000001, []), (7000001, [0, 3, 12, 13]), (10137611000001, [16406, 16408]), (10137613000001, [])]
def od_L02_alive_27 : List (Nat × Ord) := []
noncomputable def pr_L02_alive_27 (fns : List (Nat × (List AV → Option AV))) : List (Nat × Proc) := (27, procOf ⟨0, 0, et_L02_alive, tt_L02_alive, fns, (pr_L02_alive_20 fns), od_L02_alive_27, kp_L02_alive_27, none, []⟩ 23 [.tmp 2] (bodyOf Try.f27)) :: (pr_L02_alive_20 fns)
theorem pr_L02_alive_27_ok {fns : List (Nat × (List AV → Option AV))} (hf : FnsOk Go.Proofs.Try.prog fns) : PrsOk Go.Proofs.Try.prog (pr_L02_alive_27 fns) :=
  PrsOk.cons (proc_con (EnvC.sub (yl := none) tt_ok et_ok hf (pr_L02_alive_20_ok hf) (ItsOk.nil _) tt_L02_alive_ok et_L02_alive_ok) (PrOk.of mixed_ok) Go.Proofs.Try.func27 rfl (by decide) rfl rfl) (pr_L02_alive_20_ok hf)
def kp_L02_alive_28 : List (Nat × List Nat) := [(0, [0]), (1, [0, 10]), (2, [2]), (3, [0, 3]), (4, [3, 14, 15, 16]), (5, [3, 14, 15, 16, 17]), (6, [3, 4, 5, 14, 15, 16]), (7, [3, 4, 5, 14, 15, 16, 22]), (8, [3, 6, 14, 15, 16]), (9, [3, 14, 15, 16]), (10, [3, 14, 15, 16]), (11, [2])]
def od_L02_alive_28 : List (Nat × Ord) := []
noncomputable def pr_L02_alive_28 (fns : List (Nat × (List AV → Option AV))) : List (Nat × Proc) := (28, procOf ⟨0, 0, et_L02_alive, tt_L02_alive, fns, (pr_L02_alive_27 fns), od_L02_alive_28, kp_L02_alive_28, none, []⟩ 36 [.tmp 2] (bodyOf Try.f28)) :: (pr_L02_alive_27 fns)
theorem pr_L02_alive_28_ok {fns : List (Nat × (List AV → Option AV))} (hf : FnsOk Go.Proofs.Try.prog fns) : PrsOk Go.Proofs.Try.prog (pr_L02_alive_28 fns) :=
  PrsOk.cons (proc_con (EnvC.sub (yl := none) tt_ok et_ok hf (pr_L02_alive_27_ok hf) (ItsOk.nil _) tt_L02_alive_ok et_L02_alive_ok) (PrOk.of mixed_ok) Go.Proofs.Try.func28 rfl (by decide) rfl rfl) (pr_L02_alive_27_ok hf)
def L02_alive_S1 (u0 : AV) (u1 : AV) (u2 : AV) (B3 : Blk) (B5 : Blk) (x3 : Int) : St :=
  ⟨[(0, u0), (1, u1), (15, u2), (16, .int .i64 x3)], [(16406, B3), (16408, B5)], (some ([], 0))⟩
def L02_alive_M1 : Msk := ⟨[0, 1, 15, 16], [16406, 16408], [], [], [], [], [], [], []⟩
def L02_alive_S2 (u0 : AV) (u1 : AV) (u2 : AV) (B3 : Blk) (B5 : Blk) (x6 : Int) : St :=
  ⟨[(0, u0), (1, u1), (15, u2), (16, .int .i64 x6)], [(16406, B3), (16408, B5)], (some ([], 0))⟩
def L02_alive_M2 : Msk := ⟨[0, 1, 15, 16], [16406, 16408], [], [], [], [], [], [], []⟩
def L02_alive_S3 (u0 : AV) (u1 : AV) (u2 : AV) (B3 : Blk) (B5 : Blk) (x11 : Int) : St :=
  ⟨[(0, u0), (1, u1), (15, u2), (16, .int .i64 x11)], [(16406, B3), (16408, B5)], (some ([], 0))⟩
def L02_alive_M3 : Msk := ⟨[0, 1, 15, 16], [16406, 16408], [], [], [], [], [], [], []⟩
def L02_alive_S4 (u0 : AV) (p1 : Int) (x15 : Int × Int × Int × (List (Int × Bool × Int × Unit)) × Int) : St :=
  ⟨[(0, u0), (3, .int .i64 x15.1), (12, .int .i64 x15.2.1), (13, .int .i64 x15.2.2.1)], [(16406, .row 149 (.pair (.int .i64) (.pair .bool (.pair (.int .i64) .unit))) x15.2.2.2.1 false), (16408, .var (.pair (.int .i64) (.pair (.int .i64) (.pair (.sl (.pair (.int .i64) (.pair .bool (.pair (.int .i64) .unit)))) .unit))) (.agg [.int .i64 p1, .int .i64 x15.2.2.2.2, .own 16406]) false)], (some ([], 0))⟩
def L02_alive_M4 : Msk := ⟨[0, 3, 12, 13], [16406, 16408], [], [], [], [], [], [], []⟩
def L02_alive_S5 (u0 : AV) (u1 : AV) (u2 : AV) (B3 : Blk) (B5 : Blk) (x17 : Int × List Int) : St :=
  ⟨[(3, u0), (14, u1), (15, u2), (16, .int .i64 x17.1)], [(16406, B3), (16408, B5), (106529, .row 3 (.int .i64) x17.2 false)], (some ([106501, 106528, 106529], 0))⟩
def L02_alive_M5 : Msk := ⟨[3, 14, 15, 16], [16406, 16408, 106529], [(3, 106529, 36)], [], [106501, 106528, 106529], [], [], [], []⟩
def L02_alive_Q1 (x1 : (List (Int × Bool × Int × Unit))) : St :=
  ⟨[(1, .dead), (2, .dead), (14, .dead), (15, .tup [.ptr 16408 [], .int .i64 0]), (16, .dead), (17, .dead)], [(16406, .row 149 (.pair (.int .i64) (.pair .bool (.pair (.int .i64) .unit))) x1 false), (16408, .var (.pair (.int .i64) (.pair (.int .i64) (.pair (.sl (.pair (.int .i64) (.pair .bool (.pair (.int .i64) .unit)))) .unit))) (.agg [.int .i64 2, .int .i64 0, .own 16406]) false)], none⟩
def L02_alive_Q2 (x2 : Int × Int × (List (Int × Bool × Int × Unit)) × Int) : St :=
  ⟨[(1, .ptr 16408 []), (3, .dead), (4, .dead), (24, .dead), (26, .tup [.int .i64 x2.1, .int .i64 x2.2.1]), (27, .dead), (28, .dead)], [(16406, .row 149 (.pair (.int .i64) (.pair .bool (.pair (.int .i64) .unit))) x2.2.2.1 false), (16408, .var (.pair (.int .i64) (.pair (.int .i64) (.pair (.sl (.pair (.int .i64) (.pair .bool (.pair (.int .i64) .unit)))) .unit))) (.agg [.int .i64 2, .int .i64 x2.2.2.2, .own 16406]) false)], none⟩
def L02_alive_Q3 (x4 : Int × Int × Int × (List (Int × Bool × Int × Unit)) × Int) : St :=
  ⟨[(1, .ptr 16408 []), (3, .int .i64 x4.1), (4, .int .i64 x4.2.1), (5, .dead), (31, .int .i64 x4.2.2.1)], [(16406, .row 149 (.pair (.int .i64) (.pair .bool (.pair (.int .i64) .unit))) x4.2.2.2.1 false), (16408, .var (.pair (.int .i64) (.pair (.int .i64) (.pair (.sl (.pair (.int .i64) (.pair .bool (.pair (.int .i64) .unit)))) .unit))) (.agg [.int .i64 2, .int .i64 x4.2.2.2.2, .own 16406]) false)], none⟩
def L02_alive_Q4 (x5 : Int × Int × Int × Int × Int × (List (Int × Bool × Int × Unit)) × Int) : St :=
  ⟨[(1, .ptr 16408 []), (3, .int .i64 x5.1), (4, .int .i64 x5.2.1), (5, .int .i64 x5.2.2.1), (6, .dead), (7, .dead), (32, .dead), (34, .tup [.int .i64 x5.2.2.2.1, .int .i64 x5.2.2.2.2.1]), (35, .dead), (36, .dead)], [(16406, .row 149 (.pair (.int .i64) (.pair .bool (.pair (.int .i64) .unit))) x5.2.2.2.2.2.1 false), (16408, .var (.pair (.int .i64) (.pair (.int .i64) (.pair (.sl (.pair (.int .i64) (.pair .bool (.pair (.int .i64) .unit)))) .unit))) (.agg [.int .i64 2, .int .i64 x5.2.2.2.2.2.2, .own 16406]) false)], none⟩
def L02_alive_Q5 (x7 : Int × Int × Int × Int × Int × Int × Int × (List (Int × Bool × Int × Unit)) × Int) : St :=
  ⟨[(1, .ptr 16408 []), (3, .int .i64 x7.1), (4, .int .i64 x7.2.1), (5, .int .i64 x7.2.2.1), (6, .int .i64 x7.2.2.2.1), (7, .int .i64 x7.2.2.2.2.1), (8, .dead), (9, .dead), (37, .dead), (40, .tup [.int .i64 x7.2.2.2.2.2.1, .int .i64 x7.2.2.2.2.2.2.1]), (41, .dead), (42, .dead)], [(16406, .row 149 (.pair (.int .i64) (.pair .bool (.pair (.int .i64) .unit))) x7.2.2.2.2.2.2.2.1 false), (16408, .var (.pair (.int .i64) (.pair (.int .i64) (.pair (.sl (.pair (.int .i64) (.pair .bool (.pair (.int .i64) .unit)))) .unit))) (.agg [.int .i64 2, .int .i64 x7.2.2.2.2.2.2.2.2, .own 16406]) false)], none⟩
def L02_alive_Q6 (x8 : Int × Int × Int × Int × Int × Int × Int × Int × Int × (List (Int × Bool × Int × Unit)) × Int) : St :=
  ⟨[(1, .ptr 16408 []), (3, .int .i64 x8.1), (4, .int .i64 x8.2.1), (5, .int .i64 x8.2.2.1), (6, .int .i64 x8.2.2.2.1), (7, .int .i64 x8.2.2.2.2.1), (8, .int .i64 x8.2.2.2.2.2.1), (9, .int .i64 x8.2.2.2.2.2.2.1), (11, .dead), (43, .dead), (46, .tup [.int .i64 x8.2.2.2.2.2.2.2.1, .int .i64 x8.2.2.2.2.2.2.2.2.1]), (47, .dead), (48, .dead)], [(16406, .row 149 (.pair (.int .i64) (.pair .bool (.pair (.int .i64) .unit))) x8.2.2.2.2.2.2.2.2.2.1 false), (16408, .var (.pair (.int .i64) (.pair (.int .i64) (.pair (.sl (.pair (.int .i64) (.pair .bool (.pair (.int .i64) .unit)))) .unit))) (.agg [.int .i64 2, .int .i64 x8.2.2.2.2.2.2.2.2.2.2, .own 16406]) false)], none⟩
def L02_alive_Q7 (x9 : Int × Int × Int × Int × Int × Int × Int × Int × Int × (List (Int × Bool × Int × Unit)) × Int) : St :=
  ⟨[(1, .ptr 16408 []), (3, .int .i64 x9.1), (4, .int .i64 x9.2.1), (5, .int .i64 x9.2.2.1), (6, .int .i64 x9.2.2.2.1), (7, .int .i64 x9.2.2.2.2.1), (8, .int .i64 x9.2.2.2.2.2.1), (9, .int .i64 x9.2.2.2.2.2.2.1), (11, .int .i64 x9.2.2.2.2.2.2.2.1), (51, .int .i64 x9.2.2.2.2.2.2.2.2.1)], [(16406, .row 149 (.pair (.int .i64) (.pair .bool (.pair (.int .i64) .unit))) x9.2.2.2.2.2.2.2.2.2.1 false), (16408, .var (.pair (.int .i64) (.pair (.int .i64) (.pair (.sl (.pair (.int .i64) (.pair .bool (.pair (.int .i64) .unit)))) .unit))) (.agg [.int .i64 2, .int .i64 x9.2.2.2.2.2.2.2.2.2.2, .own 16406]) false)], none⟩
def L02_alive_Q8 (x10 : Int × Int × Int × Int × Int × Int × Int × Int × Int × Int × (List (Int × Bool × Int × Unit)) × Int) : St :=
  ⟨[(1, .ptr 16408 []), (3, .int .i64 x10.1), (4, .int .i64 x10.2.1), (5, .int .i64 x10.2.2.1), (6, .int .i64 x10.2.2.2.1), (7, .int .i64 x10.2.2.2.2.1), (8, .int .i64 x10.2.2.2.2.2.1), (9, .int .i64 x10.2.2.2.2.2.2.1), (11, .int .i64 x10.2.2.2.2.2.2.2.1), (13, .dead), (52, .dead), (54, .tup [.int .i64 x10.2.2.2.2.2.2.2.2.1, .int .i64 x10.2.2.2.2.2.2.2.2.2.1]), (55, .dead), (56, .dead)], [(16406, .row 149 (.pair (.int .i64) (.pair .bool (.pair (.int .i64) .unit))) x10.2.2.2.2.2.2.2.2.2.2.1 false), (16408, .var (.pair (.int .i64) (.pair (.int .i64) (.pair (.sl (.pair (.int .i64) (.pair .bool (.pair (.int .i64) .unit)))) .unit))) (.agg [.int .i64 2, .int .i64 x10.2.2.2.2.2.2.2.2.2.2.2, .own 16406]) false)], none⟩
def L02_alive_Q9 (x13 : Int × (List (Int × Bool × Int × Unit)) × Int) : St :=
  ⟨[(0, .dead), (1, .ptr 16408 []), (91, .bool true), (93, .int .i64 x13.1), (94, .dead), (95, .dead), (96, .dead), (97, .dead), (98, .dead), (99, .dead), (100, .dead), (101, .dead), (102, .dead), (103, .dead), (104, .dead), (105, .dead), (106, .dead)], [(16406, .row 149 (.pair (.int .i64) (.pair .bool (.pair (.int .i64) .unit))) x13.2.1 false), (16408, .var (.pair (.int .i64) (.pair (.int .i64) (.pair (.sl (.pair (.int .i64) (.pair .bool (.pair (.int .i64) .unit)))) .unit))) (.agg [.int .i64 2, .int .i64 x13.2.2, .own 16406]) false)], none⟩
def L02_alive_Q10 (x16 : Int × Int × Int × (List (Int × Bool × Int × Unit)) × Int) : St :=
  ⟨[(0, .ptr 16408 []), (3, .int .i64 x16.1), (12, .int .i64 x16.2.1), (13, .int .i64 x16.2.2.1)], [(16406, .row 149 (.pair (.int .i64) (.pair .bool (.pair (.int .i64) .unit))) x16.2.2.2.1 false), (16408, .var (.pair (.int .i64) (.pair (.int .i64) (.pair (.sl (.pair (.int .i64) (.pair .bool (.pair (.int .i64) .unit)))) .unit))) (.agg [.int .i64 2, .int .i64 x16.2.2.2.2, .own 16406]) false)], (some ([], 0))⟩
def L02_alive_Q11 (x14 : Int × (List (Int × Bool × Int × Unit)) × Int) : St :=
  ⟨[(0, .dead), (1, .ptr 16408 []), (96, .bool true), (98, .int .i64 x14.1), (99, .dead), (100, .dead), (101, .dead), (102, .dead), (103, .dead), (104, .dead), (105, .dead), (106, .dead)], [(16406, .row 149 (.pair (.int .i64) (.pair .bool (.pair (.int .i64) .unit))) x14.2.1 false), (16408, .var (.pair (.int .i64) (.pair (.int .i64) (.pair (.sl (.pair (.int .i64) (.pair .bool (.pair (.int .i64) .unit)))) .unit))) (.agg [.int .i64 2, .int .i64 x14.2.2, .own 16406]) false)], none⟩
def L02_alive_Q12 (x12 : Bool) : St :=
  ⟨[(0, .bool x12)], [], none⟩
def kp_L02_alive : List (Nat × List Nat) := [(0, []), (1, [1, 2]), (2, [1, 23]), (3, [0]), (4, [1, 3, 4]), (5, [1, 3, 4, 5]), (6, [1, 3, 4, 5, 6, 7]), (7, [1, 3, 4, 5, 6, 7, 8, 9]), (8, [1, 3, 4, 5, 6, 7, 8, 9, 11]), (9, [1, 3, 4, 5, 6, 7, 8, 9, 11]), (10, [1, 3, 4, 5, 6, 7, 8, 9, 11, 13]), (11, [0]), (5000011, []), (25000015, []), (20000015, [1, 2, 14, 15, 16, 17]), (25000026, []), (20000026, [1, 3, 4, 24, 26, 27, 28]), (25000031, []), (20000031, [1, 3, 4, 5, 31]), (25000034, []), (20000034, [1, 3, 4, 5, 6, 7, 32, 34, 35, 36]), (25000040, []), (20000040, [1, 3, 4, 5, 6, 7, 8, 9, 37, 40, 41, 42]), (25000046, []), (20000046, [1, 3, 4, 5, 6, 7, 8, 9, 11, 43, 46, 47, 48]), (25000051, []), (20000051, [1, 3, 4, 5, 6, 7, 8, 9, 11, 51]), (25000054, []), (20000054, [1, 3, 4, 5, 6, 7, 8, 9, 11, 13, 52, 54, 55, 56]), (25000093, []), (20000093, [0, 1, 91, 93, 94, 95, 96, 97, 98, 99, 100, 101, 102, 103, 104, 105, 106]), (25000098, []), (20000098, [0, 1, 96, 98, 99, 100, 101, 102, 103, 104, 105, 106]), (4000011, []), (6000011, []), (24000015, [16406, 16408]), (26000015, []), (24000026, [16406, 16408]), (26000026, []), (24000031, [16406, 16408]), (26000031, []), (24000034, [16406, 16408]), (26000034, []), (24000040, [16406, 16408]), (26000040, []), (24000046, [16406, 16408]), (26000046, []), (24000051, [16406, 16408]), (26000051, []), (24000054, [16406, 16408]), (26000054, []), (24000093, [16406, 16408]), (26000093, []), (24000098, [16406, 16408]), (26000098, []), (4000000, []), (4000001, [16406, 16408]), (4000002, [16406, 16408]), (4000004, [16406, 16408]), (4000005, [16406, 16408]), (4000006, [16406, 16408]), (4000007, [16406, 16408]), (4000008, [16406, 16408]), (4000009, [16406, 16408]), (4000010, [16406, 16408])]
def od_L02_alive : List (Nat × Ord) := []
noncomputable def E_L02_alive (fns : List (Nat × (List AV → Option AV))) : Env := ⟨0, 0, et_L02_alive, tt_L02_alive, fns, (pr_L02_alive_28 fns), od_L02_alive, kp_L02_alive, none, []⟩
set_option maxRecDepth 100000 in
set_option maxHeartbeats 40000000 in
theorem c_L02_alive : PCon Go.Proofs.Try.prog 16 lf_L02_alive := by
  obtain ⟨G77, hG77, cG77⟩ : ∃ G : ((.pair (.int .i64) (.pair (.int .i64) .unit)) : Ty).den → Option (Int × Int × Unit), (∀ x, G x = handle_Make x.1 x.2.1) ∧ PCon Go.Proofs.Try.prog 77 (liftF (.pair (.int .i64) (.pair (.int .i64) .unit)) (unpR (.pair (.int .i64) (.pair (.int .i64) .unit))) G) := ⟨_, fun _ => rfl, c_handle_Make⟩
  obtain ⟨G107, hG107, cG107⟩ : ∃ G : ((.pair (.int .i64) .unit) : Ty).den → Option Int, (∀ x, G x = handle_Slot x.1) ∧ PCon Go.Proofs.Try.prog 107 (liftF (.pair (.int .i64) .unit) (unpack (.int .i64)) G) := ⟨_, fun _ => rfl, c_handle_Slot⟩
  obtain ⟨G108, hG108, cG108⟩ : ∃ G : ((.pair (.int .i64) .unit) : Ty).den → Option Int, (∀ x, G x = handle_Gen x.1) ∧ PCon Go.Proofs.Try.prog 108 (liftF (.pair (.int .i64) .unit) (unpack (.int .i64)) G) := ⟨_, fun _ => rfl, c_handle_Gen⟩
  obtain ⟨fns, hfns, hf⟩ : ∃ fns, fns = [(77, liftF (.pair (.int .i64) (.pair (.int .i64) .unit)) (unpR (.pair (.int .i64) (.pair (.int .i64) .unit))) G77), (107, liftF (.pair (.int .i64) .unit) (unpack (.int .i64)) G107), (108, liftF (.pair (.int .i64) .unit) (unpack (.int .i64)) G108)] ∧ FnsOk Go.Proofs.Try.prog fns := ⟨_, rfl, FnsOk.cons cG77 (FnsOk.cons cG107 (FnsOk.cons cG108 (FnsOk.nil _)))⟩
  refine lift_con (E := E_L02_alive fns) (c := bodyOf Try.f16) (nt := 107) (rs := [.tmp 0]) (ts := [4]) (EnvC.sub tt_ok et_ok hf (pr_L02_alive_28_ok hf) (ItsOk.nil _) tt_L02_alive_ok et_L02_alive_ok) (PrOk.of mixed_ok) Go.Proofs.Try.func16 rfl (by decide) rfl rfl rfl (pureR_one (e := .bool) rfl) ?_
  subst hfns
  intro x r hw hs
  repeat'
    (try (conv => whnf)
     first
       | (with_reducible have hs := letv_out hs)
       | (refine draw_and (by kernel_rfl) ?_)
       | (refine both_mk ?_ ?_)
       | (refine br_bool (fun h => ?_) (fun h => ?_) <;> first | have hs := cT h hs | have hs := cF h hs)
       | (refine bind_elim hs fun v hb hs => ?_; first | refine callK_liftG hG77 rfl hb ?_ | refine callK_liftG hG107 rfl hb ?_ | refine callK_liftG hG108 rfl hb ?_)
       | refine chk_elim hs fun hs => ?_
       | (have hs := letv_out hs)
       | exact fin_some hs rfl
       | (intro b hb; first | have hs := nilq_elim hs b hb | have hs := nilqn_elim hs b hb)
       | exact hJ1 _ hs
       | exact hJ2 _ hs
       | exact hJ3 _ hs
       | exact hJ4 _ hs
       | exact hJ5 _ hs
       | exact hC1 _ hs
       | exact hC2 _ hs
       | exact hC3 _ hs
       | exact hC4 _ hs
       | exact hC5 _ hs
       | exact hC6 _ hs
       | exact hC7 _ hs
       | exact hC8 _ hs
       | exact hC9 _ hs
       | exact hC10 _ hs
       | exact hC11 _ hs
       | exact hC12 _ hs
       | (refine cut_out 1 L02_alive_Q1 hs (fun Jc1 kc1 hC1 hs => ?_) (fun xc1 hs => ?_))
       | (refine cut_out 2 L02_alive_Q2 hs (fun Jc2 kc2 hC2 hs => ?_) (fun xc2 hs => ?_))
       | (refine cut_out 3 L02_alive_Q3 hs (fun Jc3 kc3 hC3 hs => ?_) (fun xc3 hs => ?_))
       | (refine cut_out 4 L02_alive_Q4 hs (fun Jc4 kc4 hC4 hs => ?_) (fun xc4 hs => ?_))
       | (refine cut_out 5 L02_alive_Q5 hs (fun Jc5 kc5 hC5 hs => ?_) (fun xc5 hs => ?_))
       | (refine cut_out 6 L02_alive_Q6 hs (fun Jc6 kc6 hC6 hs => ?_) (fun xc6 hs => ?_))
       | (refine cut_out 7 L02_alive_Q7 hs (fun Jc7 kc7 hC7 hs => ?_) (fun xc7 hs => ?_))
       | (refine cut_out 8 L02_alive_Q8 hs (fun Jc8 kc8 hC8 hs => ?_) (fun xc8 hs => ?_))
       | (refine cut_out 9 L02_alive_Q9 hs (fun Jc9 kc9 hC9 hs => ?_) (fun xc9 hs => ?_))
       | (refine cut_out 10 L02_alive_Q10 hs (fun Jc10 kc10 hC10 hs => ?_) (fun xc10 hs => ?_))
       | (refine cut_out 11 L02_alive_Q11 hs (fun Jc11 kc11 hC11 hs => ?_) (fun xc11 hs => ?_))
       | (refine cut_out 12 L02_alive_Q12 hs (fun Jc12 kc12 hC12 hs => ?_) (fun xc12 hs => ?_))
       | (have hs := cT rfl hs)
       | (have hs := cF rfl hs)
       | (refine vc_loop (L02_alive_S1 _ _ _ _ _) L02_alive_M1 hs rfl ?_; intro J1 k1 x1 hJ1 hs)
       | (refine vc_loop (L02_alive_S2 _ _ _ _ _) L02_alive_M2 hs rfl ?_; intro J2 k2 x2 hJ2 hs)
       | (refine vc_loop (L02_alive_S3 _ _ _ _ _) L02_alive_M3 hs rfl ?_; intro J3 k3 x3 hJ3 hs)
       | (refine vc_loop (L02_alive_S4 _ _) L02_alive_M4 hs rfl ?_; intro J4 k4 x4 hJ4 hs)
       | (refine vc_loop (L02_alive_S5 _ _ _ _ _) L02_alive_M5 hs rfl ?_; intro J5 k5 x5 hJ5 hs)
       | exact (none_ne hs).elim)
end Go.Proofs.YtiicmhholjpcbaaV
