/- becket/becketlaw02.ArenaNobody: for every input the law returns true, and each argument reads behind the call as before. No condition. -/
import Derived.Test.YtiicmhholjpcbaaRows
import Derived.Test.YtiicmhholjpcbaaVcG2
import Derived.Test.YtiicmhholjpcbaaCL02
import Derived.Test.YtiicmhholjpcbaaMArenaNobody
namespace Go.Proofs.YtiicmhholjpcbaaV
open Go.Proofs
set_option linter.unusedVariables false
noncomputable def lf_L02_ArenaNobody : List AV → Option AV := liftF (.pair (.int .i64) (.pair (.int .i64) .unit)) (unpack .bool) (fun x => L02_ArenaNobody x.1 x.2.1)
def tt_L02_ArenaNobody : List (Nat × Ty) := [(3, .int .i64), (4, .bool), (23, .opq 0), (24, .int .i64), (36, .sl (.int .i64)), (49, .sl (.pair (.int .i64) (.pair .bool (.pair (.int .i64) .unit)))), (51, .pair (.int .i64) (.pair (.int .i64) (.pair (.sl (.pair (.int .i64) (.pair .bool (.pair (.int .i64) .unit)))) .unit))), (52, .sl (.opq 0)), (145, .opq 0), (149, .pair (.int .i64) (.pair .bool (.pair (.int .i64) .unit)))]
def et_L02_ArenaNobody : List (Nat × Nat) := [(36, 3), (49, 149), (52, 23)]
theorem tt_L02_ArenaNobody_ok : subT tt tt_L02_ArenaNobody = true := by kernel_rfl
theorem et_L02_ArenaNobody_ok : subE et et_L02_ArenaNobody = true := by kernel_rfl
def kp_L02_ArenaNobody_75 : List (Nat × List Nat) := [(0, [0]), (1, [2])]
def od_L02_ArenaNobody_75 : List (Nat × Ord) := []
noncomputable def pr_L02_ArenaNobody_75 (fns : List (Nat × (List AV → Option AV))) : List (Nat × Proc) := (75, procOf ⟨0, 0, et_L02_ArenaNobody, tt_L02_ArenaNobody, fns, [], od_L02_ArenaNobody_75, kp_L02_ArenaNobody_75, none, []⟩ 13 [.tmp 2] (bodyOf Try.f75)) :: []
theorem pr_L02_ArenaNobody_75_ok {fns : List (Nat × (List AV → Option AV))} (hf : FnsOk Go.Proofs.Try.prog fns) : PrsOk Go.Proofs.Try.prog (pr_L02_ArenaNobody_75 fns) :=
  PrsOk.cons (proc_con (EnvC.sub (yl := none) tt_ok et_ok hf (PrsOk.nil _) (ItsOk.nil _) tt_L02_ArenaNobody_ok et_L02_ArenaNobody_ok) (PrOk.of mixed_ok) Go.Proofs.Try.func75 rfl (by decide) rfl rfl) (PrsOk.nil _)
def kp_L02_ArenaNobody_74 : List (Nat × List Nat) := [(0, [0, 1]), (1, [0, 1, 10]), (2, [4, 5]), (3, [0, 1, 6]), (4, [0, 1, 6, 23]), (5, [4, 5]), (6, [1, 7]), (7, [7, 43]), (8, [4, 5]), (9, [4, 5])]
def od_L02_ArenaNobody_74 : List (Nat × Ord) := []
noncomputable def pr_L02_ArenaNobody_74 (fns : List (Nat × (List AV → Option AV))) : List (Nat × Proc) := (74, procOf ⟨0, 0, et_L02_ArenaNobody, tt_L02_ArenaNobody, fns, (pr_L02_ArenaNobody_75 fns), od_L02_ArenaNobody_74, kp_L02_ArenaNobody_74, none, []⟩ 45 [.tmp 4, .tmp 5] (bodyOf Try.f74)) :: (pr_L02_ArenaNobody_75 fns)
theorem pr_L02_ArenaNobody_74_ok {fns : List (Nat × (List AV → Option AV))} (hf : FnsOk Go.Proofs.Try.prog fns) : PrsOk Go.Proofs.Try.prog (pr_L02_ArenaNobody_74 fns) :=
  PrsOk.cons (proc_con (EnvC.sub (yl := none) tt_ok et_ok hf (pr_L02_ArenaNobody_75_ok hf) (ItsOk.nil _) tt_L02_ArenaNobody_ok et_L02_ArenaNobody_ok) (PrOk.of mixed_ok) Go.Proofs.Try.func74 rfl (by decide) rfl rfl) (pr_L02_ArenaNobody_75_ok hf)
def kp_L02_ArenaNobody_17 : List (Nat × List Nat) := [(0, [0, 1]), (1, [0, 5, 6]), (2, [0, 5, 6, 15]), (3, [0, 5, 6, 7]), (4, [0, 6]), (5, [6]), (6, [4])]
def od_L02_ArenaNobody_17 : List (Nat × Ord) := []
noncomputable def pr_L02_ArenaNobody_17 (fns : List (Nat × (List AV → Option AV))) : List (Nat × Proc) := (17, procOf ⟨0, 0, et_L02_ArenaNobody, tt_L02_ArenaNobody, fns, (pr_L02_ArenaNobody_74 fns), od_L02_ArenaNobody_17, kp_L02_ArenaNobody_17, none, []⟩ 31 [.tmp 4] (bodyOf Try.f17)) :: (pr_L02_ArenaNobody_74 fns)
theorem pr_L02_ArenaNobody_17_ok {fns : List (Nat × (List AV → Option AV))} (hf : FnsOk Go.Proofs.Try.prog fns) : PrsOk Go.Proofs.Try.prog (pr_L02_ArenaNobody_17 fns) :=
  PrsOk.cons (proc_con (EnvC.sub (yl := none) tt_ok et_ok hf (pr_L02_ArenaNobody_74_ok hf) (ItsOk.nil _) tt_L02_ArenaNobody_ok et_L02_ArenaNobody_ok) (PrOk.of mixed_ok) Go.Proofs.Try.func17 rfl (by decide) rfl rfl) (pr_L02_ArenaNobody_74_ok hf)
def kp_L02_ArenaNobody_18 : List (Nat × List Nat) := [(0, [0, 1]), (1, [0, 1, 10]), (2, [4, 5]), (3, [0, 1, 15, 16]), (4, [0, 1, 15, 16, 17]), (5, [0, 1, 6, 15, 16]), (6, [0, 1, 6, 15, 16, 21]), (7, [0, 1, 6, 7]), (8, [0, 6, 7]), (9, [6, 7]), (10, [4, 5]), (11, [0, 1, 15, 16]), (12, [4, 5])]
def od_L02_ArenaNobody_18 : List (Nat × Ord) := []
noncomputable def pr_L02_ArenaNobody_18 (fns : List (Nat × (List AV → Option AV))) : List (Nat × Proc) := (18, procOf ⟨0, 0, et_L02_ArenaNobody, tt_L02_ArenaNobody, fns, (pr_L02_ArenaNobody_17 fns), od_L02_ArenaNobody_18, kp_L02_ArenaNobody_18, none, []⟩ 59 [.tmp 4, .tmp 5] (bodyOf Try.f18)) :: (pr_L02_ArenaNobody_17 fns)
theorem pr_L02_ArenaNobody_18_ok {fns : List (Nat × (List AV → Option AV))} (hf : FnsOk Go.Proofs.Try.prog fns) : PrsOk Go.Proofs.Try.prog (pr_L02_ArenaNobody_18 fns) :=
  PrsOk.cons (proc_con (EnvC.sub (yl := none) tt_ok et_ok hf (pr_L02_ArenaNobody_17_ok hf) (ItsOk.nil _) tt_L02_ArenaNobody_ok et_L02_ArenaNobody_ok) (PrOk.of mixed_ok) Go.Proofs.Try.func18 rfl (by decide) rfl rfl) (pr_L02_ArenaNobody_17_ok hf)
def kp_L02_ArenaNobody_19 : List (Nat × List Nat) := [(0, [0, 1]), (1, [6, 7]), (2, [6, 7, 16]), (3, [7, 8]), (4, [4, 5]), (5, [4, 5])]
def od_L02_ArenaNobody_19 : List (Nat × Ord) := []
noncomputable def pr_L02_ArenaNobody_19 (fns : List (Nat × (List AV → Option AV))) : List (Nat × Proc) := (19, procOf ⟨0, 0, et_L02_ArenaNobody, tt_L02_ArenaNobody, fns, (pr_L02_ArenaNobody_18 fns), od_L02_ArenaNobody_19, kp_L02_ArenaNobody_19, none, []⟩ 23 [.tmp 4, .tmp 5] (bodyOf Try.f19)) :: (pr_L02_ArenaNobody_18 fns)
theorem pr_L02_ArenaNobody_19_ok {fns : List (Nat × (List AV → Option AV))} (hf : FnsOk Go.Proofs.Try.prog fns) : PrsOk Go.Proofs.Try.prog (pr_L02_ArenaNobody_19 fns) :=
  PrsOk.cons (proc_con (EnvC.sub (yl := none) tt_ok et_ok hf (pr_L02_ArenaNobody_18_ok hf) (ItsOk.nil _) tt_L02_ArenaNobody_ok et_L02_ArenaNobody_ok) (PrOk.of mixed_ok) Go.Proofs.Try.func19 rfl (by decide) rfl rfl) (pr_L02_ArenaNobody_18_ok hf)
def kp_L02_ArenaNobody_20 : List (Nat × List Nat) := [(0, [0]), (1, [0, 5]), (2, [2]), (3, [2])]
def od_L02_ArenaNobody_20 : List (Nat × Ord) := []
noncomputable def pr_L02_ArenaNobody_20 (fns : List (Nat × (List AV → Option AV))) : List (Nat × Proc) := (20, procOf ⟨0, 0, et_L02_ArenaNobody, tt_L02_ArenaNobody, fns, (pr_L02_ArenaNobody_19 fns), od_L02_ArenaNobody_20, kp_L02_ArenaNobody_20, none, []⟩ 10 [.tmp 2] (bodyOf Try.f20)) :: (pr_L02_ArenaNobody_19 fns)
theorem pr_L02_ArenaNobody_20_ok {fns : List (Nat × (List AV → Option AV))} (hf : FnsOk Go.Proofs.Try.prog fns) : PrsOk Go.Proofs.Try.prog (pr_L02_ArenaNobody_20 fns) :=
  PrsOk.cons (proc_con (EnvC.sub (yl := none) tt_ok et_ok hf (pr_L02_ArenaNobody_19_ok hf) (ItsOk.nil _) tt_L02_ArenaNobody_ok et_L02_ArenaNobody_ok) (PrOk.of mixed_ok) Go.Proofs.Try.func20 rfl (by decide) rfl rfl) (pr_L02_ArenaNobody_19_ok hf)
def kp_L02_ArenaNobody_22 : List (Nat × List Nat) := [(0, [0, 1, 2]), (1, [2, 7, 8]), (2, [2, 7, 8, 16]), (3, [8]), (4, [6])]
def od_L02_ArenaNobody_22 : List (Nat × Ord) := []
noncomputable def pr_L02_ArenaNobody_22 (fns : List (Nat × (List AV → Option AV))) : List (Nat × Proc) := (22, procOf ⟨0, 0, et_L02_ArenaNobody, tt_L02_ArenaNobody, fns, (pr_L02_ArenaNobody_20 fns), od_L02_ArenaNobody_22, kp_L02_ArenaNobody_22, none, []⟩ 22 [.tmp 6] (bodyOf Try.f22)) :: (pr_L02_ArenaNobody_20 fns)
theorem pr_L02_ArenaNobody_22_ok {fns : List (Nat × (List AV → Option AV))} (hf : FnsOk Go.Proofs.Try.prog fns) : PrsOk Go.Proofs.Try.prog (pr_L02_ArenaNobody_22 fns) :=
  PrsOk.cons (proc_con (EnvC.sub (yl := none) tt_ok et_ok hf (pr_L02_ArenaNobody_20_ok hf) (ItsOk.nil _) tt_L02_ArenaNobody_ok et_L02_ArenaNobody_ok) (PrOk.of mixed_ok) Go.Proofs.Try.func22 rfl (by decide) rfl rfl) (pr_L02_ArenaNobody_20_ok hf)
def kp_L02_ArenaNobody_27 : List (Nat × List Nat) := [(0, [0]), (1, [0, 7]), (2, [2]), (3, [0, 3]), (4, [0, 3, 12, 13]), (5, [0, 3, 12, 13, 14]), (6, [0, 3, 4, 12, 13]), (7, [0, 3, 12, 13, 18]), (8, [0, 3, 12, 13]), (9, [0, 3, 12, 13]), (10, [2])]
def od_L02_ArenaNobody_27 : List (Nat × Ord) := []
noncomputable def pr_L02_ArenaNobody_27 (fns : List (Nat × (List AV → Option AV))) : List (Nat × Proc) := (27, procOf ⟨0, 0, et_L02_ArenaNobody, tt_L02_ArenaNobody, fns, (pr_L02_ArenaNobody_22 fns), od_L02_ArenaNobody_27, kp_L02_ArenaNobody_27, none, []⟩ 23 [.tmp 2] (bodyOf Try.f27)) :: (pr_L02_ArenaNobody_22 fns)
theorem pr_L02_ArenaNobody_27_ok {fns : List (Nat × (List AV → Option AV))} (hf : FnsOk Go.Proofs.Try.prog fns) : PrsOk Go.Proofs.Try.prog (pr_L02_ArenaNobody_27 fns) :=
  PrsOk.cons (proc_con (EnvC.sub (yl := none) tt_ok et_ok hf (pr_L02_ArenaNobody_22_ok hf) (ItsOk.nil _) tt_L02_ArenaNobody_ok et_L02_ArenaNobody_ok) (PrOk.of mixed_ok) Go.Proofs.Try.func27 rfl (by decide) rfl rfl) (pr_L02_ArenaNobody_22_ok hf)
def kp_L02_ArenaNobody_28 : List (Nat × List Nat) := [(0, [0]), (1, [0, 10]), (2, [2]), (3, [0, 3]), (4, [3, 14, 15, 16]), (5, [3, 14, 15, 16, 17]), (6, [3, 4, 5, 14, 15, 16]), (7, [3, 4, 5, 14, 15, 16, 22]), (8, [3, 6, 14, 15, 16]), (9, [3, 14, 15, 16]), (10, [3, 14, 15, 16]), (11, [2])]
def od_L02_ArenaNobody_28 : List (Nat × Ord) := []
noncomputable def pr_L02_ArenaNobody_28 (fns : List (Nat × (List AV → Option AV))) : List (Nat × Proc) := (28, procOf ⟨0, 0, et_L02_ArenaNobody, tt_L02_ArenaNobody, fns, (pr_L02_ArenaNobody_27 fns), od_L02_ArenaNobody_28, kp_L02_ArenaNobody_28, none, []⟩ 36 [.tmp 2] (bodyOf Try.f28)) :: (pr_L02_ArenaNobody_27 fns)
theorem pr_L02_ArenaNobody_28_ok {fns : List (Nat × (List AV → Option AV))} (hf : FnsOk Go.Proofs.Try.prog fns) : PrsOk Go.Proofs.Try.prog (pr_L02_ArenaNobody_28 fns) :=
  PrsOk.cons (proc_con (EnvC.sub (yl := none) tt_ok et_ok hf (pr_L02_ArenaNobody_27_ok hf) (ItsOk.nil _) tt_L02_ArenaNobody_ok et_L02_ArenaNobody_ok) (PrOk.of mixed_ok) Go.Proofs.Try.func28 rfl (by decide) rfl rfl) (pr_L02_ArenaNobody_27_ok hf)
def L02_ArenaNobody_Q1 (x1 : Int × Int) : St :=
  ⟨[(0, .int .i64 x1.1), (1, .int .i64 x1.2), (6, .con (.pointer none)), (7, .dead), (8, .dead), (13, .vsl 13 2), (14, .int .i64 2), (15, .int .i64 0), (19, .dead), (22, .tup [.int .i64 0, .int .i64 2]), (23, .dead), (24, .dead)], [(12, .var (.pair (.int .i64) (.pair (.int .i64) (.pair (.sl (.pair (.int .i64) (.pair .bool (.pair (.int .i64) .unit)))) .unit))) (.agg [.int .i64 0, .int .i64 0, .con (.slice none 0 0)]) false), (13, .var (.pair (.opq 0) (.pair (.opq 0) .unit)) (.agg [.con (.pointer none), .ptr 12 []]) false)], none⟩
def L02_ArenaNobody_Q2 (x2 : Int × Int) : St :=
  ⟨[(0, .int .i64 x2.1), (1, .int .i64 x2.2), (6, .con (.pointer none)), (7, .int .i64 0), (8, .int .i64 2), (9, .dead), (10, .dead), (13, .vsl 13 2), (14, .int .i64 2), (15, .int .i64 0), (25, .dead), (28, .tup [.int .i64 0, .int .i64 2]), (29, .dead), (30, .dead)], [(12, .var (.pair (.int .i64) (.pair (.int .i64) (.pair (.sl (.pair (.int .i64) (.pair .bool (.pair (.int .i64) .unit)))) .unit))) (.agg [.int .i64 0, .int .i64 0, .con (.slice none 0 0)]) false), (13, .var (.pair (.opq 0) (.pair (.opq 0) .unit)) (.agg [.con (.pointer none), .ptr 12 []]) false)], none⟩
def L02_ArenaNobody_Q3 (x3 : Int × Int) : St :=
  ⟨[(0, .int .i64 x3.1), (1, .int .i64 x3.2), (6, .con (.pointer none)), (13, .vsl 13 2), (14, .int .i64 2), (15, .int .i64 0), (45, .bool false), (49, .int .i64 2), (50, .dead), (51, .dead), (52, .dead), (53, .dead), (54, .dead), (55, .dead), (56, .dead), (57, .dead), (58, .dead), (59, .dead), (60, .dead), (61, .dead), (62, .dead), (63, .dead), (64, .dead), (65, .dead), (66, .dead), (67, .dead), (68, .dead), (69, .dead)], [(12, .var (.pair (.int .i64) (.pair (.int .i64) (.pair (.sl (.pair (.int .i64) (.pair .bool (.pair (.int .i64) .unit)))) .unit))) (.agg [.int .i64 0, .int .i64 0, .con (.slice none 0 0)]) false), (13, .var (.pair (.opq 0) (.pair (.opq 0) .unit)) (.agg [.con (.pointer none), .ptr 12 []]) false)], none⟩
def L02_ArenaNobody_Q4 (x4 : Int × Int) : St :=
  ⟨[(0, .int .i64 x4.1), (1, .int .i64 x4.2), (6, .con (.pointer none)), (13, .vsl 13 2), (14, .int .i64 2), (15, .int .i64 0), (52, .bool false), (55, .int .i64 2), (56, .dead), (57, .dead), (58, .dead), (59, .dead), (60, .dead), (61, .dead), (62, .dead), (63, .dead), (64, .dead), (65, .dead), (66, .dead), (67, .dead), (68, .dead), (69, .dead)], [(12, .var (.pair (.int .i64) (.pair (.int .i64) (.pair (.sl (.pair (.int .i64) (.pair .bool (.pair (.int .i64) .unit)))) .unit))) (.agg [.int .i64 0, .int .i64 0, .con (.slice none 0 0)]) false), (13, .var (.pair (.opq 0) (.pair (.opq 0) .unit)) (.agg [.con (.pointer none), .ptr 12 []]) false)], none⟩
def L02_ArenaNobody_Q5 (x5 : Int × Int) : St :=
  ⟨[(0, .int .i64 x5.1), (1, .int .i64 x5.2), (6, .con (.pointer none)), (13, .vsl 13 2), (14, .int .i64 2), (15, .int .i64 0), (58, .bool false), (60, .int .i64 0), (61, .dead), (62, .dead), (63, .dead), (64, .dead), (65, .dead), (66, .dead), (67, .dead), (68, .dead), (69, .dead)], [(12, .var (.pair (.int .i64) (.pair (.int .i64) (.pair (.sl (.pair (.int .i64) (.pair .bool (.pair (.int .i64) .unit)))) .unit))) (.agg [.int .i64 0, .int .i64 0, .con (.slice none 0 0)]) false), (13, .var (.pair (.opq 0) (.pair (.opq 0) .unit)) (.agg [.con (.pointer none), .ptr 12 []]) false)], none⟩
def L02_ArenaNobody_Q6 (x6 : Int × Int) : St :=
  ⟨[(0, .int .i64 x6.1), (1, .int .i64 x6.2), (6, .con (.pointer none)), (13, .vsl 13 2), (14, .int .i64 2), (15, .int .i64 0), (58, .bool false), (60, .int .i64 0), (62, .int .i64 0), (63, .dead), (64, .dead), (65, .dead), (66, .dead), (67, .dead), (68, .dead), (69, .dead)], [(12, .var (.pair (.int .i64) (.pair (.int .i64) (.pair (.sl (.pair (.int .i64) (.pair .bool (.pair (.int .i64) .unit)))) .unit))) (.agg [.int .i64 0, .int .i64 0, .con (.slice none 0 0)]) false), (13, .var (.pair (.opq 0) (.pair (.opq 0) .unit)) (.agg [.con (.pointer none), .ptr 12 []]) false)], none⟩
def L02_ArenaNobody_Q7 (x7 : Int × Int) : St :=
  ⟨[(0, .int .i64 x7.1), (1, .int .i64 x7.2), (13, .vsl 13 2), (14, .int .i64 2), (15, .int .i64 0), (58, .bool false), (63, .int .i64 0), (65, .con (.slice none 0 0)), (66, .dead), (67, .dead), (68, .dead), (69, .dead)], [(12, .var (.pair (.int .i64) (.pair (.int .i64) (.pair (.sl (.pair (.int .i64) (.pair .bool (.pair (.int .i64) .unit)))) .unit))) (.agg [.int .i64 0, .int .i64 0, .con (.slice none 0 0)]) false), (13, .var (.pair (.opq 0) (.pair (.opq 0) .unit)) (.agg [.con (.pointer none), .ptr 12 []]) false)], none⟩
def L02_ArenaNobody_Q8 (x8 : Int × Int) : St :=
  ⟨[(0, .int .i64 x8.1), (1, .int .i64 x8.2), (6, .ptr 12 []), (7, .dead), (8, .dead), (13, .vsl 13 2), (14, .int .i64 2), (15, .int .i64 1), (19, .dead), (22, .tup [.int .i64 0, .int .i64 2]), (23, .dead), (24, .dead)], [(12, .var (.pair (.int .i64) (.pair (.int .i64) (.pair (.sl (.pair (.int .i64) (.pair .bool (.pair (.int .i64) .unit)))) .unit))) (.agg [.int .i64 0, .int .i64 0, .con (.slice none 0 0)]) false), (13, .var (.pair (.opq 0) (.pair (.opq 0) .unit)) (.agg [.con (.pointer none), .ptr 12 []]) false)], none⟩
def L02_ArenaNobody_Q9 (x9 : Int × Int) : St :=
  ⟨[(0, .int .i64 x9.1), (1, .int .i64 x9.2), (6, .ptr 12 []), (7, .int .i64 0), (8, .int .i64 2), (9, .dead), (10, .dead), (13, .vsl 13 2), (14, .int .i64 2), (15, .int .i64 1), (25, .dead), (28, .tup [.int .i64 0, .int .i64 2]), (29, .dead), (30, .dead)], [(12, .var (.pair (.int .i64) (.pair (.int .i64) (.pair (.sl (.pair (.int .i64) (.pair .bool (.pair (.int .i64) .unit)))) .unit))) (.agg [.int .i64 0, .int .i64 0, .con (.slice none 0 0)]) false), (13, .var (.pair (.opq 0) (.pair (.opq 0) .unit)) (.agg [.con (.pointer none), .ptr 12 []]) false)], none⟩
def L02_ArenaNobody_Q10 (x10 : Int × Int) : St :=
  ⟨[(0, .int .i64 x10.1), (1, .int .i64 x10.2), (6, .ptr 12 []), (13, .vsl 13 2), (14, .int .i64 2), (15, .int .i64 1), (45, .bool false), (49, .int .i64 2), (50, .dead), (51, .dead), (52, .dead), (53, .dead), (54, .dead), (55, .dead), (56, .dead), (57, .dead), (58, .dead), (59, .dead), (60, .dead), (61, .dead), (62, .dead), (63, .dead), (64, .dead), (65, .dead), (66, .dead), (67, .dead), (68, .dead), (69, .dead)], [(12, .var (.pair (.int .i64) (.pair (.int .i64) (.pair (.sl (.pair (.int .i64) (.pair .bool (.pair (.int .i64) .unit)))) .unit))) (.agg [.int .i64 0, .int .i64 0, .con (.slice none 0 0)]) false), (13, .var (.pair (.opq 0) (.pair (.opq 0) .unit)) (.agg [.con (.pointer none), .ptr 12 []]) false)], none⟩
def L02_ArenaNobody_Q11 (x11 : Int × Int) : St :=
  ⟨[(0, .int .i64 x11.1), (1, .int .i64 x11.2), (6, .ptr 12 []), (13, .vsl 13 2), (14, .int .i64 2), (15, .int .i64 1), (52, .bool false), (55, .int .i64 2), (56, .dead), (57, .dead), (58, .dead), (59, .dead), (60, .dead), (61, .dead), (62, .dead), (63, .dead), (64, .dead), (65, .dead), (66, .dead), (67, .dead), (68, .dead), (69, .dead)], [(12, .var (.pair (.int .i64) (.pair (.int .i64) (.pair (.sl (.pair (.int .i64) (.pair .bool (.pair (.int .i64) .unit)))) .unit))) (.agg [.int .i64 0, .int .i64 0, .con (.slice none 0 0)]) false), (13, .var (.pair (.opq 0) (.pair (.opq 0) .unit)) (.agg [.con (.pointer none), .ptr 12 []]) false)], none⟩
def L02_ArenaNobody_Q12 (x12 : Int × Int) : St :=
  ⟨[(0, .int .i64 x12.1), (1, .int .i64 x12.2), (6, .ptr 12 []), (13, .vsl 13 2), (14, .int .i64 2), (15, .int .i64 1), (58, .bool false), (60, .int .i64 0), (61, .dead), (62, .dead), (63, .dead), (64, .dead), (65, .dead), (66, .dead), (67, .dead), (68, .dead), (69, .dead)], [(12, .var (.pair (.int .i64) (.pair (.int .i64) (.pair (.sl (.pair (.int .i64) (.pair .bool (.pair (.int .i64) .unit)))) .unit))) (.agg [.int .i64 0, .int .i64 0, .con (.slice none 0 0)]) false), (13, .var (.pair (.opq 0) (.pair (.opq 0) .unit)) (.agg [.con (.pointer none), .ptr 12 []]) false)], none⟩
def L02_ArenaNobody_Q13 (x13 : Int × Int) : St :=
  ⟨[(0, .int .i64 x13.1), (1, .int .i64 x13.2), (6, .ptr 12 []), (13, .vsl 13 2), (14, .int .i64 2), (15, .int .i64 1), (58, .bool false), (60, .int .i64 0), (62, .int .i64 0), (63, .dead), (64, .dead), (65, .dead), (66, .dead), (67, .dead), (68, .dead), (69, .dead)], [(12, .var (.pair (.int .i64) (.pair (.int .i64) (.pair (.sl (.pair (.int .i64) (.pair .bool (.pair (.int .i64) .unit)))) .unit))) (.agg [.int .i64 0, .int .i64 0, .con (.slice none 0 0)]) false), (13, .var (.pair (.opq 0) (.pair (.opq 0) .unit)) (.agg [.con (.pointer none), .ptr 12 []]) false)], none⟩
def L02_ArenaNobody_Q14 (x14 : Int × Int) : St :=
  ⟨[(0, .int .i64 x14.1), (1, .int .i64 x14.2), (13, .vsl 13 2), (14, .int .i64 2), (15, .int .i64 1), (58, .bool false), (63, .int .i64 0), (65, .con (.slice none 0 0)), (66, .dead), (67, .dead), (68, .dead), (69, .dead)], [(12, .var (.pair (.int .i64) (.pair (.int .i64) (.pair (.sl (.pair (.int .i64) (.pair .bool (.pair (.int .i64) .unit)))) .unit))) (.agg [.int .i64 0, .int .i64 0, .con (.slice none 0 0)]) false), (13, .var (.pair (.opq 0) (.pair (.opq 0) .unit)) (.agg [.con (.pointer none), .ptr 12 []]) false)], none⟩
def kp_L02_ArenaNobody : List (Nat × List Nat) := [(0, [0, 1]), (1, [0, 1, 13, 14, 15]), (2, [0, 1, 13, 14, 15, 16]), (3, [0, 1, 6, 13, 14, 15]), (4, [0, 1, 6, 7, 8, 13, 14, 15]), (5, [0, 1, 6, 7, 8, 9, 10, 13, 14, 15]), (6, [0, 1, 13, 14, 15, 69]), (7, [4]), (8, [0, 1, 13, 14, 15]), (9, [4]), (25000022, []), (20000022, [0, 1, 6, 7, 8, 13, 14, 15, 19, 22, 23, 24]), (25000028, []), (20000028, [0, 1, 6, 7, 8, 9, 10, 13, 14, 15, 25, 28, 29, 30]), (25000049, []), (20000049, [0, 1, 6, 13, 14, 15, 45, 49, 50, 51, 52, 53, 54, 55, 56, 57, 58, 59, 60, 61, 62, 63, 64, 65, 66, 67, 68, 69]), (25000055, []), (20000055, [0, 1, 6, 13, 14, 15, 52, 55, 56, 57, 58, 59, 60, 61, 62, 63, 64, 65, 66, 67, 68, 69]), (25000060, []), (20000060, [0, 1, 6, 13, 14, 15, 58, 60, 61, 62, 63, 64, 65, 66, 67, 68, 69]), (25000062, []), (20000062, [0, 1, 6, 13, 14, 15, 58, 60, 62, 63, 64, 65, 66, 67, 68, 69]), (25000065, []), (20000065, [0, 1, 13, 14, 15, 58, 63, 65, 66, 67, 68, 69]), (24000022, [12, 13]), (26000022, []), (24000028, [12, 13]), (26000028, []), (24000049, [12, 13]), (26000049, []), (24000055, [12, 13]), (26000055, []), (24000060, [12, 13]), (26000060, []), (24000062, [12, 13]), (26000062, []), (24000065, [12, 13]), (26000065, []), (4000000, []), (4000001, [12, 13]), (4000002, [12, 13]), (4000003, [12, 13]), (4000004, [12, 13]), (4000005, [12, 13]), (4000006, [12, 13]), (4000008, [12, 13]), (4000009, [])]
def od_L02_ArenaNobody : List (Nat × Ord) := []
noncomputable def E_L02_ArenaNobody (fns : List (Nat × (List AV → Option AV))) : Env := ⟨0, 0, et_L02_ArenaNobody, tt_L02_ArenaNobody, fns, (pr_L02_ArenaNobody_28 fns), od_L02_ArenaNobody, kp_L02_ArenaNobody, none, []⟩
set_option maxRecDepth 100000 in
set_option maxHeartbeats 40000000 in
theorem c_L02_ArenaNobody : PCon Go.Proofs.Try.prog 5 lf_L02_ArenaNobody := by
  obtain ⟨G16, hG16, cG16⟩ : ∃ G : (.unit : Ty).den → Option Bool, (∀ x, G x = L02_alive) ∧ PCon Go.Proofs.Try.prog 16 (liftF .unit (unpack .bool) G) := ⟨_, fun _ => rfl, c_L02_alive⟩
  obtain ⟨fns, hfns, hf⟩ : ∃ fns, fns = [(16, liftF .unit (unpack .bool) G16)] ∧ FnsOk Go.Proofs.Try.prog fns := ⟨_, rfl, FnsOk.cons cG16 (FnsOk.nil _)⟩
  refine lift_con (E := E_L02_ArenaNobody fns) (c := bodyOf Try.f5) (nt := 72) (rs := [.tmp 4]) (ts := [4]) (EnvC.sub tt_ok et_ok hf (pr_L02_ArenaNobody_28_ok hf) (ItsOk.nil _) tt_L02_ArenaNobody_ok et_L02_ArenaNobody_ok) (PrOk.of mixed_ok) Go.Proofs.Try.func5 rfl (by decide) rfl rfl rfl (pureR_one (e := .bool) rfl) ?_
  subst hfns
  intro x r hw hs
  repeat'
    (try (conv => whnf)
     first
       | (with_reducible have hs := letv_out hs)
       | (refine draw_and (by kernel_rfl) ?_)
       | (refine both_mk ?_ ?_)
       | (refine br_bool (fun h => ?_) (fun h => ?_) <;> first | have hs := cT h hs | have hs := cF h hs)
       | (refine bind_elim hs fun v hb hs => ?_; first | refine callK_liftG hG16 rfl hb ?_)
       | refine chk_elim hs fun hs => ?_
       | (have hs := letv_out hs)
       | exact fin_some hs rfl
       | (intro b hb; first | have hs := nilq_elim hs b hb | have hs := nilqn_elim hs b hb)
       | exact hC1 _ hs
       | exact hC2 _ hs
       | exact hC3 _ hs
       | exact hC4 _ hs
       | exact hC5 _ hs
       | exact hC6 _ hs
       | exact hC7 _ hs
       | exact hC8 _ hs
       | exact hC9 _ hs
       | exact hC10 _ hs
       | exact hC11 _ hs
       | exact hC12 _ hs
       | exact hC13 _ hs
       | exact hC14 _ hs
       | (refine cut_out 1 L02_ArenaNobody_Q1 hs (fun Jc1 kc1 hC1 hs => ?_) (fun xc1 hs => ?_))
       | (refine cut_out 2 L02_ArenaNobody_Q2 hs (fun Jc2 kc2 hC2 hs => ?_) (fun xc2 hs => ?_))
       | (refine cut_out 3 L02_ArenaNobody_Q3 hs (fun Jc3 kc3 hC3 hs => ?_) (fun xc3 hs => ?_))
       | (refine cut_out 4 L02_ArenaNobody_Q4 hs (fun Jc4 kc4 hC4 hs => ?_) (fun xc4 hs => ?_))
       | (refine cut_out 5 L02_ArenaNobody_Q5 hs (fun Jc5 kc5 hC5 hs => ?_) (fun xc5 hs => ?_))
       | (refine cut_out 6 L02_ArenaNobody_Q6 hs (fun Jc6 kc6 hC6 hs => ?_) (fun xc6 hs => ?_))
       | (refine cut_out 7 L02_ArenaNobody_Q7 hs (fun Jc7 kc7 hC7 hs => ?_) (fun xc7 hs => ?_))
       | (refine cut_out 8 L02_ArenaNobody_Q8 hs (fun Jc8 kc8 hC8 hs => ?_) (fun xc8 hs => ?_))
       | (refine cut_out 9 L02_ArenaNobody_Q9 hs (fun Jc9 kc9 hC9 hs => ?_) (fun xc9 hs => ?_))
       | (refine cut_out 10 L02_ArenaNobody_Q10 hs (fun Jc10 kc10 hC10 hs => ?_) (fun xc10 hs => ?_))
       | (refine cut_out 11 L02_ArenaNobody_Q11 hs (fun Jc11 kc11 hC11 hs => ?_) (fun xc11 hs => ?_))
       | (refine cut_out 12 L02_ArenaNobody_Q12 hs (fun Jc12 kc12 hC12 hs => ?_) (fun xc12 hs => ?_))
       | (refine cut_out 13 L02_ArenaNobody_Q13 hs (fun Jc13 kc13 hC13 hs => ?_) (fun xc13 hs => ?_))
       | (refine cut_out 14 L02_ArenaNobody_Q14 hs (fun Jc14 kc14 hC14 hs => ?_) (fun xc14 hs => ?_))
       | (have hs := cT rfl hs)
       | (have hs := cF rfl hs)
       | (refine vc_unr 17 ?_)
       | exact (none_ne hs).elim)
end Go.Proofs.YtiicmhholjpcbaaV
namespace Go.Proofs.Ytiicmhholjpcbaa.arenaNobody
open Go.ChangeShapes Go.WideShapes Go.ChangeAt Go.RowKit Go.Proofs.YtiicmhholjpcbaaV
set_option linter.unusedVariables false
theorem own : ownKnob Try.prog.godebug = none := by kernel_rfl
set_option maxRecDepth 100000 in
theorem lifted (os : Os) (started : os.Started) (H : Type) (enc : TypeId × Value → H) :
    ReturnsInHanded {} Try.checked os 5 .any (Rows.arenaNobodySpec.pre6 enc Try.prog Try.f5 Rows.arenaNobodyRow.domain false) (Rows.arenaNobodySpec.post enc Try.prog Try.f5 false true false false) := by
  refine returnsInHanded_of_change_sized (C := Try.checked) own started (by kernel_rfl) Try.func5
    (ChangeSpec.witness6 (enc := enc) (C := Try.checked) false ⟨#[], #[.int .i64 0, .int .i64 0], []⟩ 12 (by kernel_rfl) (by kernel_rfl) (by kernel_rfl) (by kernel_rfl)) ?_
  intro W base args ds gs before hval0 hW hcnd hsz0 _
  refine row_of (C := Try.checked) (s := Rows.arenaNobodySpec) (c := bodyOf Try.f5) (tr := 4) c_L02_ArenaNobody Try.func5 rfl (by decide) (by kernel_rfl) (by kernel_rfl) (by kernel_rfl) rfl Try.underlying4 rfl ?_ law_L02_ArenaNobody rfl W base args ds gs before hval0 hW hsz0
  intro ds hl
  match ds, hl with
  | [d1, d2], _ => exact ⟨rfl, rfl, rfl⟩
theorem over : Rows.arenaNobodyRow.holds Try.pinned (OpenSpec.ofChange Rows.arenaNobodySpec) :=
  OpenClaim.holds_of_wide 5 Try.f5 rfl rfl rfl rfl rfl rfl rfl ⟨rfl, rfl, rfl, rfl, rfl⟩ rfl rfl rfl rfl rfl (by kernel_rfl) Try.func5 (by kernel_rfl)
    (of_decide_eq_true (by kernel_rfl)) (by unfold Func.isWrapper; first | (rw [if_pos (by decide +kernel)]; kernel_rfl) | (rw [if_neg (by decide +kernel)]; exact ⟨rfl, rfl⟩))
    (fun os started H enc _ => lifted os started H enc)
end Go.Proofs.Ytiicmhholjpcbaa.arenaNobody
namespace Go.Proofs.Ytiicmhholjpcbaa
/-- The row, under a short name, for the claim. -/
theorem arenaNobody_holds : Rows.ArenaNobodySaid := arenaNobody.over
end Go.Proofs.Ytiicmhholjpcbaa
