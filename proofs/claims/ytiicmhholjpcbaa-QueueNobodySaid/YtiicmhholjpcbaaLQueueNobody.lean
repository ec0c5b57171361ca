/- becket/becketlaw03.QueueNobody: for every input the law returns true, and each argument reads behind the call as before. No condition. -/
import Derived.Test.YtiicmhholjpcbaaRows
import Derived.Test.YtiicmhholjpcbaaVcG2
import Derived.Test.YtiicmhholjpcbaaCL03
import Derived.Test.YtiicmhholjpcbaaMQueueNobody
namespace Go.Proofs.YtiicmhholjpcbaaV
open Go.Proofs
set_option linter.unusedVariables false
noncomputable def lf_L03_QueueNobody : List AV → Option AV := liftF (.pair (.int .i64) (.pair (.int .i64) .unit)) (unpack .bool) (fun x => L03_QueueNobody x.1 x.2.1)
def tt_L03_QueueNobody : List (Nat × Ty) := [(3, .int .i64), (4, .bool), (24, .int .i64), (36, .sl (.int .i64)), (56, .opq 0), (76, .sl (.pair (.int .i64) (.pair (.int .i64) .unit))), (77, .sl (.pair (.int .i64) (.pair (.int .i64) (.pair (.int .i64) .unit)))), (79, .pair (.int .i64) (.pair (.int .i64) (.pair (.int .i64) .unit))), (81, .pair (.sl (.pair (.int .i64) (.pair (.int .i64) .unit))) (.pair (.sl (.pair (.int .i64) (.pair (.int .i64) (.pair (.int .i64) .unit)))) (.pair (.pair (.int .i64) (.pair (.int .i64) (.pair (.int .i64) .unit))) .unit))), (82, .sl (.opq 0)), (161, .opq 0), (165, .pair (.int .i64) (.pair (.int .i64) .unit))]
def et_L03_QueueNobody : List (Nat × Nat) := [(36, 3), (76, 165), (77, 79), (82, 56)]
theorem tt_L03_QueueNobody_ok : subT tt tt_L03_QueueNobody = true := by kernel_rfl
theorem et_L03_QueueNobody_ok : subE et et_L03_QueueNobody = true := by kernel_rfl
def kp_L03_QueueNobody_92 : List (Nat × List Nat) := [(0, [0]), (1, [2])]
def od_L03_QueueNobody_92 : List (Nat × Ord) := []
noncomputable def pr_L03_QueueNobody_92 (fns : List (Nat × (List AV → Option AV))) : List (Nat × Proc) := (92, procOf ⟨0, 0, et_L03_QueueNobody, tt_L03_QueueNobody, fns, [], od_L03_QueueNobody_92, kp_L03_QueueNobody_92, none, []⟩ 13 [.tmp 2] (bodyOf Try.f92)) :: []
theorem pr_L03_QueueNobody_92_ok {fns : List (Nat × (List AV → Option AV))} (hf : FnsOk Go.Proofs.Try.prog fns) : PrsOk Go.Proofs.Try.prog (pr_L03_QueueNobody_92 fns) :=
  PrsOk.cons (proc_con (EnvC.sub (yl := none) tt_ok et_ok hf (PrsOk.nil _) (ItsOk.nil _) tt_L03_QueueNobody_ok et_L03_QueueNobody_ok) (PrOk.of mixed_ok) Go.Proofs.Try.func92 rfl (by decide) rfl rfl) (PrsOk.nil _)
def kp_L03_QueueNobody_85 : List (Nat × List Nat) := [(0, [0, 1]), (1, [0, 1, 6]), (2, [4, 5]), (3, [0, 1, 10]), (4, [4, 5]), (5, [4, 5])]
def od_L03_QueueNobody_85 : List (Nat × Ord) := []
noncomputable def pr_L03_QueueNobody_85 (fns : List (Nat × (List AV → Option AV))) : List (Nat × Proc) := (85, procOf ⟨0, 0, et_L03_QueueNobody, tt_L03_QueueNobody, fns, (pr_L03_QueueNobody_92 fns), od_L03_QueueNobody_85, kp_L03_QueueNobody_85, none, []⟩ 28 [.tmp 4, .tmp 5] (bodyOf Try.f85)) :: (pr_L03_QueueNobody_92 fns)
theorem pr_L03_QueueNobody_85_ok {fns : List (Nat × (List AV → Option AV))} (hf : FnsOk Go.Proofs.Try.prog fns) : PrsOk Go.Proofs.Try.prog (pr_L03_QueueNobody_85 fns) :=
  PrsOk.cons (proc_con (EnvC.sub (yl := none) tt_ok et_ok hf (pr_L03_QueueNobody_92_ok hf) (ItsOk.nil _) tt_L03_QueueNobody_ok et_L03_QueueNobody_ok) (PrOk.of mixed_ok) Go.Proofs.Try.func85 rfl (by decide) rfl rfl) (pr_L03_QueueNobody_92_ok hf)
def kp_L03_QueueNobody_32 : List (Nat × List Nat) := [(0, [0, 1, 2]), (1, [0, 2, 7, 8]), (2, [0, 2, 7, 18]), (3, [6]), (4, [0, 2, 7, 9, 10]), (5, [0, 2, 7, 9, 10, 24]), (6, [6]), (7, [0, 2, 7, 9, 10, 34]), (8, [0, 2, 7, 9, 10]), (9, []), (10, [6])]
def od_L03_QueueNobody_32 : List (Nat × Ord) := []
noncomputable def pr_L03_QueueNobody_32 (fns : List (Nat × (List AV → Option AV))) : List (Nat × Proc) := (32, procOf ⟨0, 0, et_L03_QueueNobody, tt_L03_QueueNobody, fns, (pr_L03_QueueNobody_85 fns), od_L03_QueueNobody_32, kp_L03_QueueNobody_32, none, []⟩ 53 [.tmp 6] (bodyOf Try.f32)) :: (pr_L03_QueueNobody_85 fns)
theorem pr_L03_QueueNobody_32_ok {fns : List (Nat × (List AV → Option AV))} (hf : FnsOk Go.Proofs.Try.prog fns) : PrsOk Go.Proofs.Try.prog (pr_L03_QueueNobody_32 fns) :=
  PrsOk.cons (proc_con (EnvC.sub (yl := none) tt_ok et_ok hf (pr_L03_QueueNobody_85_ok hf) (ItsOk.nil _) tt_L03_QueueNobody_ok et_L03_QueueNobody_ok) (PrOk.of mixed_ok) Go.Proofs.Try.func32 rfl (by decide) rfl rfl) (pr_L03_QueueNobody_85_ok hf)
def kp_L03_QueueNobody_40 : List (Nat × List Nat) := [(0, [0, 1]), (1, [0, 6, 7]), (2, [0, 6, 7, 14]), (3, [4, 5]), (4, [0, 6, 18]), (5, [4, 5]), (6, [4, 5])]
def od_L03_QueueNobody_40 : List (Nat × Ord) := []
noncomputable def pr_L03_QueueNobody_40 (fns : List (Nat × (List AV → Option AV))) : List (Nat × Proc) := (40, procOf ⟨0, 0, et_L03_QueueNobody, tt_L03_QueueNobody, fns, (pr_L03_QueueNobody_32 fns), od_L03_QueueNobody_40, kp_L03_QueueNobody_40, none, []⟩ 35 [.tmp 4, .tmp 5] (bodyOf Try.f40)) :: (pr_L03_QueueNobody_32 fns)
theorem pr_L03_QueueNobody_40_ok {fns : List (Nat × (List AV → Option AV))} (hf : FnsOk Go.Proofs.Try.prog fns) : PrsOk Go.Proofs.Try.prog (pr_L03_QueueNobody_40 fns) :=
  PrsOk.cons (proc_con (EnvC.sub (yl := none) tt_ok et_ok hf (pr_L03_QueueNobody_32_ok hf) (ItsOk.nil _) tt_L03_QueueNobody_ok et_L03_QueueNobody_ok) (PrOk.of mixed_ok) Go.Proofs.Try.func40 rfl (by decide) rfl rfl) (pr_L03_QueueNobody_32_ok hf)
def kp_L03_QueueNobody_34 : List (Nat × List Nat) := [(0, [0, 1]), (1, [0, 1, 6, 7]), (2, [0, 1, 6, 7, 15]), (3, [4, 5]), (4, [6]), (5, [4, 5])]
def od_L03_QueueNobody_34 : List (Nat × Ord) := []
noncomputable def pr_L03_QueueNobody_34 (fns : List (Nat × (List AV → Option AV))) : List (Nat × Proc) := (34, procOf ⟨0, 0, et_L03_QueueNobody, tt_L03_QueueNobody, fns, (pr_L03_QueueNobody_40 fns), od_L03_QueueNobody_34, kp_L03_QueueNobody_34, none, []⟩ 31 [.tmp 4, .tmp 5] (bodyOf Try.f34)) :: (pr_L03_QueueNobody_40 fns)
theorem pr_L03_QueueNobody_34_ok {fns : List (Nat × (List AV → Option AV))} (hf : FnsOk Go.Proofs.Try.prog fns) : PrsOk Go.Proofs.Try.prog (pr_L03_QueueNobody_34 fns) :=
  PrsOk.cons (proc_con (EnvC.sub (yl := none) tt_ok et_ok hf (pr_L03_QueueNobody_40_ok hf) (ItsOk.nil _) tt_L03_QueueNobody_ok et_L03_QueueNobody_ok) (PrOk.of mixed_ok) Go.Proofs.Try.func34 rfl (by decide) rfl rfl) (pr_L03_QueueNobody_40_ok hf)
def kp_L03_QueueNobody_36 : List (Nat × List Nat) := [(0, [0, 1, 2]), (1, [0, 2, 7, 8]), (2, [0, 2, 7, 8, 16]), (3, [6]), (4, [0, 2, 7, 20]), (5, [6]), (6, [0, 2, 7, 9]), (7, [0, 7, 9]), (8, []), (9, [6])]
def od_L03_QueueNobody_36 : List (Nat × Ord) := []
noncomputable def pr_L03_QueueNobody_36 (fns : List (Nat × (List AV → Option AV))) : List (Nat × Proc) := (36, procOf ⟨0, 0, et_L03_QueueNobody, tt_L03_QueueNobody, fns, (pr_L03_QueueNobody_34 fns), od_L03_QueueNobody_36, kp_L03_QueueNobody_36, none, []⟩ 44 [.tmp 6] (bodyOf Try.f36)) :: (pr_L03_QueueNobody_34 fns)
theorem pr_L03_QueueNobody_36_ok {fns : List (Nat × (List AV → Option AV))} (hf : FnsOk Go.Proofs.Try.prog fns) : PrsOk Go.Proofs.Try.prog (pr_L03_QueueNobody_36 fns) :=
  PrsOk.cons (proc_con (EnvC.sub (yl := none) tt_ok et_ok hf (pr_L03_QueueNobody_34_ok hf) (ItsOk.nil _) tt_L03_QueueNobody_ok et_L03_QueueNobody_ok) (PrOk.of mixed_ok) Go.Proofs.Try.func36 rfl (by decide) rfl rfl) (pr_L03_QueueNobody_34_ok hf)
def kp_L03_QueueNobody_39 : List (Nat × List Nat) := [(0, [0]), (1, [0, 5]), (2, [2]), (3, [2])]
def od_L03_QueueNobody_39 : List (Nat × Ord) := []
noncomputable def pr_L03_QueueNobody_39 (fns : List (Nat × (List AV → Option AV))) : List (Nat × Proc) := (39, procOf ⟨0, 0, et_L03_QueueNobody, tt_L03_QueueNobody, fns, (pr_L03_QueueNobody_36 fns), od_L03_QueueNobody_39, kp_L03_QueueNobody_39, none, []⟩ 11 [.tmp 2] (bodyOf Try.f39)) :: (pr_L03_QueueNobody_36 fns)
theorem pr_L03_QueueNobody_39_ok {fns : List (Nat × (List AV → Option AV))} (hf : FnsOk Go.Proofs.Try.prog fns) : PrsOk Go.Proofs.Try.prog (pr_L03_QueueNobody_39 fns) :=
  PrsOk.cons (proc_con (EnvC.sub (yl := none) tt_ok et_ok hf (pr_L03_QueueNobody_36_ok hf) (ItsOk.nil _) tt_L03_QueueNobody_ok et_L03_QueueNobody_ok) (PrOk.of mixed_ok) Go.Proofs.Try.func39 rfl (by decide) rfl rfl) (pr_L03_QueueNobody_36_ok hf)
def kp_L03_QueueNobody_41 : List (Nat × List Nat) := [(0, [0, 1]), (1, [0, 5, 6]), (2, [0, 5, 16]), (3, [4]), (4, [0, 5, 7]), (5, [0, 7, 8]), (6, [0, 7, 8, 22]), (7, [0, 7, 8]), (8, [0, 7, 8]), (9, [4])]
def od_L03_QueueNobody_41 : List (Nat × Ord) := []
noncomputable def pr_L03_QueueNobody_41 (fns : List (Nat × (List AV → Option AV))) : List (Nat × Proc) := (41, procOf ⟨0, 0, et_L03_QueueNobody, tt_L03_QueueNobody, fns, (pr_L03_QueueNobody_39 fns), od_L03_QueueNobody_41, kp_L03_QueueNobody_41, none, []⟩ 43 [.tmp 4] (bodyOf Try.f41)) :: (pr_L03_QueueNobody_39 fns)
theorem pr_L03_QueueNobody_41_ok {fns : List (Nat × (List AV → Option AV))} (hf : FnsOk Go.Proofs.Try.prog fns) : PrsOk Go.Proofs.Try.prog (pr_L03_QueueNobody_41 fns) :=
  PrsOk.cons (proc_con (EnvC.sub (yl := none) tt_ok et_ok hf (pr_L03_QueueNobody_39_ok hf) (ItsOk.nil _) tt_L03_QueueNobody_ok et_L03_QueueNobody_ok) (PrOk.of mixed_ok) Go.Proofs.Try.func41 rfl (by decide) rfl rfl) (pr_L03_QueueNobody_39_ok hf)
def kp_L03_QueueNobody_42 : List (Nat × List Nat) := [(0, [0, 1]), (1, [5, 6]), (2, [5, 14]), (3, [4]), (4, [4])]
def od_L03_QueueNobody_42 : List (Nat × Ord) := []
noncomputable def pr_L03_QueueNobody_42 (fns : List (Nat × (List AV → Option AV))) : List (Nat × Proc) := (42, procOf ⟨0, 0, et_L03_QueueNobody, tt_L03_QueueNobody, fns, (pr_L03_QueueNobody_41 fns), od_L03_QueueNobody_42, kp_L03_QueueNobody_42, none, []⟩ 19 [.tmp 4] (bodyOf Try.f42)) :: (pr_L03_QueueNobody_41 fns)
theorem pr_L03_QueueNobody_42_ok {fns : List (Nat × (List AV → Option AV))} (hf : FnsOk Go.Proofs.Try.prog fns) : PrsOk Go.Proofs.Try.prog (pr_L03_QueueNobody_42 fns) :=
  PrsOk.cons (proc_con (EnvC.sub (yl := none) tt_ok et_ok hf (pr_L03_QueueNobody_41_ok hf) (ItsOk.nil _) tt_L03_QueueNobody_ok et_L03_QueueNobody_ok) (PrOk.of mixed_ok) Go.Proofs.Try.func42 rfl (by decide) rfl rfl) (pr_L03_QueueNobody_41_ok hf)
def L03_QueueNobody_Q1 (x1 : Int × Int) : St :=
  ⟨[(0, .int .i64 x1.1), (1, .int .i64 x1.2), (6, .con (.pointer none)), (7, .dead), (8, .dead), (13, .vsl 13 2), (14, .int .i64 2), (15, .int .i64 0), (19, .dead), (22, .tup [.int .i64 0, .int .i64 2]), (23, .dead), (24, .dead)], [(12, .var (.pair (.sl (.pair (.int .i64) (.pair (.int .i64) .unit))) (.pair (.sl (.pair (.int .i64) (.pair (.int .i64) (.pair (.int .i64) .unit)))) (.pair (.pair (.int .i64) (.pair (.int .i64) (.pair (.int .i64) .unit))) .unit))) (.agg [.con (.slice none 0 0), .con (.slice none 0 0), .agg [.int .i64 0, .int .i64 0, .int .i64 0]]) false), (13, .var (.pair (.opq 0) (.pair (.opq 0) .unit)) (.agg [.con (.pointer none), .ptr 12 []]) false)], none⟩
def L03_QueueNobody_Q2 (x2 : Int × Int) : St :=
  ⟨[(0, .int .i64 x2.1), (1, .int .i64 x2.2), (6, .con (.pointer none)), (7, .int .i64 0), (8, .int .i64 2), (9, .dead), (10, .dead), (13, .vsl 13 2), (14, .int .i64 2), (15, .int .i64 0), (25, .dead), (28, .tup [.int .i64 0, .int .i64 2]), (29, .dead), (30, .dead)], [(12, .var (.pair (.sl (.pair (.int .i64) (.pair (.int .i64) .unit))) (.pair (.sl (.pair (.int .i64) (.pair (.int .i64) (.pair (.int .i64) .unit)))) (.pair (.pair (.int .i64) (.pair (.int .i64) (.pair (.int .i64) .unit))) .unit))) (.agg [.con (.slice none 0 0), .con (.slice none 0 0), .agg [.int .i64 0, .int .i64 0, .int .i64 0]]) false), (13, .var (.pair (.opq 0) (.pair (.opq 0) .unit)) (.agg [.con (.pointer none), .ptr 12 []]) false)], none⟩
def L03_QueueNobody_Q3 (x3 : Int × Int) : St :=
  ⟨[(0, .int .i64 x3.1), (1, .int .i64 x3.2), (6, .con (.pointer none)), (7, .int .i64 0), (8, .int .i64 2), (9, .int .i64 0), (10, .int .i64 2), (13, .vsl 13 2), (14, .int .i64 2), (15, .int .i64 0), (34, .int .i64 2), (35, .dead), (36, .dead), (37, .dead), (38, .dead), (39, .dead), (40, .dead), (41, .dead), (42, .dead), (43, .dead), (44, .dead), (45, .dead), (46, .dead), (47, .dead), (48, .dead), (49, .dead), (50, .dead), (51, .dead), (52, .dead), (53, .dead), (54, .dead), (55, .dead), (56, .dead), (57, .dead), (58, .dead), (59, .dead), (60, .dead), (61, .dead), (62, .dead), (63, .dead), (64, .dead), (65, .dead), (66, .dead), (67, .dead), (68, .dead), (69, .dead), (70, .dead), (71, .dead)], [(12, .var (.pair (.sl (.pair (.int .i64) (.pair (.int .i64) .unit))) (.pair (.sl (.pair (.int .i64) (.pair (.int .i64) (.pair (.int .i64) .unit)))) (.pair (.pair (.int .i64) (.pair (.int .i64) (.pair (.int .i64) .unit))) .unit))) (.agg [.con (.slice none 0 0), .con (.slice none 0 0), .agg [.int .i64 0, .int .i64 0, .int .i64 0]]) false), (13, .var (.pair (.opq 0) (.pair (.opq 0) .unit)) (.agg [.con (.pointer none), .ptr 12 []]) false)], none⟩
def L03_QueueNobody_Q4 (x4 : Int × Int) : St :=
  ⟨[(0, .int .i64 x4.1), (1, .int .i64 x4.2), (6, .con (.pointer none)), (13, .vsl 13 2), (14, .int .i64 2), (15, .int .i64 0), (52, .bool false), (56, .bool false), (57, .dead), (58, .dead), (59, .dead), (60, .dead), (61, .dead), (62, .dead), (63, .dead), (64, .dead), (65, .dead), (66, .dead), (67, .dead), (68, .dead), (69, .dead), (70, .dead), (71, .dead)], [(12, .var (.pair (.sl (.pair (.int .i64) (.pair (.int .i64) .unit))) (.pair (.sl (.pair (.int .i64) (.pair (.int .i64) (.pair (.int .i64) .unit)))) (.pair (.pair (.int .i64) (.pair (.int .i64) (.pair (.int .i64) .unit))) .unit))) (.agg [.con (.slice none 0 0), .con (.slice none 0 0), .agg [.int .i64 0, .int .i64 0, .int .i64 0]]) false), (13, .var (.pair (.opq 0) (.pair (.opq 0) .unit)) (.agg [.con (.pointer none), .ptr 12 []]) false)], none⟩
def L03_QueueNobody_Q5 (x5 : Int × Int) : St :=
  ⟨[(0, .int .i64 x5.1), (1, .int .i64 x5.2), (6, .con (.pointer none)), (13, .vsl 13 2), (14, .int .i64 2), (15, .int .i64 0), (58, .bool false), (61, .con (.slice none 0 0)), (62, .dead), (63, .dead), (64, .dead), (65, .dead), (66, .dead), (67, .dead), (68, .dead), (69, .dead), (70, .dead), (71, .dead)], [(12, .var (.pair (.sl (.pair (.int .i64) (.pair (.int .i64) .unit))) (.pair (.sl (.pair (.int .i64) (.pair (.int .i64) (.pair (.int .i64) .unit)))) (.pair (.pair (.int .i64) (.pair (.int .i64) (.pair (.int .i64) .unit))) .unit))) (.agg [.con (.slice none 0 0), .con (.slice none 0 0), .agg [.int .i64 0, .int .i64 0, .int .i64 0]]) false), (13, .var (.pair (.opq 0) (.pair (.opq 0) .unit)) (.agg [.con (.pointer none), .ptr 12 []]) false)], none⟩
def L03_QueueNobody_Q6 (x6 : Int × Int) : St :=
  ⟨[(0, .int .i64 x6.1), (1, .int .i64 x6.2), (6, .con (.pointer none)), (13, .vsl 13 2), (14, .int .i64 2), (15, .int .i64 0), (58, .bool false), (62, .int .i64 0), (65, .int .i64 0), (66, .dead), (67, .dead), (68, .dead), (69, .dead), (70, .dead), (71, .dead)], [(12, .var (.pair (.sl (.pair (.int .i64) (.pair (.int .i64) .unit))) (.pair (.sl (.pair (.int .i64) (.pair (.int .i64) (.pair (.int .i64) .unit)))) (.pair (.pair (.int .i64) (.pair (.int .i64) (.pair (.int .i64) .unit))) .unit))) (.agg [.con (.slice none 0 0), .con (.slice none 0 0), .agg [.int .i64 0, .int .i64 0, .int .i64 0]]) false), (13, .var (.pair (.opq 0) (.pair (.opq 0) .unit)) (.agg [.con (.pointer none), .ptr 12 []]) false)], none⟩
def L03_QueueNobody_Q7 (x7 : Int × Int) : St :=
  ⟨[(0, .int .i64 x7.1), (1, .int .i64 x7.2), (13, .vsl 13 2), (14, .int .i64 2), (15, .int .i64 0), (58, .bool false), (66, .int .i64 0), (68, .int .i64 0), (69, .dead), (70, .dead), (71, .dead)], [(12, .var (.pair (.sl (.pair (.int .i64) (.pair (.int .i64) .unit))) (.pair (.sl (.pair (.int .i64) (.pair (.int .i64) (.pair (.int .i64) .unit)))) (.pair (.pair (.int .i64) (.pair (.int .i64) (.pair (.int .i64) .unit))) .unit))) (.agg [.con (.slice none 0 0), .con (.slice none 0 0), .agg [.int .i64 0, .int .i64 0, .int .i64 0]]) false), (13, .var (.pair (.opq 0) (.pair (.opq 0) .unit)) (.agg [.con (.pointer none), .ptr 12 []]) false)], none⟩
def L03_QueueNobody_Q8 (x8 : Int × Int) : St :=
  ⟨[(0, .int .i64 x8.1), (1, .int .i64 x8.2), (6, .ptr 12 []), (7, .dead), (8, .dead), (13, .vsl 13 2), (14, .int .i64 2), (15, .int .i64 1), (19, .dead), (22, .tup [.int .i64 0, .int .i64 2]), (23, .dead), (24, .dead)], [(12, .var (.pair (.sl (.pair (.int .i64) (.pair (.int .i64) .unit))) (.pair (.sl (.pair (.int .i64) (.pair (.int .i64) (.pair (.int .i64) .unit)))) (.pair (.pair (.int .i64) (.pair (.int .i64) (.pair (.int .i64) .unit))) .unit))) (.agg [.con (.slice none 0 0), .con (.slice none 0 0), .agg [.int .i64 0, .int .i64 0, .int .i64 0]]) false), (13, .var (.pair (.opq 0) (.pair (.opq 0) .unit)) (.agg [.con (.pointer none), .ptr 12 []]) false)], none⟩
def L03_QueueNobody_Q9 (x9 : Int × Int) : St :=
  ⟨[(0, .int .i64 x9.1), (1, .int .i64 x9.2), (6, .ptr 12 []), (7, .int .i64 0), (8, .int .i64 2), (9, .dead), (10, .dead), (13, .vsl 13 2), (14, .int .i64 2), (15, .int .i64 1), (25, .dead), (28, .tup [.int .i64 0, .int .i64 2]), (29, .dead), (30, .dead)], [(12, .var (.pair (.sl (.pair (.int .i64) (.pair (.int .i64) .unit))) (.pair (.sl (.pair (.int .i64) (.pair (.int .i64) (.pair (.int .i64) .unit)))) (.pair (.pair (.int .i64) (.pair (.int .i64) (.pair (.int .i64) .unit))) .unit))) (.agg [.con (.slice none 0 0), .con (.slice none 0 0), .agg [.int .i64 0, .int .i64 0, .int .i64 0]]) false), (13, .var (.pair (.opq 0) (.pair (.opq 0) .unit)) (.agg [.con (.pointer none), .ptr 12 []]) false)], none⟩
def L03_QueueNobody_Q10 (x10 : Int × Int) : St :=
  ⟨[(0, .int .i64 x10.1), (1, .int .i64 x10.2), (6, .ptr 12 []), (7, .int .i64 0), (8, .int .i64 2), (9, .int .i64 0), (10, .int .i64 2), (13, .vsl 13 2), (14, .int .i64 2), (15, .int .i64 1), (34, .int .i64 2), (35, .dead), (36, .dead), (37, .dead), (38, .dead), (39, .dead), (40, .dead), (41, .dead), (42, .dead), (43, .dead), (44, .dead), (45, .dead), (46, .dead), (47, .dead), (48, .dead), (49, .dead), (50, .dead), (51, .dead), (52, .dead), (53, .dead), (54, .dead), (55, .dead), (56, .dead), (57, .dead), (58, .dead), (59, .dead), (60, .dead), (61, .dead), (62, .dead), (63, .dead), (64, .dead), (65, .dead), (66, .dead), (67, .dead), (68, .dead), (69, .dead), (70, .dead), (71, .dead)], [(12, .var (.pair (.sl (.pair (.int .i64) (.pair (.int .i64) .unit))) (.pair (.sl (.pair (.int .i64) (.pair (.int .i64) (.pair (.int .i64) .unit)))) (.pair (.pair (.int .i64) (.pair (.int .i64) (.pair (.int .i64) .unit))) .unit))) (.agg [.con (.slice none 0 0), .con (.slice none 0 0), .agg [.int .i64 0, .int .i64 0, .int .i64 0]]) false), (13, .var (.pair (.opq 0) (.pair (.opq 0) .unit)) (.agg [.con (.pointer none), .ptr 12 []]) false)], none⟩
def L03_QueueNobody_Q11 (x11 : Int × Int) : St :=
  ⟨[(0, .int .i64 x11.1), (1, .int .i64 x11.2), (6, .ptr 12 []), (13, .vsl 13 2), (14, .int .i64 2), (15, .int .i64 1), (52, .bool false), (56, .bool false), (57, .dead), (58, .dead), (59, .dead), (60, .dead), (61, .dead), (62, .dead), (63, .dead), (64, .dead), (65, .dead), (66, .dead), (67, .dead), (68, .dead), (69, .dead), (70, .dead), (71, .dead)], [(12, .var (.pair (.sl (.pair (.int .i64) (.pair (.int .i64) .unit))) (.pair (.sl (.pair (.int .i64) (.pair (.int .i64) (.pair (.int .i64) .unit)))) (.pair (.pair (.int .i64) (.pair (.int .i64) (.pair (.int .i64) .unit))) .unit))) (.agg [.con (.slice none 0 0), .con (.slice none 0 0), .agg [.int .i64 0, .int .i64 0, .int .i64 0]]) false), (13, .var (.pair (.opq 0) (.pair (.opq 0) .unit)) (.agg [.con (.pointer none), .ptr 12 []]) false)], none⟩
def L03_QueueNobody_Q12 (x12 : Int × Int) : St :=
  ⟨[(0, .int .i64 x12.1), (1, .int .i64 x12.2), (6, .ptr 12 []), (13, .vsl 13 2), (14, .int .i64 2), (15, .int .i64 1), (58, .bool false), (61, .con (.slice none 0 0)), (62, .dead), (63, .dead), (64, .dead), (65, .dead), (66, .dead), (67, .dead), (68, .dead), (69, .dead), (70, .dead), (71, .dead)], [(12, .var (.pair (.sl (.pair (.int .i64) (.pair (.int .i64) .unit))) (.pair (.sl (.pair (.int .i64) (.pair (.int .i64) (.pair (.int .i64) .unit)))) (.pair (.pair (.int .i64) (.pair (.int .i64) (.pair (.int .i64) .unit))) .unit))) (.agg [.con (.slice none 0 0), .con (.slice none 0 0), .agg [.int .i64 0, .int .i64 0, .int .i64 0]]) false), (13, .var (.pair (.opq 0) (.pair (.opq 0) .unit)) (.agg [.con (.pointer none), .ptr 12 []]) false)], none⟩
def L03_QueueNobody_Q13 (x13 : Int × Int) : St :=
  ⟨[(0, .int .i64 x13.1), (1, .int .i64 x13.2), (6, .ptr 12 []), (13, .vsl 13 2), (14, .int .i64 2), (15, .int .i64 1), (58, .bool false), (62, .int .i64 0), (65, .int .i64 0), (66, .dead), (67, .dead), (68, .dead), (69, .dead), (70, .dead), (71, .dead)], [(12, .var (.pair (.sl (.pair (.int .i64) (.pair (.int .i64) .unit))) (.pair (.sl (.pair (.int .i64) (.pair (.int .i64) (.pair (.int .i64) .unit)))) (.pair (.pair (.int .i64) (.pair (.int .i64) (.pair (.int .i64) .unit))) .unit))) (.agg [.con (.slice none 0 0), .con (.slice none 0 0), .agg [.int .i64 0, .int .i64 0, .int .i64 0]]) false), (13, .var (.pair (.opq 0) (.pair (.opq 0) .unit)) (.agg [.con (.pointer none), .ptr 12 []]) false)], none⟩
def L03_QueueNobody_Q14 (x14 : Int × Int) : St :=
  ⟨[(0, .int .i64 x14.1), (1, .int .i64 x14.2), (13, .vsl 13 2), (14, .int .i64 2), (15, .int .i64 1), (58, .bool false), (66, .int .i64 0), (68, .int .i64 0), (69, .dead), (70, .dead), (71, .dead)], [(12, .var (.pair (.sl (.pair (.int .i64) (.pair (.int .i64) .unit))) (.pair (.sl (.pair (.int .i64) (.pair (.int .i64) (.pair (.int .i64) .unit)))) (.pair (.pair (.int .i64) (.pair (.int .i64) (.pair (.int .i64) .unit))) .unit))) (.agg [.con (.slice none 0 0), .con (.slice none 0 0), .agg [.int .i64 0, .int .i64 0, .int .i64 0]]) false), (13, .var (.pair (.opq 0) (.pair (.opq 0) .unit)) (.agg [.con (.pointer none), .ptr 12 []]) false)], none⟩
def kp_L03_QueueNobody : List (Nat × List Nat) := [(0, [0, 1]), (1, [0, 1, 13, 14, 15]), (2, [0, 1, 13, 14, 15, 16]), (3, [0, 1, 6, 13, 14, 15]), (4, [0, 1, 6, 7, 8, 13, 14, 15]), (5, [0, 1, 6, 7, 8, 9, 10, 13, 14, 15]), (6, [0, 1, 13, 14, 15, 71]), (7, [4]), (8, [0, 1, 13, 14, 15]), (9, [4]), (25000022, []), (20000022, [0, 1, 6, 7, 8, 13, 14, 15, 19, 22, 23, 24]), (25000028, []), (20000028, [0, 1, 6, 7, 8, 9, 10, 13, 14, 15, 25, 28, 29, 30]), (25000034, []), (20000034, [0, 1, 6, 7, 8, 9, 10, 13, 14, 15, 34, 35, 36, 37, 38, 39, 40, 41, 42, 43, 44, 45, 46, 47, 48, 49, 50, 51, 52, 53, 54, 55, 56, 57, 58, 59, 60, 61, 62, 63, 64, 65, 66, 67, 68, 69, 70, 71]), (25000056, []), (20000056, [0, 1, 6, 13, 14, 15, 52, 56, 57, 58, 59, 60, 61, 62, 63, 64, 65, 66, 67, 68, 69, 70, 71]), (25000061, []), (20000061, [0, 1, 6, 13, 14, 15, 58, 61, 62, 63, 64, 65, 66, 67, 68, 69, 70, 71]), (25000065, []), (20000065, [0, 1, 6, 13, 14, 15, 58, 62, 65, 66, 67, 68, 69, 70, 71]), (25000068, []), (20000068, [0, 1, 13, 14, 15, 58, 66, 68, 69, 70, 71]), (24000022, [12, 13]), (26000022, []), (24000028, [12, 13]), (26000028, []), (24000034, [12, 13]), (26000034, []), (24000056, [12, 13]), (26000056, []), (24000061, [12, 13]), (26000061, []), (24000065, [12, 13]), (26000065, []), (24000068, [12, 13]), (26000068, []), (4000000, []), (4000001, [12, 13]), (4000002, [12, 13]), (4000003, [12, 13]), (4000004, [12, 13]), (4000005, [12, 13]), (4000006, [12, 13]), (4000008, [12, 13]), (4000009, [])]
def od_L03_QueueNobody : List (Nat × Ord) := []
noncomputable def E_L03_QueueNobody (fns : List (Nat × (List AV → Option AV))) : Env := ⟨0, 0, et_L03_QueueNobody, tt_L03_QueueNobody, fns, (pr_L03_QueueNobody_42 fns), od_L03_QueueNobody, kp_L03_QueueNobody, none, []⟩
set_option maxRecDepth 100000 in
set_option maxHeartbeats 40000000 in
theorem c_L03_QueueNobody : PCon Go.Proofs.Try.prog 8 lf_L03_QueueNobody := by
  obtain ⟨G29, hG29, cG29⟩ : ∃ G : (.unit : Ty).den → Option Bool, (∀ x, G x = L03_alive) ∧ PCon Go.Proofs.Try.prog 29 (liftF .unit (unpack .bool) G) := ⟨_, fun _ => rfl, c_L03_alive⟩
  obtain ⟨fns, hfns, hf⟩ : ∃ fns, fns = [(29, liftF .unit (unpack .bool) G29)] ∧ FnsOk Go.Proofs.Try.prog fns := ⟨_, rfl, FnsOk.cons cG29 (FnsOk.nil _)⟩
  refine lift_con (E := E_L03_QueueNobody fns) (c := bodyOf Try.f8) (nt := 74) (rs := [.tmp 4]) (ts := [4]) (EnvC.sub tt_ok et_ok hf (pr_L03_QueueNobody_42_ok hf) (ItsOk.nil _) tt_L03_QueueNobody_ok et_L03_QueueNobody_ok) (PrOk.of mixed_ok) Go.Proofs.Try.func8 rfl (by decide) rfl rfl rfl (pureR_one (e := .bool) rfl) ?_
  subst hfns
  intro x r hw hs
  repeat'
    (try (conv => whnf)
     first
       | (with_reducible have hs := letv_out hs)
       | (refine draw_and (by kernel_rfl) ?_)
       | (refine both_mk ?_ ?_)
       | (refine br_bool (fun h => ?_) (fun h => ?_) <;> first | have hs := cT h hs | have hs := cF h hs)
       | (refine bind_elim hs fun v hb hs => ?_; first | refine callK_liftG hG29 rfl hb ?_)
       | refine chk_elim hs fun hs => ?_
       | (have hs := letv_out hs)
       | exact fin_some hs rfl
       | (intro b hb; first | have hs := nilq_elim hs b hb | have hs := nilqn_elim hs b hb)
       | exact hC1 _ hs
       | exact hC2 _ hs
       | exact hC3 _ hs
       | exact hC4 _ hs
       | exact hC5 _ hs
       | exact hC6 _ hs
       | exact hC7 _ hs
       | exact hC8 _ hs
       | exact hC9 _ hs
       | exact hC10 _ hs
       | exact hC11 _ hs
       | exact hC12 _ hs
       | exact hC13 _ hs
       | exact hC14 _ hs
       | (refine cut_out 1 L03_QueueNobody_Q1 hs (fun Jc1 kc1 hC1 hs => ?_) (fun xc1 hs => ?_))
       | (refine cut_out 2 L03_QueueNobody_Q2 hs (fun Jc2 kc2 hC2 hs => ?_) (fun xc2 hs => ?_))
       | (refine cut_out 3 L03_QueueNobody_Q3 hs (fun Jc3 kc3 hC3 hs => ?_) (fun xc3 hs => ?_))
       | (refine cut_out 4 L03_QueueNobody_Q4 hs (fun Jc4 kc4 hC4 hs => ?_) (fun xc4 hs => ?_))
       | (refine cut_out 5 L03_QueueNobody_Q5 hs (fun Jc5 kc5 hC5 hs => ?_) (fun xc5 hs => ?_))
       | (refine cut_out 6 L03_QueueNobody_Q6 hs (fun Jc6 kc6 hC6 hs => ?_) (fun xc6 hs => ?_))
       | (refine cut_out 7 L03_QueueNobody_Q7 hs (fun Jc7 kc7 hC7 hs => ?_) (fun xc7 hs => ?_))
       | (refine cut_out 8 L03_QueueNobody_Q8 hs (fun Jc8 kc8 hC8 hs => ?_) (fun xc8 hs => ?_))
       | (refine cut_out 9 L03_QueueNobody_Q9 hs (fun Jc9 kc9 hC9 hs => ?_) (fun xc9 hs => ?_))
       | (refine cut_out 10 L03_QueueNobody_Q10 hs (fun Jc10 kc10 hC10 hs => ?_) (fun xc10 hs => ?_))
       | (refine cut_out 11 L03_QueueNobody_Q11 hs (fun Jc11 kc11 hC11 hs => ?_) (fun xc11 hs => ?_))
       | (refine cut_out 12 L03_QueueNobody_Q12 hs (fun Jc12 kc12 hC12 hs => ?_) (fun xc12 hs => ?_))
       | (refine cut_out 13 L03_QueueNobody_Q13 hs (fun Jc13 kc13 hC13 hs => ?_) (fun xc13 hs => ?_))
       | (refine cut_out 14 L03_QueueNobody_Q14 hs (fun Jc14 kc14 hC14 hs => ?_) (fun xc14 hs => ?_))
       | (have hs := cT rfl hs)
       | (have hs := cF rfl hs)
       | (refine vc_unr 17 ?_)
       | exact (none_ne hs).elim)
end Go.Proofs.YtiicmhholjpcbaaV
namespace Go.Proofs.Ytiicmhholjpcbaa.queueNobody
open Go.ChangeShapes Go.WideShapes Go.ChangeAt Go.RowKit Go.Proofs.YtiicmhholjpcbaaV
set_option linter.unusedVariables false
theorem own : ownKnob Try.prog.godebug = none := by kernel_rfl
set_option maxRecDepth 100000 in
theorem lifted (os : Os) (started : os.Started) (H : Type) (enc : TypeId × Value → H) :
    ReturnsInHanded {} Try.checked os 8 .any (Rows.queueNobodySpec.pre6 enc Try.prog Try.f8 Rows.queueNobodyRow.domain false) (Rows.queueNobodySpec.post enc Try.prog Try.f8 false true false false) := by
  refine returnsInHanded_of_change_sized (C := Try.checked) own started (by kernel_rfl) Try.func8
    (ChangeSpec.witness6 (enc := enc) (C := Try.checked) false ⟨#[], #[.int .i64 0, .int .i64 0], []⟩ 12 (by kernel_rfl) (by kernel_rfl) (by kernel_rfl) (by kernel_rfl)) ?_
  intro W base args ds gs before hval0 hW hcnd hsz0 _
  refine row_of (C := Try.checked) (s := Rows.queueNobodySpec) (c := bodyOf Try.f8) (tr := 4) c_L03_QueueNobody Try.func8 rfl (by decide) (by kernel_rfl) (by kernel_rfl) (by kernel_rfl) rfl Try.underlying4 rfl ?_ law_L03_QueueNobody rfl W base args ds gs before hval0 hW hsz0
  intro ds hl
  match ds, hl with
  | [d1, d2], _ => exact ⟨rfl, rfl, rfl⟩
theorem over : Rows.queueNobodyRow.holds Try.pinned (OpenSpec.ofChange Rows.queueNobodySpec) :=
  OpenClaim.holds_of_wide 8 Try.f8 rfl rfl rfl rfl rfl rfl rfl ⟨rfl, rfl, rfl, rfl, rfl⟩ rfl rfl rfl rfl rfl (by kernel_rfl) Try.func8 (by kernel_rfl)
    (of_decide_eq_true (by kernel_rfl)) (by unfold Func.isWrapper; first | (rw [if_pos (by decide +kernel)]; kernel_rfl) | (rw [if_neg (by decide +kernel)]; exact ⟨rfl, rfl⟩))
    (fun os started H enc _ => lifted os started H enc)
end Go.Proofs.Ytiicmhholjpcbaa.queueNobody
namespace Go.Proofs.Ytiicmhholjpcbaa
/-- The row, under a short name, for the claim. -/
theorem queueNobody_holds : Rows.QueueNobodySaid := queueNobody.over
end Go.Proofs.Ytiicmhholjpcbaa
