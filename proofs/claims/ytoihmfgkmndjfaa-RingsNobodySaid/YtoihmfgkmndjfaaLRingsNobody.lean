/- becket/becketlaw07.RingsNobody: for every input the law returns true, and each argument reads behind the call as before. No condition. -/
import Derived.Test.YtoihmfgkmndjfaaRows
import Derived.Test.YtoihmfgkmndjfaaVcG2
import Derived.Test.YtoihmfgkmndjfaaCL07
import Derived.Test.YtoihmfgkmndjfaaMRingsNobody
namespace Go.Proofs.YtoihmfgkmndjfaaV
open Go.Proofs
set_option linter.unusedVariables false
noncomputable def lf_L07_RingsNobody : List AV → Option AV := liftF (.pair (.int .i64) .unit) (unpack .bool) (fun x => L07_RingsNobody x.1)
def tt_L07_RingsNobody : List (Nat × Ty) := [(3, .int .i64), (4, .bool), (22, .sl (.int .i64)), (27, .int .i64), (42, .opq 0), (65, .pair .bool (.pair (.sl (.int .i64)) (.pair (.int .i64) (.pair (.int .i64) .unit)))), (66, .sl (.opq 0))]
def et_L07_RingsNobody : List (Nat × Nat) := [(22, 3), (66, 42)]
theorem tt_L07_RingsNobody_ok : subT tt tt_L07_RingsNobody = true := by kernel_rfl
theorem et_L07_RingsNobody_ok : subE et et_L07_RingsNobody = true := by kernel_rfl
def kp_L07_RingsNobody_69 : List (Nat × List Nat) := [(0, [0]), (1, [2])]
def od_L07_RingsNobody_69 : List (Nat × Ord) := []
noncomputable def pr_L07_RingsNobody_69 (fns : List (Nat × (List AV → Option AV))) : List (Nat × Proc) := (69, procOf ⟨0, 0, et_L07_RingsNobody, tt_L07_RingsNobody, fns, [], od_L07_RingsNobody_69, kp_L07_RingsNobody_69, none, []⟩ 11 [.tmp 2] (bodyOf Try.f69)) :: []
theorem pr_L07_RingsNobody_69_ok {fns : List (Nat × (List AV → Option AV))} (hf : FnsOk Go.Proofs.Try.prog fns) : PrsOk Go.Proofs.Try.prog (pr_L07_RingsNobody_69 fns) :=
  PrsOk.cons (proc_con (EnvC.sub (yl := none) tt_ok et_ok hf (PrsOk.nil _) (ItsOk.nil _) tt_L07_RingsNobody_ok et_L07_RingsNobody_ok) (PrOk.of mixed_ok) Go.Proofs.Try.func69 rfl (by decide) rfl rfl) (PrsOk.nil _)
def kp_L07_RingsNobody_25 : List (Nat × List Nat) := [(0, [0, 1]), (1, [0, 1, 5]), (2, [4]), (3, [0, 1, 9]), (4, [4]), (5, [0]), (6, []), (7, [4])]
def od_L07_RingsNobody_25 : List (Nat × Ord) := []
noncomputable def pr_L07_RingsNobody_25 (fns : List (Nat × (List AV → Option AV))) : List (Nat × Proc) := (25, procOf ⟨0, 0, et_L07_RingsNobody, tt_L07_RingsNobody, fns, (pr_L07_RingsNobody_69 fns), od_L07_RingsNobody_25, kp_L07_RingsNobody_25, none, []⟩ 39 [.tmp 4] (bodyOf Try.f25)) :: (pr_L07_RingsNobody_69 fns)
theorem pr_L07_RingsNobody_25_ok {fns : List (Nat × (List AV → Option AV))} (hf : FnsOk Go.Proofs.Try.prog fns) : PrsOk Go.Proofs.Try.prog (pr_L07_RingsNobody_25 fns) :=
  PrsOk.cons (proc_con (EnvC.sub (yl := none) tt_ok et_ok hf (pr_L07_RingsNobody_69_ok hf) (ItsOk.nil _) tt_L07_RingsNobody_ok et_L07_RingsNobody_ok) (PrOk.of mixed_ok) Go.Proofs.Try.func25 rfl (by decide) rfl rfl) (pr_L07_RingsNobody_69_ok hf)
def kp_L07_RingsNobody_26 : List (Nat × List Nat) := [(0, [0]), (1, [0, 4]), (2, [0, 4, 6]), (3, [2, 3]), (4, [0, 4, 11]), (5, [2, 3]), (6, [0, 4, 5]), (7, [0, 5]), (8, [0, 5]), (9, [5]), (10, [2, 3])]
def od_L07_RingsNobody_26 : List (Nat × Ord) := []
noncomputable def pr_L07_RingsNobody_26 (fns : List (Nat × (List AV → Option AV))) : List (Nat × Proc) := (26, procOf ⟨0, 0, et_L07_RingsNobody, tt_L07_RingsNobody, fns, (pr_L07_RingsNobody_25 fns), od_L07_RingsNobody_26, kp_L07_RingsNobody_26, none, []⟩ 51 [.tmp 2, .tmp 3] (bodyOf Try.f26)) :: (pr_L07_RingsNobody_25 fns)
theorem pr_L07_RingsNobody_26_ok {fns : List (Nat × (List AV → Option AV))} (hf : FnsOk Go.Proofs.Try.prog fns) : PrsOk Go.Proofs.Try.prog (pr_L07_RingsNobody_26 fns) :=
  PrsOk.cons (proc_con (EnvC.sub (yl := none) tt_ok et_ok hf (pr_L07_RingsNobody_25_ok hf) (ItsOk.nil _) tt_L07_RingsNobody_ok et_L07_RingsNobody_ok) (PrOk.of mixed_ok) Go.Proofs.Try.func26 rfl (by decide) rfl rfl) (pr_L07_RingsNobody_25_ok hf)
def kp_L07_RingsNobody_27 : List (Nat × List Nat) := [(0, [0]), (1, [0, 5]), (2, [2]), (3, [2])]
def od_L07_RingsNobody_27 : List (Nat × Ord) := []
noncomputable def pr_L07_RingsNobody_27 (fns : List (Nat × (List AV → Option AV))) : List (Nat × Proc) := (27, procOf ⟨0, 0, et_L07_RingsNobody, tt_L07_RingsNobody, fns, (pr_L07_RingsNobody_26 fns), od_L07_RingsNobody_27, kp_L07_RingsNobody_27, none, []⟩ 10 [.tmp 2] (bodyOf Try.f27)) :: (pr_L07_RingsNobody_26 fns)
theorem pr_L07_RingsNobody_27_ok {fns : List (Nat × (List AV → Option AV))} (hf : FnsOk Go.Proofs.Try.prog fns) : PrsOk Go.Proofs.Try.prog (pr_L07_RingsNobody_27 fns) :=
  PrsOk.cons (proc_con (EnvC.sub (yl := none) tt_ok et_ok hf (pr_L07_RingsNobody_26_ok hf) (ItsOk.nil _) tt_L07_RingsNobody_ok et_L07_RingsNobody_ok) (PrOk.of mixed_ok) Go.Proofs.Try.func27 rfl (by decide) rfl rfl) (pr_L07_RingsNobody_26_ok hf)
def kp_L07_RingsNobody_28 : List (Nat × List Nat) := [(0, [0]), (1, [0, 5]), (2, [2]), (3, [2])]
def od_L07_RingsNobody_28 : List (Nat × Ord) := []
noncomputable def pr_L07_RingsNobody_28 (fns : List (Nat × (List AV → Option AV))) : List (Nat × Proc) := (28, procOf ⟨0, 0, et_L07_RingsNobody, tt_L07_RingsNobody, fns, (pr_L07_RingsNobody_27 fns), od_L07_RingsNobody_28, kp_L07_RingsNobody_28, none, []⟩ 11 [.tmp 2] (bodyOf Try.f28)) :: (pr_L07_RingsNobody_27 fns)
theorem pr_L07_RingsNobody_28_ok {fns : List (Nat × (List AV → Option AV))} (hf : FnsOk Go.Proofs.Try.prog fns) : PrsOk Go.Proofs.Try.prog (pr_L07_RingsNobody_28 fns) :=
  PrsOk.cons (proc_con (EnvC.sub (yl := none) tt_ok et_ok hf (pr_L07_RingsNobody_27_ok hf) (ItsOk.nil _) tt_L07_RingsNobody_ok et_L07_RingsNobody_ok) (PrOk.of mixed_ok) Go.Proofs.Try.func28 rfl (by decide) rfl rfl) (pr_L07_RingsNobody_27_ok hf)
def kp_L07_RingsNobody_30 : List (Nat × List Nat) := [(0, [0, 3]), (1, [0]), (2, [])]
def od_L07_RingsNobody_30 : List (Nat × Ord) := []
noncomputable def pr_L07_RingsNobody_30 (fns : List (Nat × (List AV → Option AV))) : List (Nat × Proc) := (30, procOf ⟨0, 0, et_L07_RingsNobody, tt_L07_RingsNobody, fns, (pr_L07_RingsNobody_28 fns), od_L07_RingsNobody_30, kp_L07_RingsNobody_30, none, []⟩ 14 [] (bodyOf Try.f30)) :: (pr_L07_RingsNobody_28 fns)
theorem pr_L07_RingsNobody_30_ok {fns : List (Nat × (List AV → Option AV))} (hf : FnsOk Go.Proofs.Try.prog fns) : PrsOk Go.Proofs.Try.prog (pr_L07_RingsNobody_30 fns) :=
  PrsOk.cons (proc_con (EnvC.sub (yl := none) tt_ok et_ok hf (pr_L07_RingsNobody_28_ok hf) (ItsOk.nil _) tt_L07_RingsNobody_ok et_L07_RingsNobody_ok) (PrOk.of mixed_ok) Go.Proofs.Try.func30 rfl (by decide) rfl rfl) (pr_L07_RingsNobody_28_ok hf)
def kp_L07_RingsNobody_33 : List (Nat × List Nat) := [(0, [0, 1]), (1, [0, 1, 6]), (2, [0, 1, 6, 7]), (3, [4, 5]), (4, [0, 1, 6, 12]), (5, [4, 5]), (6, [4, 5])]
def od_L07_RingsNobody_33 : List (Nat × Ord) := []
noncomputable def pr_L07_RingsNobody_33 (fns : List (Nat × (List AV → Option AV))) : List (Nat × Proc) := (33, procOf ⟨0, 0, et_L07_RingsNobody, tt_L07_RingsNobody, fns, (pr_L07_RingsNobody_30 fns), od_L07_RingsNobody_33, kp_L07_RingsNobody_33, none, []⟩ 33 [.tmp 4, .tmp 5] (bodyOf Try.f33)) :: (pr_L07_RingsNobody_30 fns)
theorem pr_L07_RingsNobody_33_ok {fns : List (Nat × (List AV → Option AV))} (hf : FnsOk Go.Proofs.Try.prog fns) : PrsOk Go.Proofs.Try.prog (pr_L07_RingsNobody_33 fns) :=
  PrsOk.cons (proc_con (EnvC.sub (yl := none) tt_ok et_ok hf (pr_L07_RingsNobody_30_ok hf) (ItsOk.nil _) tt_L07_RingsNobody_ok et_L07_RingsNobody_ok) (PrOk.of mixed_ok) Go.Proofs.Try.func33 rfl (by decide) rfl rfl) (pr_L07_RingsNobody_30_ok hf)
def kp_L07_RingsNobody_36 : List (Nat × List Nat) := [(0, [0]), (1, [0, 15]), (2, [2]), (3, [0, 3]), (4, [0, 4]), (5, [0, 4, 5]), (6, [2])]
def od_L07_RingsNobody_36 : List (Nat × Ord) := []
noncomputable def pr_L07_RingsNobody_36 (fns : List (Nat × (List AV → Option AV))) : List (Nat × Proc) := (36, procOf ⟨0, 0, et_L07_RingsNobody, tt_L07_RingsNobody, fns, (pr_L07_RingsNobody_33 fns), od_L07_RingsNobody_36, kp_L07_RingsNobody_36, none, []⟩ 58 [.tmp 2] (bodyOf Try.f36)) :: (pr_L07_RingsNobody_33 fns)
theorem pr_L07_RingsNobody_36_ok {fns : List (Nat × (List AV → Option AV))} (hf : FnsOk Go.Proofs.Try.prog fns) : PrsOk Go.Proofs.Try.prog (pr_L07_RingsNobody_36 fns) :=
  PrsOk.cons (proc_con (EnvC.sub (yl := none) tt_ok et_ok hf (pr_L07_RingsNobody_33_ok hf) (ItsOk.nil _) tt_L07_RingsNobody_ok et_L07_RingsNobody_ok) (PrOk.of mixed_ok) Go.Proofs.Try.func36 rfl (by decide) rfl rfl) (pr_L07_RingsNobody_33_ok hf)
def L07_RingsNobody_Q1 (x1 : Int) : St :=
  ⟨[(0, .int .i64 x1), (4, .con (.pointer none)), (5, .dead), (6, .dead), (11, .vsl 11 2), (12, .int .i64 2), (13, .int .i64 0), (17, .dead), (19, .tup [.int .i64 0, .int .i64 2]), (20, .dead), (21, .dead)], [(10, .var (.pair .bool (.pair (.sl (.int .i64)) (.pair (.int .i64) (.pair (.int .i64) .unit)))) (.agg [.bool false, .con (.slice none 0 0), .int .i64 0, .int .i64 0]) false), (11, .var (.pair (.opq 0) (.pair (.opq 0) .unit)) (.agg [.con (.pointer none), .ptr 10 []]) false)], none⟩
def L07_RingsNobody_Q2 (x2 : Int) : St :=
  ⟨[(0, .int .i64 x2), (4, .con (.pointer none)), (5, .int .i64 0), (6, .int .i64 2), (7, .dead), (8, .dead), (11, .vsl 11 2), (12, .int .i64 2), (13, .int .i64 0), (22, .dead), (25, .tup [.int .i64 0, .int .i64 2]), (26, .dead), (27, .dead)], [(10, .var (.pair .bool (.pair (.sl (.int .i64)) (.pair (.int .i64) (.pair (.int .i64) .unit)))) (.agg [.bool false, .con (.slice none 0 0), .int .i64 0, .int .i64 0]) false), (11, .var (.pair (.opq 0) (.pair (.opq 0) .unit)) (.agg [.con (.pointer none), .ptr 10 []]) false)], none⟩
def L07_RingsNobody_Q3 (x3 : Int) : St :=
  ⟨[(0, .int .i64 x3), (4, .con (.pointer none)), (5, .int .i64 0), (6, .int .i64 2), (7, .int .i64 0), (8, .int .i64 2), (11, .vsl 11 2), (12, .int .i64 2), (13, .int .i64 0), (29, .tup [])], [(10, .var (.pair .bool (.pair (.sl (.int .i64)) (.pair (.int .i64) (.pair (.int .i64) .unit)))) (.agg [.bool false, .con (.slice none 0 0), .int .i64 0, .int .i64 0]) false), (11, .var (.pair (.opq 0) (.pair (.opq 0) .unit)) (.agg [.con (.pointer none), .ptr 10 []]) false)], none⟩
def L07_RingsNobody_Q4 (x4 : Int) : St :=
  ⟨[(0, .int .i64 x4), (4, .con (.pointer none)), (5, .int .i64 0), (6, .int .i64 2), (7, .int .i64 0), (8, .int .i64 2), (11, .vsl 11 2), (12, .int .i64 2), (13, .int .i64 0), (32, .int .i64 2), (33, .dead), (34, .dead), (35, .dead), (36, .dead), (37, .dead), (38, .dead), (39, .dead), (40, .dead), (41, .dead), (42, .dead), (43, .dead), (44, .dead), (45, .dead), (46, .dead), (47, .dead), (48, .dead), (49, .dead), (50, .dead), (51, .dead), (52, .dead), (53, .dead), (54, .dead), (55, .dead), (56, .dead), (57, .dead), (58, .dead), (59, .dead), (60, .dead), (61, .dead)], [(10, .var (.pair .bool (.pair (.sl (.int .i64)) (.pair (.int .i64) (.pair (.int .i64) .unit)))) (.agg [.bool false, .con (.slice none 0 0), .int .i64 0, .int .i64 0]) false), (11, .var (.pair (.opq 0) (.pair (.opq 0) .unit)) (.agg [.con (.pointer none), .ptr 10 []]) false)], none⟩
def L07_RingsNobody_Q5 (x5 : Int) : St :=
  ⟨[(0, .int .i64 x5), (4, .con (.pointer none)), (11, .vsl 11 2), (12, .int .i64 2), (13, .int .i64 0), (50, .bool false), (52, .int .i64 0), (53, .dead), (54, .dead), (55, .dead), (56, .dead), (57, .dead), (58, .dead), (59, .dead), (60, .dead), (61, .dead)], [(10, .var (.pair .bool (.pair (.sl (.int .i64)) (.pair (.int .i64) (.pair (.int .i64) .unit)))) (.agg [.bool false, .con (.slice none 0 0), .int .i64 0, .int .i64 0]) false), (11, .var (.pair (.opq 0) (.pair (.opq 0) .unit)) (.agg [.con (.pointer none), .ptr 10 []]) false)], none⟩
def L07_RingsNobody_Q6 (x6 : Int) : St :=
  ⟨[(0, .int .i64 x6), (4, .con (.pointer none)), (11, .vsl 11 2), (12, .int .i64 2), (13, .int .i64 0), (50, .bool false), (52, .int .i64 0), (54, .int .i64 0), (55, .dead), (56, .dead), (57, .dead), (58, .dead), (59, .dead), (60, .dead), (61, .dead)], [(10, .var (.pair .bool (.pair (.sl (.int .i64)) (.pair (.int .i64) (.pair (.int .i64) .unit)))) (.agg [.bool false, .con (.slice none 0 0), .int .i64 0, .int .i64 0]) false), (11, .var (.pair (.opq 0) (.pair (.opq 0) .unit)) (.agg [.con (.pointer none), .ptr 10 []]) false)], none⟩
def L07_RingsNobody_Q7 (x7 : Int) : St :=
  ⟨[(0, .int .i64 x7), (11, .vsl 11 2), (12, .int .i64 2), (13, .int .i64 0), (50, .bool false), (55, .int .i64 0), (57, .con (.slice none 0 0)), (58, .dead), (59, .dead), (60, .dead), (61, .dead)], [(10, .var (.pair .bool (.pair (.sl (.int .i64)) (.pair (.int .i64) (.pair (.int .i64) .unit)))) (.agg [.bool false, .con (.slice none 0 0), .int .i64 0, .int .i64 0]) false), (11, .var (.pair (.opq 0) (.pair (.opq 0) .unit)) (.agg [.con (.pointer none), .ptr 10 []]) false)], none⟩
def L07_RingsNobody_Q8 (x8 : Int) : St :=
  ⟨[(0, .int .i64 x8), (4, .ptr 10 []), (5, .dead), (6, .dead), (11, .vsl 11 2), (12, .int .i64 2), (13, .int .i64 1), (17, .dead), (19, .tup [.int .i64 0, .int .i64 2]), (20, .dead), (21, .dead)], [(10, .var (.pair .bool (.pair (.sl (.int .i64)) (.pair (.int .i64) (.pair (.int .i64) .unit)))) (.agg [.bool false, .con (.slice none 0 0), .int .i64 0, .int .i64 0]) false), (11, .var (.pair (.opq 0) (.pair (.opq 0) .unit)) (.agg [.con (.pointer none), .ptr 10 []]) false)], none⟩
def L07_RingsNobody_Q9 (x9 : Int) : St :=
  ⟨[(0, .int .i64 x9), (4, .ptr 10 []), (5, .int .i64 0), (6, .int .i64 2), (7, .dead), (8, .dead), (11, .vsl 11 2), (12, .int .i64 2), (13, .int .i64 1), (22, .dead), (25, .tup [.int .i64 0, .int .i64 2]), (26, .dead), (27, .dead)], [(10, .var (.pair .bool (.pair (.sl (.int .i64)) (.pair (.int .i64) (.pair (.int .i64) .unit)))) (.agg [.bool false, .con (.slice none 0 0), .int .i64 0, .int .i64 0]) false), (11, .var (.pair (.opq 0) (.pair (.opq 0) .unit)) (.agg [.con (.pointer none), .ptr 10 []]) false)], none⟩
def L07_RingsNobody_Q10 (x10 : Int) : St :=
  ⟨[(0, .int .i64 x10), (4, .ptr 10 []), (5, .int .i64 0), (6, .int .i64 2), (7, .int .i64 0), (8, .int .i64 2), (11, .vsl 11 2), (12, .int .i64 2), (13, .int .i64 1), (29, .tup [])], [(10, .var (.pair .bool (.pair (.sl (.int .i64)) (.pair (.int .i64) (.pair (.int .i64) .unit)))) (.agg [.bool false, .con (.slice none 0 0), .int .i64 0, .int .i64 0]) false), (11, .var (.pair (.opq 0) (.pair (.opq 0) .unit)) (.agg [.con (.pointer none), .ptr 10 []]) false)], none⟩
def L07_RingsNobody_Q11 (x11 : Int) : St :=
  ⟨[(0, .int .i64 x11), (4, .ptr 10 []), (5, .int .i64 0), (6, .int .i64 2), (7, .int .i64 0), (8, .int .i64 2), (11, .vsl 11 2), (12, .int .i64 2), (13, .int .i64 1), (32, .int .i64 2), (33, .dead), (34, .dead), (35, .dead), (36, .dead), (37, .dead), (38, .dead), (39, .dead), (40, .dead), (41, .dead), (42, .dead), (43, .dead), (44, .dead), (45, .dead), (46, .dead), (47, .dead), (48, .dead), (49, .dead), (50, .dead), (51, .dead), (52, .dead), (53, .dead), (54, .dead), (55, .dead), (56, .dead), (57, .dead), (58, .dead), (59, .dead), (60, .dead), (61, .dead)], [(10, .var (.pair .bool (.pair (.sl (.int .i64)) (.pair (.int .i64) (.pair (.int .i64) .unit)))) (.agg [.bool false, .con (.slice none 0 0), .int .i64 0, .int .i64 0]) false), (11, .var (.pair (.opq 0) (.pair (.opq 0) .unit)) (.agg [.con (.pointer none), .ptr 10 []]) false)], none⟩
def L07_RingsNobody_Q12 (x12 : Int) : St :=
  ⟨[(0, .int .i64 x12), (4, .ptr 10 []), (11, .vsl 11 2), (12, .int .i64 2), (13, .int .i64 1), (50, .bool false), (52, .int .i64 0), (53, .dead), (54, .dead), (55, .dead), (56, .dead), (57, .dead), (58, .dead), (59, .dead), (60, .dead), (61, .dead)], [(10, .var (.pair .bool (.pair (.sl (.int .i64)) (.pair (.int .i64) (.pair (.int .i64) .unit)))) (.agg [.bool false, .con (.slice none 0 0), .int .i64 0, .int .i64 0]) false), (11, .var (.pair (.opq 0) (.pair (.opq 0) .unit)) (.agg [.con (.pointer none), .ptr 10 []]) false)], none⟩
def L07_RingsNobody_Q13 (x13 : Int) : St :=
  ⟨[(0, .int .i64 x13), (4, .ptr 10 []), (11, .vsl 11 2), (12, .int .i64 2), (13, .int .i64 1), (50, .bool false), (52, .int .i64 0), (54, .int .i64 0), (55, .dead), (56, .dead), (57, .dead), (58, .dead), (59, .dead), (60, .dead), (61, .dead)], [(10, .var (.pair .bool (.pair (.sl (.int .i64)) (.pair (.int .i64) (.pair (.int .i64) .unit)))) (.agg [.bool false, .con (.slice none 0 0), .int .i64 0, .int .i64 0]) false), (11, .var (.pair (.opq 0) (.pair (.opq 0) .unit)) (.agg [.con (.pointer none), .ptr 10 []]) false)], none⟩
def L07_RingsNobody_Q14 (x14 : Int) : St :=
  ⟨[(0, .int .i64 x14), (11, .vsl 11 2), (12, .int .i64 2), (13, .int .i64 1), (50, .bool false), (55, .int .i64 0), (57, .con (.slice none 0 0)), (58, .dead), (59, .dead), (60, .dead), (61, .dead)], [(10, .var (.pair .bool (.pair (.sl (.int .i64)) (.pair (.int .i64) (.pair (.int .i64) .unit)))) (.agg [.bool false, .con (.slice none 0 0), .int .i64 0, .int .i64 0]) false), (11, .var (.pair (.opq 0) (.pair (.opq 0) .unit)) (.agg [.con (.pointer none), .ptr 10 []]) false)], none⟩
def kp_L07_RingsNobody : List (Nat × List Nat) := [(0, [0]), (1, [0, 11, 12, 13]), (2, [0, 11, 12, 13, 14]), (3, [0, 4, 11, 12, 13]), (4, [0, 4, 5, 6, 11, 12, 13]), (5, [0, 4, 5, 6, 7, 8, 11, 12, 13]), (6, [0, 4, 5, 6, 7, 8, 11, 12, 13]), (7, [0, 11, 12, 13, 61]), (8, [2]), (9, [0, 11, 12, 13]), (10, [2]), (25000019, []), (20000019, [0, 4, 5, 6, 11, 12, 13, 17, 19, 20, 21]), (25000025, []), (20000025, [0, 4, 5, 6, 7, 8, 11, 12, 13, 22, 25, 26, 27]), (25000029, []), (20000029, [0, 4, 5, 6, 7, 8, 11, 12, 13, 29]), (25000032, []), (20000032, [0, 4, 5, 6, 7, 8, 11, 12, 13, 32, 33, 34, 35, 36, 37, 38, 39, 40, 41, 42, 43, 44, 45, 46, 47, 48, 49, 50, 51, 52, 53, 54, 55, 56, 57, 58, 59, 60, 61]), (25000052, []), (20000052, [0, 4, 11, 12, 13, 50, 52, 53, 54, 55, 56, 57, 58, 59, 60, 61]), (25000054, []), (20000054, [0, 4, 11, 12, 13, 50, 52, 54, 55, 56, 57, 58, 59, 60, 61]), (25000057, []), (20000057, [0, 11, 12, 13, 50, 55, 57, 58, 59, 60, 61]), (24000019, [10, 11]), (26000019, []), (24000025, [10, 11]), (26000025, []), (24000029, [10, 11]), (26000029, []), (24000032, [10, 11]), (26000032, []), (24000052, [10, 11]), (26000052, []), (24000054, [10, 11]), (26000054, []), (24000057, [10, 11]), (26000057, []), (4000000, []), (4000001, [10, 11]), (4000002, [10, 11]), (4000003, [10, 11]), (4000004, [10, 11]), (4000005, [10, 11]), (4000006, [10, 11]), (4000007, [10, 11]), (4000009, [10, 11]), (4000010, [])]
def od_L07_RingsNobody : List (Nat × Ord) := []
noncomputable def E_L07_RingsNobody (fns : List (Nat × (List AV → Option AV))) : Env := ⟨0, 0, et_L07_RingsNobody, tt_L07_RingsNobody, fns, (pr_L07_RingsNobody_36 fns), od_L07_RingsNobody, kp_L07_RingsNobody, none, []⟩
set_option maxRecDepth 100000 in
set_option maxHeartbeats 40000000 in
theorem c_L07_RingsNobody : PCon Go.Proofs.Try.prog 8 lf_L07_RingsNobody := by
  obtain ⟨G24, hG24, cG24⟩ : ∃ G : (.unit : Ty).den → Option Bool, (∀ x, G x = L07_alive) ∧ PCon Go.Proofs.Try.prog 24 (liftF .unit (unpack .bool) G) := ⟨_, fun _ => rfl, c_L07_alive⟩
  obtain ⟨fns, hfns, hf⟩ : ∃ fns, fns = [(24, liftF .unit (unpack .bool) G24)] ∧ FnsOk Go.Proofs.Try.prog fns := ⟨_, rfl, FnsOk.cons cG24 (FnsOk.nil _)⟩
  refine lift_con (E := E_L07_RingsNobody fns) (c := bodyOf Try.f8) (nt := 64) (rs := [.tmp 2]) (ts := [4]) (EnvC.sub tt_ok et_ok hf (pr_L07_RingsNobody_36_ok hf) (ItsOk.nil _) tt_L07_RingsNobody_ok et_L07_RingsNobody_ok) (PrOk.of mixed_ok) Go.Proofs.Try.func8 rfl (by decide) rfl rfl rfl (pureR_one (e := .bool) rfl) ?_
  subst hfns
  intro x r hw hs
  repeat'
    (try (conv => whnf)
     first
       | (with_reducible have hs := letv_out hs)
       | (refine draw_and (by kernel_rfl) ?_)
       | (refine both_mk ?_ ?_)
       | (refine br_bool (fun h => ?_) (fun h => ?_) <;> first | have hs := cT h hs | have hs := cF h hs)
       | (refine bind_elim hs fun v hb hs => ?_; first | refine callK_liftG hG24 rfl hb ?_)
       | refine chk_elim hs fun hs => ?_
       | (have hs := letv_out hs)
       | exact fin_some hs rfl
       | (intro b hb; first | have hs := nilq_elim hs b hb | have hs := nilqn_elim hs b hb)
       | exact hC1 _ hs
       | exact hC2 _ hs
       | exact hC3 _ hs
       | exact hC4 _ hs
       | exact hC5 _ hs
       | exact hC6 _ hs
       | exact hC7 _ hs
       | exact hC8 _ hs
       | exact hC9 _ hs
       | exact hC10 _ hs
       | exact hC11 _ hs
       | exact hC12 _ hs
       | exact hC13 _ hs
       | exact hC14 _ hs
       | (refine cut_out 1 L07_RingsNobody_Q1 hs (fun Jc1 kc1 hC1 hs => ?_) (fun xc1 hs => ?_))
       | (refine cut_out 2 L07_RingsNobody_Q2 hs (fun Jc2 kc2 hC2 hs => ?_) (fun xc2 hs => ?_))
       | (refine cut_out 3 L07_RingsNobody_Q3 hs (fun Jc3 kc3 hC3 hs => ?_) (fun xc3 hs => ?_))
       | (refine cut_out 4 L07_RingsNobody_Q4 hs (fun Jc4 kc4 hC4 hs => ?_) (fun xc4 hs => ?_))
       | (refine cut_out 5 L07_RingsNobody_Q5 hs (fun Jc5 kc5 hC5 hs => ?_) (fun xc5 hs => ?_))
       | (refine cut_out 6 L07_RingsNobody_Q6 hs (fun Jc6 kc6 hC6 hs => ?_) (fun xc6 hs => ?_))
       | (refine cut_out 7 L07_RingsNobody_Q7 hs (fun Jc7 kc7 hC7 hs => ?_) (fun xc7 hs => ?_))
       | (refine cut_out 8 L07_RingsNobody_Q8 hs (fun Jc8 kc8 hC8 hs => ?_) (fun xc8 hs => ?_))
       | (refine cut_out 9 L07_RingsNobody_Q9 hs (fun Jc9 kc9 hC9 hs => ?_) (fun xc9 hs => ?_))
       | (refine cut_out 10 L07_RingsNobody_Q10 hs (fun Jc10 kc10 hC10 hs => ?_) (fun xc10 hs => ?_))
       | (refine cut_out 11 L07_RingsNobody_Q11 hs (fun Jc11 kc11 hC11 hs => ?_) (fun xc11 hs => ?_))
       | (refine cut_out 12 L07_RingsNobody_Q12 hs (fun Jc12 kc12 hC12 hs => ?_) (fun xc12 hs => ?_))
       | (refine cut_out 13 L07_RingsNobody_Q13 hs (fun Jc13 kc13 hC13 hs => ?_) (fun xc13 hs => ?_))
       | (refine cut_out 14 L07_RingsNobody_Q14 hs (fun Jc14 kc14 hC14 hs => ?_) (fun xc14 hs => ?_))
       | (have hs := cT rfl hs)
       | (have hs := cF rfl hs)
       | (refine vc_unr 17 ?_)
       | exact (none_ne hs).elim)
end Go.Proofs.YtoihmfgkmndjfaaV
namespace Go.Proofs.Ytoihmfgkmndjfaa.ringsNobody
open Go.ChangeShapes Go.WideShapes Go.ChangeAt Go.RowKit Go.Proofs.YtoihmfgkmndjfaaV
set_option linter.unusedVariables false
theorem own : ownKnob Try.prog.godebug = none := by kernel_rfl
set_option maxRecDepth 100000 in
theorem lifted (os : Os) (started : os.Started) (H : Type) (enc : TypeId × Value → H) :
    ReturnsInHanded {} Try.checked os 8 .any (Rows.ringsNobodySpec.pre6 enc Try.prog Try.f8 Rows.ringsNobodyRow.domain false) (Rows.ringsNobodySpec.post enc Try.prog Try.f8 false true false false) := by
  refine returnsInHanded_of_change_sized (C := Try.checked) own started (by kernel_rfl) Try.func8
    (ChangeSpec.witness6 (enc := enc) (C := Try.checked) false ⟨#[], #[.int .i64 0], []⟩ 12 (by kernel_rfl) (by kernel_rfl) (by kernel_rfl) (by kernel_rfl)) ?_
  intro W base args ds gs before hval0 hW hcnd hsz0 _
  refine row_of (C := Try.checked) (s := Rows.ringsNobodySpec) (c := bodyOf Try.f8) (tr := 4) c_L07_RingsNobody Try.func8 rfl (by decide) (by kernel_rfl) (by kernel_rfl) (by kernel_rfl) rfl Try.underlying4 rfl ?_ law_L07_RingsNobody rfl W base args ds gs before hval0 hW hsz0
  intro ds hl
  match ds, hl with
  | [d1], _ => exact ⟨rfl, rfl, rfl⟩
theorem over : Rows.ringsNobodyRow.holds Try.pinned (OpenSpec.ofChange Rows.ringsNobodySpec) :=
  OpenClaim.holds_of_wide 8 Try.f8 rfl rfl rfl rfl rfl rfl rfl ⟨rfl, rfl, rfl, rfl, rfl⟩ rfl rfl rfl rfl rfl (by kernel_rfl) Try.func8 (by kernel_rfl)
    (of_decide_eq_true (by kernel_rfl)) (by unfold Func.isWrapper; first | (rw [if_pos (by decide +kernel)]; kernel_rfl) | (rw [if_neg (by decide +kernel)]; exact ⟨rfl, rfl⟩))
    (fun os started H enc _ => lifted os started H enc)
end Go.Proofs.Ytoihmfgkmndjfaa.ringsNobody
namespace Go.Proofs.Ytoihmfgkmndjfaa
/-- The row, under a short name, for the claim. -/
theorem ringsNobody_holds : Rows.RingsNobodySaid := ringsNobody.over
end Go.Proofs.Ytoihmfgkmndjfaa
