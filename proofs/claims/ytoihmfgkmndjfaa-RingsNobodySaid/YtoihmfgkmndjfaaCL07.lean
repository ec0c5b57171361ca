import Derived.Test.YtoihmfgkmndjfaaVcTab
import Derived.Test.YtoihmfgkmndjfaaDL07
namespace Go.Proofs.YtoihmfgkmndjfaaV
open Go.Proofs
set_option linter.unusedVariables false
noncomputable def lf_L07_alive : List AV → Option AV := liftF .unit (unpack .bool) (fun x => L07_alive)
def tt_L07_alive : List (Nat × Ty) := [(3, .int .i64), (4, .bool), (22, .sl (.int .i64)), (27, .int .i64), (42, .opq 0), (65, .pair .bool (.pair (.sl (.int .i64)) (.pair (.int .i64) (.pair (.int .i64) .unit))))]
def et_L07_alive : List (Nat × Nat) := [(22, 3)]
theorem tt_L07_alive_ok : subT tt tt_L07_alive = true := by kernel_rfl
theorem et_L07_alive_ok : subE et et_L07_alive = true := by kernel_rfl
def kp_L07_alive_23 : List (Nat × List Nat) := [(0, [0]), (1, [0, 9]), (2, [2, 3]), (3, [2, 3])]
def od_L07_alive_23 : List (Nat × Ord) := []
noncomputable def pr_L07_alive_23 (fns : List (Nat × (List AV → Option AV))) : List (Nat × Proc) := (23, procOf ⟨0, 0, et_L07_alive, tt_L07_alive, fns, [], od_L07_alive_23, kp_L07_alive_23, none, []⟩ 14 [.tmp 2, .tmp 3] (bodyOf Try.f23)) :: []
theorem pr_L07_alive_23_ok {fns : List (Nat × (List AV → Option AV))} (hf : FnsOk Go.Proofs.Try.prog fns) : PrsOk Go.Proofs.Try.prog (pr_L07_alive_23 fns) :=
  PrsOk.cons (proc_con (EnvC.sub (yl := none) tt_ok et_ok hf (PrsOk.nil _) (ItsOk.nil _) tt_L07_alive_ok et_L07_alive_ok) (PrOk.of mixed_ok) Go.Proofs.Try.func23 rfl (by decide) rfl rfl) (PrsOk.nil _)
def kp_L07_alive_69 : List (Nat × List Nat) := [(0, [0]), (1, [2])]
def od_L07_alive_69 : List (Nat × Ord) := []
noncomputable def pr_L07_alive_69 (fns : List (Nat × (List AV → Option AV))) : List (Nat × Proc) := (69, procOf ⟨0, 0, et_L07_alive, tt_L07_alive, fns, (pr_L07_alive_23 fns), od_L07_alive_69, kp_L07_alive_69, none, []⟩ 11 [.tmp 2] (bodyOf Try.f69)) :: (pr_L07_alive_23 fns)
theorem pr_L07_alive_69_ok {fns : List (Nat × (List AV → Option AV))} (hf : FnsOk Go.Proofs.Try.prog fns) : PrsOk Go.Proofs.Try.prog (pr_L07_alive_69 fns) :=
  PrsOk.cons (proc_con (EnvC.sub (yl := none) tt_ok et_ok hf (pr_L07_alive_23_ok hf) (ItsOk.nil _) tt_L07_alive_ok et_L07_alive_ok) (PrOk.of mixed_ok) Go.Proofs.Try.func69 rfl (by decide) rfl rfl) (pr_L07_alive_23_ok hf)
def kp_L07_alive_70 : List (Nat × List Nat) := [(0, [0, 1]), (1, [4])]
def od_L07_alive_70 : List (Nat × Ord) := [(1, (.one 0 (.one 1 (.one 2 (.one 3 (.one 4 (.one 5 (.one 6 (.one 7 (.one 8 (.one 9 (.one 10 (.one 11 (.one 12 .nil))))))))))))))]
noncomputable def pr_L07_alive_70 (fns : List (Nat × (List AV → Option AV))) : List (Nat × Proc) := (70, procOf ⟨0, 0, et_L07_alive, tt_L07_alive, fns, (pr_L07_alive_69 fns), od_L07_alive_70, kp_L07_alive_70, none, []⟩ 17 [.tmp 4] (bodyOf Try.f70)) :: (pr_L07_alive_69 fns)
theorem pr_L07_alive_70_ok {fns : List (Nat × (List AV → Option AV))} (hf : FnsOk Go.Proofs.Try.prog fns) : PrsOk Go.Proofs.Try.prog (pr_L07_alive_70 fns) :=
  PrsOk.cons (proc_con (EnvC.sub (yl := none) tt_ok et_ok hf (pr_L07_alive_69_ok hf) (ItsOk.nil _) tt_L07_alive_ok et_L07_alive_ok) (PrOk.of mixed_ok) Go.Proofs.Try.func70 rfl (by decide) rfl rfl) (pr_L07_alive_69_ok hf)
def kp_L07_alive_25 : List (Nat × List Nat) := [(0, [0, 1]), (1, [0, 1, 5]), (2, [4]), (3, [0, 1, 9]), (4, [4]), (5, [0]), (6, []), (7, [4]), (5000005, []), (2355204000005, [13323, 13325]), (2355206000005, []), (2560004000005, [13323, 13325]), (2560006000005, [])]
def od_L07_alive_25 : List (Nat × Ord) := [(3, (.one 0 (.one 1 (.one 2 (.one 3 (.one 4 (.one 5 (.one 6 (.one 7 (.one 8 (.one 9 (.one 10 .nil)))))))))))), (5, (.one 0 (.one 1 (.one 2 (.one 4 (.one 5 (.one 6 (.one 7 (.one 10 (.alt (.cons 3 (.one 200008 (.one 200009 (.one 11 (.one 200012 .nil)))) (.cons 8 (.alt (.cons 3 (.one 200009 (.one 11 (.one 200012 .nil))) (.cons 9 (.one 200003 (.one 11 (.one 200012 .nil))) .nil))) .nil))))))))))))]
noncomputable def pr_L07_alive_25 (fns : List (Nat × (List AV → Option AV))) : List (Nat × Proc) := (25, procOf ⟨0, 0, et_L07_alive, tt_L07_alive, fns, (pr_L07_alive_70 fns), od_L07_alive_25, kp_L07_alive_25, none, []⟩ 39 [.tmp 4] (bodyOf Try.f25)) :: (pr_L07_alive_70 fns)
theorem pr_L07_alive_25_ok {fns : List (Nat × (List AV → Option AV))} (hf : FnsOk Go.Proofs.Try.prog fns) : PrsOk Go.Proofs.Try.prog (pr_L07_alive_25 fns) :=
  PrsOk.cons (proc_con (EnvC.sub (yl := none) tt_ok et_ok hf (pr_L07_alive_70_ok hf) (ItsOk.nil _) tt_L07_alive_ok et_L07_alive_ok) (PrOk.of mixed_ok) Go.Proofs.Try.func25 rfl (by decide) rfl rfl) (pr_L07_alive_70_ok hf)
def kp_L07_alive_26 : List (Nat × List Nat) := [(0, [0]), (1, [0, 4]), (2, [0, 4, 6]), (3, [2, 3]), (4, [0, 4, 11]), (5, [2, 3]), (6, [0, 4, 5]), (7, [0, 5]), (8, [0, 5]), (9, [5]), (10, [2, 3])]
def od_L07_alive_26 : List (Nat × Ord) := [(6, (.one 0 (.one 1 (.one 2 (.one 3 (.one 4 (.one 5 (.one 6 (.one 7 (.one 8 (.one 9 (.one 10 .nil)))))))))))), (7, (.one 0 (.one 1 (.one 2 (.one 3 (.one 4 (.one 5 (.one 6 (.one 7 (.one 8 (.one 9 (.one 100010 .nil))))))))))))]
noncomputable def pr_L07_alive_26 (fns : List (Nat × (List AV → Option AV))) : List (Nat × Proc) := (26, procOf ⟨0, 0, et_L07_alive, tt_L07_alive, fns, (pr_L07_alive_25 fns), od_L07_alive_26, kp_L07_alive_26, none, []⟩ 51 [.tmp 2, .tmp 3] (bodyOf Try.f26)) :: (pr_L07_alive_25 fns)
theorem pr_L07_alive_26_ok {fns : List (Nat × (List AV → Option AV))} (hf : FnsOk Go.Proofs.Try.prog fns) : PrsOk Go.Proofs.Try.prog (pr_L07_alive_26 fns) :=
  PrsOk.cons (proc_con (EnvC.sub (yl := none) tt_ok et_ok hf (pr_L07_alive_25_ok hf) (ItsOk.nil _) tt_L07_alive_ok et_L07_alive_ok) (PrOk.of mixed_ok) Go.Proofs.Try.func26 rfl (by decide) rfl rfl) (pr_L07_alive_25_ok hf)
def kp_L07_alive_27 : List (Nat × List Nat) := [(0, [0]), (1, [0, 5]), (2, [2]), (3, [2])]
def od_L07_alive_27 : List (Nat × Ord) := []
noncomputable def pr_L07_alive_27 (fns : List (Nat × (List AV → Option AV))) : List (Nat × Proc) := (27, procOf ⟨0, 0, et_L07_alive, tt_L07_alive, fns, (pr_L07_alive_26 fns), od_L07_alive_27, kp_L07_alive_27, none, []⟩ 10 [.tmp 2] (bodyOf Try.f27)) :: (pr_L07_alive_26 fns)
theorem pr_L07_alive_27_ok {fns : List (Nat × (List AV → Option AV))} (hf : FnsOk Go.Proofs.Try.prog fns) : PrsOk Go.Proofs.Try.prog (pr_L07_alive_27 fns) :=
  PrsOk.cons (proc_con (EnvC.sub (yl := none) tt_ok et_ok hf (pr_L07_alive_26_ok hf) (ItsOk.nil _) tt_L07_alive_ok et_L07_alive_ok) (PrOk.of mixed_ok) Go.Proofs.Try.func27 rfl (by decide) rfl rfl) (pr_L07_alive_26_ok hf)
def kp_L07_alive_28 : List (Nat × List Nat) := [(0, [0]), (1, [0, 5]), (2, [2]), (3, [2])]
def od_L07_alive_28 : List (Nat × Ord) := []
noncomputable def pr_L07_alive_28 (fns : List (Nat × (List AV → Option AV))) : List (Nat × Proc) := (28, procOf ⟨0, 0, et_L07_alive, tt_L07_alive, fns, (pr_L07_alive_27 fns), od_L07_alive_28, kp_L07_alive_28, none, []⟩ 11 [.tmp 2] (bodyOf Try.f28)) :: (pr_L07_alive_27 fns)
theorem pr_L07_alive_28_ok {fns : List (Nat × (List AV → Option AV))} (hf : FnsOk Go.Proofs.Try.prog fns) : PrsOk Go.Proofs.Try.prog (pr_L07_alive_28 fns) :=
  PrsOk.cons (proc_con (EnvC.sub (yl := none) tt_ok et_ok hf (pr_L07_alive_27_ok hf) (ItsOk.nil _) tt_L07_alive_ok et_L07_alive_ok) (PrOk.of mixed_ok) Go.Proofs.Try.func28 rfl (by decide) rfl rfl) (pr_L07_alive_27_ok hf)
def kp_L07_alive_33 : List (Nat × List Nat) := [(0, [0, 1]), (1, [0, 1, 6]), (2, [0, 1, 6, 7]), (3, [4, 5]), (4, [0, 1, 6, 12]), (5, [4, 5]), (6, [4, 5]), (5000006, []), (2867204000006, [13323, 13325]), (2867206000006, [])]
def od_L07_alive_33 : List (Nat × Ord) := [(6, (.one 0 (.one 1 (.one 2 (.one 4 (.one 5 (.alt (.cons 3 (.one 200006 (.one 7 (.one 200008 (.one 9 (.one 10 .nil))))) (.cons 6 (.one 200003 (.one 7 (.one 200008 (.one 9 (.one 10 .nil))))) .nil)))))))))]
noncomputable def pr_L07_alive_33 (fns : List (Nat × (List AV → Option AV))) : List (Nat × Proc) := (33, procOf ⟨0, 0, et_L07_alive, tt_L07_alive, fns, (pr_L07_alive_28 fns), od_L07_alive_33, kp_L07_alive_33, none, []⟩ 33 [.tmp 4, .tmp 5] (bodyOf Try.f33)) :: (pr_L07_alive_28 fns)
theorem pr_L07_alive_33_ok {fns : List (Nat × (List AV → Option AV))} (hf : FnsOk Go.Proofs.Try.prog fns) : PrsOk Go.Proofs.Try.prog (pr_L07_alive_33 fns) :=
  PrsOk.cons (proc_con (EnvC.sub (yl := none) tt_ok et_ok hf (pr_L07_alive_28_ok hf) (ItsOk.nil _) tt_L07_alive_ok et_L07_alive_ok) (PrOk.of mixed_ok) Go.Proofs.Try.func33 rfl (by decide) rfl rfl) (pr_L07_alive_28_ok hf)
def kp_L07_alive_36 : List (Nat × List Nat) := [(0, [0]), (1, [0, 15]), (2, [2]), (3, [0, 3]), (4, [0, 4]), (5, [0, 4, 5]), (6, [2]), (5000004, []), (5000006, []), (8089604000004, [13323, 13325]), (8089606000004, []), (8089604000006, [13323, 13325, 80939]), (8089606000006, [80939])]
def od_L07_alive_36 : List (Nat × Ord) := [(3, (.one 0 (.one 1 (.one 2 (.one 3 (.one 4 (.one 5 (.one 6 (.one 7 (.one 8 (.one 9 (.one 10 (.one 11 (.one 12 (.one 13 (.one 14 (.one 15 .nil))))))))))))))))), (4, (.one 0 (.one 1 (.one 2 (.one 4 (.one 5 (.one 6 (.one 8 (.one 9 (.alt (.cons 3 (.one 200007 (.one 200010 (.one 11 .nil))) (.cons 7 (.one 200003 (.one 200010 (.one 11 .nil))) .nil)))))))))))), (6, (.one 0 (.one 1 (.one 2 (.one 3 (.one 5 (.one 6 (.one 7 (.one 9 (.one 10 (.alt (.cons 4 (.one 200008 (.one 11 (.one 200012 (.one 200013 (.one 14 .nil))))) (.cons 8 (.one 11 (.one 200004 (.one 200012 (.one 200013 (.one 14 .nil))))) .nil)))))))))))))]
noncomputable def pr_L07_alive_36 (fns : List (Nat × (List AV → Option AV))) : List (Nat × Proc) := (36, procOf ⟨0, 0, et_L07_alive, tt_L07_alive, fns, (pr_L07_alive_33 fns), od_L07_alive_36, kp_L07_alive_36, none, []⟩ 58 [.tmp 2] (bodyOf Try.f36)) :: (pr_L07_alive_33 fns)
theorem pr_L07_alive_36_ok {fns : List (Nat × (List AV → Option AV))} (hf : FnsOk Go.Proofs.Try.prog fns) : PrsOk Go.Proofs.Try.prog (pr_L07_alive_36 fns) :=
  PrsOk.cons (proc_con (EnvC.sub (yl := none) tt_ok et_ok hf (pr_L07_alive_33_ok hf) (ItsOk.nil _) tt_L07_alive_ok et_L07_alive_ok) (PrOk.of mixed_ok) Go.Proofs.Try.func36 rfl (by decide) rfl rfl) (pr_L07_alive_33_ok hf)
def L07_alive_Q1 (x1 : List Int) : St :=
  ⟨[(1, .dead), (2, .dead), (11, .dead), (12, .tup [.ptr 13325 [], .int .i64 0]), (13, .dead), (14, .dead)], [(13323, .row 3 (.int .i64) x1 false), (13325, .var (.pair .bool (.pair (.sl (.int .i64)) (.pair (.int .i64) (.pair (.int .i64) .unit)))) (.agg [.bool true, .own 13323, .int .i64 0, .int .i64 0]) false)], none⟩
def L07_alive_Q2 (x3 : List Int) : St :=
  ⟨[(0, .ptr 13325 [])], [(13323, .row 3 (.int .i64) x3 false), (13325, .var (.pair .bool (.pair (.sl (.int .i64)) (.pair (.int .i64) (.pair (.int .i64) .unit)))) (.agg [.bool true, .own 13323, .int .i64 0, .int .i64 0]) false)], (some ([], 0))⟩
def L07_alive_Q3 (x2 : Int × List Int × Int) : St :=
  ⟨[(1, .ptr 13325 []), (3, .dead), (4, .dead), (22, .int .i64 x2.1), (23, .dead), (24, .dead)], [(13323, .row 3 (.int .i64) x2.2.1 false), (13325, .var (.pair .bool (.pair (.sl (.int .i64)) (.pair (.int .i64) (.pair (.int .i64) .unit)))) (.agg [.bool true, .own 13323, .int .i64 0, .int .i64 x2.2.2]) false)], none⟩
def L07_alive_Q4 (x5 : List Int × Int) : St :=
  ⟨[(0, .ptr 13325 [])], [(13323, .row 3 (.int .i64) x5.1 false), (13325, .var (.pair .bool (.pair (.sl (.int .i64)) (.pair (.int .i64) (.pair (.int .i64) .unit)))) (.agg [.bool true, .own 13323, .int .i64 0, .int .i64 x5.2]) false)], (some ([], 0))⟩
def L07_alive_Q5 (x4 : Int × Int × List Int × Int) : St :=
  ⟨[(1, .ptr 13325 []), (3, .dead), (4, .dead), (22, .int .i64 x4.1), (24, .int .i64 x4.2.1)], [(13323, .row 3 (.int .i64) x4.2.2.1 false), (13325, .var (.pair .bool (.pair (.sl (.int .i64)) (.pair (.int .i64) (.pair (.int .i64) .unit)))) (.agg [.bool true, .own 13323, .int .i64 0, .int .i64 x4.2.2.2]) false)], none⟩
def L07_alive_Q6 (x7 : Int × List Int × Int) : St :=
  ⟨[(4, .int .i64 x7.1), (5, .int .i64 0)], [(13323, .row 3 (.int .i64) x7.2.1 false), (13325, .var (.pair .bool (.pair (.sl (.int .i64)) (.pair (.int .i64) (.pair (.int .i64) .unit)))) (.agg [.bool true, .own 13323, .int .i64 0, .int .i64 x7.2.2]) false)], (some ([], 0))⟩
def L07_alive_Q7 (x6 : Int × Int × Int × Int × List Int × Int) : St :=
  ⟨[(1, .ptr 13325 []), (3, .int .i64 x6.1), (4, .int .i64 x6.2.1), (5, .dead), (6, .dead), (25, .dead), (27, .tup [.int .i64 x6.2.2.1, .int .i64 x6.2.2.2.1]), (28, .dead), (29, .dead)], [(13323, .row 3 (.int .i64) x6.2.2.2.2.1 false), (13325, .var (.pair .bool (.pair (.sl (.int .i64)) (.pair (.int .i64) (.pair (.int .i64) .unit)))) (.agg [.bool true, .own 13323, .int .i64 0, .int .i64 x6.2.2.2.2.2]) false)], none⟩
def L07_alive_Q8 (x8 : Int × Int × Int × Int × Int × Int × List Int × Int × Int) : St :=
  ⟨[(1, .ptr 13325 []), (3, .int .i64 x8.1), (4, .int .i64 x8.2.1), (5, .int .i64 x8.2.2.1), (6, .int .i64 x8.2.2.2.1), (7, .dead), (8, .dead), (30, .dead), (32, .tup [.int .i64 x8.2.2.2.2.1, .int .i64 x8.2.2.2.2.2.1]), (33, .dead), (34, .dead)], [(13323, .row 3 (.int .i64) x8.2.2.2.2.2.2.1 false), (13325, .var (.pair .bool (.pair (.sl (.int .i64)) (.pair (.int .i64) (.pair (.int .i64) .unit)))) (.agg [.bool true, .own 13323, .int .i64 x8.2.2.2.2.2.2.2.1, .int .i64 x8.2.2.2.2.2.2.2.2]) false)], none⟩
def L07_alive_Q9 (x9 : Int × Int × Int × Int × Int × Int × Int × Int × List Int × Int × Int) : St :=
  ⟨[(1, .ptr 13325 []), (3, .int .i64 x9.1), (4, .int .i64 x9.2.1), (5, .int .i64 x9.2.2.1), (6, .int .i64 x9.2.2.2.1), (7, .int .i64 x9.2.2.2.2.1), (8, .int .i64 x9.2.2.2.2.2.1), (10, .dead), (35, .dead), (37, .tup [.int .i64 x9.2.2.2.2.2.2.1, .int .i64 x9.2.2.2.2.2.2.2.1]), (38, .dead), (39, .dead)], [(13323, .row 3 (.int .i64) x9.2.2.2.2.2.2.2.2.1 false), (13325, .var (.pair .bool (.pair (.sl (.int .i64)) (.pair (.int .i64) (.pair (.int .i64) .unit)))) (.agg [.bool true, .own 13323, .int .i64 x9.2.2.2.2.2.2.2.2.2.1, .int .i64 x9.2.2.2.2.2.2.2.2.2.2]) false)], none⟩
def L07_alive_Q10 (x11 : Int × List Int × Int × Int) : St :=
  ⟨[(0, .dead), (1, .ptr 13325 []), (66, .bool true), (68, .int .i64 x11.1), (69, .dead), (70, .dead), (71, .dead), (72, .dead), (73, .dead), (74, .dead), (75, .dead), (76, .dead), (77, .dead), (78, .dead), (79, .dead), (80, .dead), (81, .dead)], [(13323, .row 3 (.int .i64) x11.2.1 false), (13325, .var (.pair .bool (.pair (.sl (.int .i64)) (.pair (.int .i64) (.pair (.int .i64) .unit)))) (.agg [.bool true, .own 13323, .int .i64 x11.2.2.1, .int .i64 x11.2.2.2]) false)], none⟩
def L07_alive_Q11 (x12 : Int × List Int × Int × Int) : St :=
  ⟨[(0, .dead), (1, .ptr 13325 []), (71, .bool true), (73, .int .i64 x12.1), (74, .dead), (75, .dead), (76, .dead), (77, .dead), (78, .dead), (79, .dead), (80, .dead), (81, .dead)], [(13323, .row 3 (.int .i64) x12.2.1 false), (13325, .var (.pair .bool (.pair (.sl (.int .i64)) (.pair (.int .i64) (.pair (.int .i64) .unit)))) (.agg [.bool true, .own 13323, .int .i64 x12.2.2.1, .int .i64 x12.2.2.2]) false)], none⟩
def L07_alive_Q12 (x13 : List Int × List Int × Int × Int) : St :=
  ⟨[(0, .ptr 13325 []), (4, .ro (.int .i64) x13.1)], [(13323, .row 3 (.int .i64) x13.2.1 true), (13325, .var (.pair .bool (.pair (.sl (.int .i64)) (.pair (.int .i64) (.pair (.int .i64) .unit)))) (.agg [.bool true, .own 13323, .int .i64 x13.2.2.1, .int .i64 x13.2.2.2]) false)], (some ([], 0))⟩
def L07_alive_Q13 (x14 : List Int × Int × Int × List Int) : St :=
  ⟨[(2, .own 80939)], [(13323, .row 3 (.int .i64) x14.1 true), (13325, .var (.pair .bool (.pair (.sl (.int .i64)) (.pair (.int .i64) (.pair (.int .i64) .unit)))) (.agg [.bool true, .own 13323, .int .i64 x14.2.1, .int .i64 x14.2.2.1]) false), (80939, .row 3 (.int .i64) x14.2.2.2 false)], (some ([80939], 0))⟩
def L07_alive_Q14 (x10 : Bool) : St :=
  ⟨[(0, .bool x10)], [], none⟩
def kp_L07_alive : List (Nat × List Nat) := [(0, []), (1, [1, 2]), (2, [1, 20]), (3, [0]), (4, [1, 3, 4]), (5, [1, 3, 4, 5, 6]), (6, [1, 3, 4, 5, 6, 7, 8]), (7, [1, 3, 4, 5, 6, 7, 8, 10]), (8, [0]), (5000008, []), (25000012, []), (20000012, [1, 2, 11, 12, 13, 14]), (25000022, []), (20000022, [1, 3, 4, 22, 23, 24]), (25000024, []), (20000024, [1, 3, 4, 22, 24]), (25000027, []), (20000027, [1, 3, 4, 5, 6, 25, 27, 28, 29]), (25000032, []), (20000032, [1, 3, 4, 5, 6, 7, 8, 30, 32, 33, 34]), (25000037, []), (20000037, [1, 3, 4, 5, 6, 7, 8, 10, 35, 37, 38, 39]), (25000068, []), (20000068, [0, 1, 66, 68, 69, 70, 71, 72, 73, 74, 75, 76, 77, 78, 79, 80, 81]), (25000073, []), (20000073, [0, 1, 71, 73, 74, 75, 76, 77, 78, 79, 80, 81]), (4000008, []), (6000008, []), (24000012, [13323, 13325]), (26000012, []), (24000022, [13323, 13325]), (26000022, []), (24000024, [13323, 13325]), (26000024, []), (24000027, [13323, 13325]), (26000027, []), (24000032, [13323, 13325]), (26000032, []), (24000037, [13323, 13325]), (26000037, []), (24000068, [13323, 13325]), (26000068, []), (24000073, [13323, 13325]), (26000073, []), (4000000, []), (4000001, [13323, 13325]), (4000002, [13323, 13325]), (4000004, [13323, 13325]), (4000005, [13323, 13325]), (4000006, [13323, 13325]), (4000007, [13323, 13325])]
def od_L07_alive : List (Nat × Ord) := []
noncomputable def E_L07_alive (fns : List (Nat × (List AV → Option AV))) : Env := ⟨0, 0, et_L07_alive, tt_L07_alive, fns, (pr_L07_alive_36 fns), od_L07_alive, kp_L07_alive, none, []⟩
set_option maxRecDepth 100000 in
set_option maxHeartbeats 40000000 in
theorem c_L07_alive : PCon Go.Proofs.Try.prog 24 lf_L07_alive := by
  obtain ⟨fns, hfns, hf⟩ : ∃ fns, fns = [] ∧ FnsOk Go.Proofs.Try.prog fns := ⟨_, rfl, FnsOk.nil _⟩
  refine lift_con (E := E_L07_alive fns) (c := bodyOf Try.f24) (nt := 82) (rs := [.tmp 0]) (ts := [4]) (EnvC.sub tt_ok et_ok hf (pr_L07_alive_36_ok hf) (ItsOk.nil _) tt_L07_alive_ok et_L07_alive_ok) (PrOk.of mixed_ok) Go.Proofs.Try.func24 rfl (by decide) rfl rfl rfl (pureR_one (e := .bool) rfl) ?_
  subst hfns
  intro x r hw hs
  have hks := True.intro
  have hbs := True.intro
  repeat'
    (try (conv => whnf)
     first
       | (with_reducible have hs := letv_out hs)
       | (refine draw_and (by kernel_rfl) ?_)
       | (refine both_mk ?_ ?_)
       | (refine br_bool (fun h => ?_) (fun h => ?_) <;> first | have hs := cT h hs | have hs := cF h hs)
       | refine chk_elim hs fun hs => ?_
       | (have hs := letv_out hs)
       | exact fin_some hs rfl
       | (intro b hb; first | have hs := nilq_elim hs b hb | have hs := nilqn_elim hs b hb)
       | exact hC1 _ hs
       | exact hC2 _ hs
       | exact hC3 _ hs
       | exact hC4 _ hs
       | exact hC5 _ hs
       | exact hC6 _ hs
       | exact hC7 _ hs
       | exact hC8 _ hs
       | exact hC9 _ hs
       | exact hC10 _ hs
       | exact hC11 _ hs
       | exact hC12 _ hs
       | exact hC13 _ hs
       | exact hC14 _ hs
       | (refine cut_out 1 L07_alive_Q1 hs (fun Jc1 kc1 hC1 hs => ?_) (fun xc1 hs => ?_))
       | (refine cut_out 2 L07_alive_Q2 hs (fun Jc2 kc2 hC2 hs => ?_) (fun xc2 hs => ?_))
       | (refine cut_out 3 L07_alive_Q3 hs (fun Jc3 kc3 hC3 hs => ?_) (fun xc3 hs => ?_))
       | (refine cut_out 4 L07_alive_Q4 hs (fun Jc4 kc4 hC4 hs => ?_) (fun xc4 hs => ?_))
       | (refine cut_out 5 L07_alive_Q5 hs (fun Jc5 kc5 hC5 hs => ?_) (fun xc5 hs => ?_))
       | (refine cut_out 6 L07_alive_Q6 hs (fun Jc6 kc6 hC6 hs => ?_) (fun xc6 hs => ?_))
       | (refine cut_out 7 L07_alive_Q7 hs (fun Jc7 kc7 hC7 hs => ?_) (fun xc7 hs => ?_))
       | (refine cut_out 8 L07_alive_Q8 hs (fun Jc8 kc8 hC8 hs => ?_) (fun xc8 hs => ?_))
       | (refine cut_out 9 L07_alive_Q9 hs (fun Jc9 kc9 hC9 hs => ?_) (fun xc9 hs => ?_))
       | (refine cut_out 10 L07_alive_Q10 hs (fun Jc10 kc10 hC10 hs => ?_) (fun xc10 hs => ?_))
       | (refine cut_out 11 L07_alive_Q11 hs (fun Jc11 kc11 hC11 hs => ?_) (fun xc11 hs => ?_))
       | (refine cut_out 12 L07_alive_Q12 hs (fun Jc12 kc12 hC12 hs => ?_) (fun xc12 hs => ?_))
       | (refine cut_out 13 L07_alive_Q13 hs (fun Jc13 kc13 hC13 hs => ?_) (fun xc13 hs => ?_))
       | (refine cut_out 14 L07_alive_Q14 hs (fun Jc14 kc14 hC14 hs => ?_) (fun xc14 hs => ?_))
       | (have hs := cT rfl hs)
       | (have hs := cF rfl hs)
       | (refine And.intro (by first | exact hks.1 | exact hks.2.1 | exact hks.2.2.1 | exact hks.2.2.2.1 | exact hks.2.2.2.2.1 | exact hks.2.2.2.2.2.1 | exact hks.2.2.2.2.2.2.1 | exact hks.2.2.2.2.2.2.2.1) ?_)
       | (obtain ⟨hk, hs⟩ := chk_some hs; have hks := And.intro hk hks)
       | (obtain ⟨vb, hb, hs⟩ := bind_some hs; have hbs := And.intro hb hbs)
       | exact (none_ne hs).elim)
end Go.Proofs.YtoihmfgkmndjfaaV
