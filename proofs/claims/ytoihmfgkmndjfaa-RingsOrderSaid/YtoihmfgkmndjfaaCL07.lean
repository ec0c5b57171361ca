import Derived.Test.YtoihmfgkmndjfaaVcTab
import Derived.Test.YtoihmfgkmndjfaaDL07
namespace Go.Proofs.YtoihmfgkmndjfaaV
open Go.Proofs
set_option linter.unusedVariables false
noncomputable def lf_L07_alive : List AV → Option AV := liftF .unit (unpack .bool) (fun x => L07_alive)
def tt_L07_alive : List (Nat × Ty) := [(3, .int .i64), (4, .bool), (22, .sl (.int .i64)), (27, .int .i64), (42, .opq 0), (65, .pair .bool (.pair (.sl (.int .i64)) (.pair (.int .i64) (.pair (.int .i64) .unit))))]
def et_L07_alive : List (Nat × Nat) := [(22, 3)]
theorem tt_L07_alive_ok : subT tt tt_L07_alive = true := by kernel_rfl
theorem et_L07_alive_ok : subE et et_L07_alive = true := by kernel_rfl
noncomputable def pr_L07_alive_23 (fns : List (Nat × (List AV → Option AV))) : List (Nat × Proc) := (23, procOf ⟨0, 0, et_L07_alive, tt_L07_alive, fns, [], [], [(0, [0]), (1, [0, 9]), (2, [2, 3]), (3, [2, 3])], none, []⟩ 14 [.tmp 2, .tmp 3] (bodyOf Try.f23)) :: []
theorem pr_L07_alive_23_ok {fns : List (Nat × (List AV → Option AV))} (hf : FnsOk Go.Proofs.Try.prog fns) : PrsOk Go.Proofs.Try.prog (pr_L07_alive_23 fns) :=
  PrsOk.cons (proc_con (EnvC.sub (yl := none) tt_ok et_ok hf (PrsOk.nil _) (ItsOk.nil _) tt_L07_alive_ok et_L07_alive_ok) (PrOk.of mixed_ok) Go.Proofs.Try.func23 rfl (by decide) rfl rfl) (PrsOk.nil _)
noncomputable def pr_L07_alive_69 (fns : List (Nat × (List AV → Option AV))) : List (Nat × Proc) := (69, procOf ⟨0, 0, et_L07_alive, tt_L07_alive, fns, (pr_L07_alive_23 fns), [], [(0, [0]), (1, [2])], none, []⟩ 11 [.tmp 2] (bodyOf Try.f69)) :: (pr_L07_alive_23 fns)
theorem pr_L07_alive_69_ok {fns : List (Nat × (List AV → Option AV))} (hf : FnsOk Go.Proofs.Try.prog fns) : PrsOk Go.Proofs.Try.prog (pr_L07_alive_69 fns) :=
  PrsOk.cons (proc_con (EnvC.sub (yl := none) tt_ok et_ok hf (pr_L07_alive_23_ok hf) (ItsOk.nil _) tt_L07_alive_ok et_L07_alive_ok) (PrOk.of mixed_ok) Go.Proofs.Try.func69 rfl (by decide) rfl rfl) (pr_L07_alive_23_ok hf)
noncomputable def pr_L07_alive_70 (fns : List (Nat × (List AV → Option AV))) : List (Nat × Proc) := (70, procOf ⟨0, 0, et_L07_alive, tt_L07_alive, fns, (pr_L07_alive_69 fns), [(1, (.one 0 (.one 1 (.one 2 (.one 3 (.one 4 (.one 5 (.one 6 (.one 7 (.one 8 (.one 9 (.one 10 (.one 11 (.one 12 .nil))))))))))))))], [(0, [0, 1]), (1, [4])], none, []⟩ 17 [.tmp 4] (bodyOf Try.f70)) :: (pr_L07_alive_69 fns)
theorem pr_L07_alive_70_ok {fns : List (Nat × (List AV → Option AV))} (hf : FnsOk Go.Proofs.Try.prog fns) : PrsOk Go.Proofs.Try.prog (pr_L07_alive_70 fns) :=
  PrsOk.cons (proc_con (EnvC.sub (yl := none) tt_ok et_ok hf (pr_L07_alive_69_ok hf) (ItsOk.nil _) tt_L07_alive_ok et_L07_alive_ok) (PrOk.of mixed_ok) Go.Proofs.Try.func70 rfl (by decide) rfl rfl) (pr_L07_alive_69_ok hf)
noncomputable def pr_L07_alive_25 (fns : List (Nat × (List AV → Option AV))) : List (Nat × Proc) := (25, procOf ⟨0, 0, et_L07_alive, tt_L07_alive, fns, (pr_L07_alive_70 fns), [(3, (.one 0 (.one 1 (.one 2 (.one 3 (.one 4 (.one 5 (.one 6 (.one 7 (.one 8 (.one 9 (.one 10 .nil)))))))))))), (5, (.one 0 (.one 1 (.one 2 (.one 4 (.one 5 (.one 6 (.one 7 (.one 10 (.alt (.cons 3 (.one 200008 (.one 200009 (.one 11 (.one 200012 .nil)))) (.cons 8 (.alt (.cons 3 (.one 200009 (.one 11 (.one 200012 .nil))) (.cons 9 (.one 200003 (.one 11 (.one 200012 .nil))) .nil))) .nil))))))))))))], [(0, [0, 1]), (1, [0, 1, 5]), (2, [4]), (3, [0, 1, 9]), (4, [4]), (5, [0]), (6, []), (7, [4]), (5000005, []), (4000005, [13323, 13325]), (6000005, [])], none, []⟩ 39 [.tmp 4] (bodyOf Try.f25)) :: (pr_L07_alive_70 fns)
theorem pr_L07_alive_25_ok {fns : List (Nat × (List AV → Option AV))} (hf : FnsOk Go.Proofs.Try.prog fns) : PrsOk Go.Proofs.Try.prog (pr_L07_alive_25 fns) :=
  PrsOk.cons (proc_con (EnvC.sub (yl := none) tt_ok et_ok hf (pr_L07_alive_70_ok hf) (ItsOk.nil _) tt_L07_alive_ok et_L07_alive_ok) (PrOk.of mixed_ok) Go.Proofs.Try.func25 rfl (by decide) rfl rfl) (pr_L07_alive_70_ok hf)
noncomputable def pr_L07_alive_26 (fns : List (Nat × (List AV → Option AV))) : List (Nat × Proc) := (26, procOf ⟨0, 0, et_L07_alive, tt_L07_alive, fns, (pr_L07_alive_25 fns), [(6, (.one 0 (.one 1 (.one 2 (.one 3 (.one 4 (.one 5 (.one 6 (.one 7 (.one 8 (.one 9 (.one 10 .nil)))))))))))), (7, (.one 0 (.one 1 (.one 2 (.one 3 (.one 4 (.one 5 (.one 6 (.one 7 (.one 8 (.one 9 (.one 100010 .nil))))))))))))], [(0, [0]), (1, [0, 4]), (2, [0, 4, 6]), (3, [2, 3]), (4, [0, 4, 11]), (5, [2, 3]), (6, [0, 4, 5]), (7, [0, 5]), (8, [0, 5]), (9, [5]), (10, [2, 3])], none, []⟩ 51 [.tmp 2, .tmp 3] (bodyOf Try.f26)) :: (pr_L07_alive_25 fns)
theorem pr_L07_alive_26_ok {fns : List (Nat × (List AV → Option AV))} (hf : FnsOk Go.Proofs.Try.prog fns) : PrsOk Go.Proofs.Try.prog (pr_L07_alive_26 fns) :=
  PrsOk.cons (proc_con (EnvC.sub (yl := none) tt_ok et_ok hf (pr_L07_alive_25_ok hf) (ItsOk.nil _) tt_L07_alive_ok et_L07_alive_ok) (PrOk.of mixed_ok) Go.Proofs.Try.func26 rfl (by decide) rfl rfl) (pr_L07_alive_25_ok hf)
noncomputable def pr_L07_alive_27 (fns : List (Nat × (List AV → Option AV))) : List (Nat × Proc) := (27, procOf ⟨0, 0, et_L07_alive, tt_L07_alive, fns, (pr_L07_alive_26 fns), [], [(0, [0]), (1, [0, 5]), (2, [2]), (3, [2])], none, []⟩ 10 [.tmp 2] (bodyOf Try.f27)) :: (pr_L07_alive_26 fns)
theorem pr_L07_alive_27_ok {fns : List (Nat × (List AV → Option AV))} (hf : FnsOk Go.Proofs.Try.prog fns) : PrsOk Go.Proofs.Try.prog (pr_L07_alive_27 fns) :=
  PrsOk.cons (proc_con (EnvC.sub (yl := none) tt_ok et_ok hf (pr_L07_alive_26_ok hf) (ItsOk.nil _) tt_L07_alive_ok et_L07_alive_ok) (PrOk.of mixed_ok) Go.Proofs.Try.func27 rfl (by decide) rfl rfl) (pr_L07_alive_26_ok hf)
noncomputable def pr_L07_alive_28 (fns : List (Nat × (List AV → Option AV))) : List (Nat × Proc) := (28, procOf ⟨0, 0, et_L07_alive, tt_L07_alive, fns, (pr_L07_alive_27 fns), [], [(0, [0]), (1, [0, 5]), (2, [2]), (3, [2])], none, []⟩ 11 [.tmp 2] (bodyOf Try.f28)) :: (pr_L07_alive_27 fns)
theorem pr_L07_alive_28_ok {fns : List (Nat × (List AV → Option AV))} (hf : FnsOk Go.Proofs.Try.prog fns) : PrsOk Go.Proofs.Try.prog (pr_L07_alive_28 fns) :=
  PrsOk.cons (proc_con (EnvC.sub (yl := none) tt_ok et_ok hf (pr_L07_alive_27_ok hf) (ItsOk.nil _) tt_L07_alive_ok et_L07_alive_ok) (PrOk.of mixed_ok) Go.Proofs.Try.func28 rfl (by decide) rfl rfl) (pr_L07_alive_27_ok hf)
noncomputable def pr_L07_alive_33 (fns : List (Nat × (List AV → Option AV))) : List (Nat × Proc) := (33, procOf ⟨0, 0, et_L07_alive, tt_L07_alive, fns, (pr_L07_alive_28 fns), [(6, (.one 0 (.one 1 (.one 2 (.one 4 (.one 5 (.alt (.cons 3 (.one 200006 (.one 7 (.one 200008 (.one 9 (.one 10 .nil))))) (.cons 6 (.one 200003 (.one 7 (.one 200008 (.one 9 (.one 10 .nil))))) .nil)))))))))], [(0, [0, 1]), (1, [0, 1, 6]), (2, [0, 1, 6, 7]), (3, [4, 5]), (4, [0, 1, 6, 12]), (5, [4, 5]), (6, [4, 5]), (5000006, []), (4000006, [13323, 13325]), (6000006, [])], none, []⟩ 33 [.tmp 4, .tmp 5] (bodyOf Try.f33)) :: (pr_L07_alive_28 fns)
theorem pr_L07_alive_33_ok {fns : List (Nat × (List AV → Option AV))} (hf : FnsOk Go.Proofs.Try.prog fns) : PrsOk Go.Proofs.Try.prog (pr_L07_alive_33 fns) :=
  PrsOk.cons (proc_con (EnvC.sub (yl := none) tt_ok et_ok hf (pr_L07_alive_28_ok hf) (ItsOk.nil _) tt_L07_alive_ok et_L07_alive_ok) (PrOk.of mixed_ok) Go.Proofs.Try.func33 rfl (by decide) rfl rfl) (pr_L07_alive_28_ok hf)
noncomputable def pr_L07_alive_36 (fns : List (Nat × (List AV → Option AV))) : List (Nat × Proc) := (36, procOf ⟨0, 0, et_L07_alive, tt_L07_alive, fns, (pr_L07_alive_33 fns), [(3, (.one 0 (.one 1 (.one 2 (.one 3 (.one 4 (.one 5 (.one 6 (.one 7 (.one 8 (.one 9 (.one 10 (.one 11 (.one 12 (.one 13 (.one 14 (.one 15 .nil))))))))))))))))), (4, (.one 0 (.one 1 (.one 2 (.one 4 (.one 5 (.one 6 (.one 8 (.one 9 (.alt (.cons 3 (.one 200007 (.one 200010 (.one 11 .nil))) (.cons 7 (.one 200003 (.one 200010 (.one 11 .nil))) .nil)))))))))))), (6, (.one 0 (.one 1 (.one 2 (.one 3 (.one 5 (.one 6 (.one 7 (.one 9 (.one 10 (.alt (.cons 4 (.one 200008 (.one 11 (.one 200012 (.one 200013 (.one 14 .nil))))) (.cons 8 (.one 11 (.one 200004 (.one 200012 (.one 200013 (.one 14 .nil))))) .nil)))))))))))))], [(0, [0]), (1, [0, 15]), (2, [2]), (3, [0, 3]), (4, [0, 4]), (5, [0, 4, 5]), (6, [2]), (5000004, []), (4000004, [13323, 13325]), (6000004, []), (5000006, []), (4000006, [13323, 13325, 80939]), (6000006, [80939])], none, []⟩ 58 [.tmp 2] (bodyOf Try.f36)) :: (pr_L07_alive_33 fns)
theorem pr_L07_alive_36_ok {fns : List (Nat × (List AV → Option AV))} (hf : FnsOk Go.Proofs.Try.prog fns) : PrsOk Go.Proofs.Try.prog (pr_L07_alive_36 fns) :=
  PrsOk.cons (proc_con (EnvC.sub (yl := none) tt_ok et_ok hf (pr_L07_alive_33_ok hf) (ItsOk.nil _) tt_L07_alive_ok et_L07_alive_ok) (PrOk.of mixed_ok) Go.Proofs.Try.func36 rfl (by decide) rfl rfl) (pr_L07_alive_33_ok hf)
def L07_alive_Q1 (x2 : List Int) : St :=
  ⟨[(0, .ptr 13325 [])], [(13323, .row 3 (.int .i64) x2 false), (13325, .var (.pair .bool (.pair (.sl (.int .i64)) (.pair (.int .i64) (.pair (.int .i64) .unit)))) (.agg [.bool true, .own 13323, .int .i64 0, .int .i64 0]) false)], (some ([], 0))⟩
def L07_alive_Q2 (x3 : List Int) : St :=
  ⟨[(0, .ptr 13325 [])], [(13323, .row 3 (.int .i64) x3 false), (13325, .var (.pair .bool (.pair (.sl (.int .i64)) (.pair (.int .i64) (.pair (.int .i64) .unit)))) (.agg [.bool true, .own 13323, .int .i64 0, .int .i64 0]) false)], (some ([], 0))⟩
def L07_alive_Q3 (x4 : List Int) : St :=
  ⟨[(0, .ptr 13325 [])], [(13323, .row 3 (.int .i64) x4 false), (13325, .var (.pair .bool (.pair (.sl (.int .i64)) (.pair (.int .i64) (.pair (.int .i64) .unit)))) (.agg [.bool true, .own 13323, .int .i64 0, .int .i64 1]) false)], (some ([], 0))⟩
def L07_alive_Q4 (x1 : Int × Int × List Int × Int) : St :=
  ⟨[(1, .ptr 13325 []), (3, .int .i64 x1.1), (4, .int .i64 x1.2.1)], [(13323, .row 3 (.int .i64) x1.2.2.1 false), (13325, .var (.pair .bool (.pair (.sl (.int .i64)) (.pair (.int .i64) (.pair (.int .i64) .unit)))) (.agg [.bool true, .own 13323, .int .i64 0, .int .i64 x1.2.2.2]) false)], none⟩
def L07_alive_Q5 (x5 : Unit) : St :=
  ⟨[(0, .bool false)], [], none⟩
def L07_alive_Q6 (x6 : Unit) : St :=
  ⟨[(0, .bool false)], [], none⟩
def L07_alive_Q7 (x7 : Unit) : St :=
  ⟨[(0, .bool false)], [], none⟩
def L07_alive_Q8 (x8 : Unit) : St :=
  ⟨[(0, .bool false)], [], none⟩
def L07_alive_Q9 (x9 : Int × List Int × Int) : St :=
  ⟨[(4, .int .i64 x9.1), (5, .int .i64 0)], [(13323, .row 3 (.int .i64) x9.2.1 false), (13325, .var (.pair .bool (.pair (.sl (.int .i64)) (.pair (.int .i64) (.pair (.int .i64) .unit)))) (.agg [.bool true, .own 13323, .int .i64 0, .int .i64 x9.2.2]) false)], (some ([], 0))⟩
def L07_alive_Q10 (x10 : Unit) : St :=
  ⟨[(0, .bool false)], [], none⟩
def L07_alive_Q11 (x11 : Unit) : St :=
  ⟨[(0, .bool false)], [], none⟩
def L07_alive_Q12 (x13 : List Int × List Int × Int × Int) : St :=
  ⟨[(0, .ptr 13325 []), (4, .ro (.int .i64) x13.1)], [(13323, .row 3 (.int .i64) x13.2.1 true), (13325, .var (.pair .bool (.pair (.sl (.int .i64)) (.pair (.int .i64) (.pair (.int .i64) .unit)))) (.agg [.bool true, .own 13323, .int .i64 x13.2.2.1, .int .i64 x13.2.2.2]) false)], (some ([], 0))⟩
def L07_alive_Q13 (x14 : List Int × Int × Int × List Int) : St :=
  ⟨[(2, .own 80939)], [(13323, .row 3 (.int .i64) x14.1 true), (13325, .var (.pair .bool (.pair (.sl (.int .i64)) (.pair (.int .i64) (.pair (.int .i64) .unit)))) (.agg [.bool true, .own 13323, .int .i64 x14.2.1, .int .i64 x14.2.2.1]) false), (80939, .row 3 (.int .i64) x14.2.2.2 false)], (some ([80939], 0))⟩
def L07_alive_Q14 (x12 : Bool) : St :=
  ⟨[(0, .bool x12)], [], none⟩
def L07_alive_Q15 (x15 : Unit) : St :=
  ⟨[(0, .bool false)], [], none⟩
noncomputable def E_L07_alive (fns : List (Nat × (List AV → Option AV))) : Env := ⟨0, 0, et_L07_alive, tt_L07_alive, fns, (pr_L07_alive_36 fns), [], [(0, []), (1, [1, 2]), (2, [1, 20]), (3, [0]), (4, [1, 3, 4]), (5, [1, 3, 4, 5, 6]), (6, [1, 3, 4, 5, 6, 7, 8]), (7, [1, 3, 4, 5, 6, 7, 8, 10]), (8, [0]), (5000004, []), (4000004, [13323, 13325]), (6000004, []), (5000008, []), (4000008, []), (6000008, []), (4000000, []), (4000001, [13323, 13325]), (4000002, [13323, 13325]), (4000005, [13323, 13325]), (4000006, [13323, 13325]), (4000007, [13323, 13325])], none, []⟩
set_option maxRecDepth 100000 in
set_option maxHeartbeats 40000000 in
theorem c_L07_alive : PCon Go.Proofs.Try.prog 24 lf_L07_alive := by
  obtain ⟨fns, hfns, hf⟩ : ∃ fns, fns = [] ∧ FnsOk Go.Proofs.Try.prog fns := ⟨_, rfl, FnsOk.nil _⟩
  refine lift_con (E := E_L07_alive fns) (c := bodyOf Try.f24) (nt := 82) (rs := [.tmp 0]) (ts := [4]) (EnvC.sub tt_ok et_ok hf (pr_L07_alive_36_ok hf) (ItsOk.nil _) tt_L07_alive_ok et_L07_alive_ok) (PrOk.of mixed_ok) Go.Proofs.Try.func24 rfl (by decide) rfl rfl rfl (pureR_one (e := .bool) rfl) ?_
  subst hfns
  intro x r hw hs
  repeat'
    (try (conv => whnf)
     first
       | (have hs := letv_out hs)
       | (refine draw_and (by kernel_rfl) ?_)
       | (refine both_mk ?_ ?_)
       | (refine br_bool (fun h => ?_) (fun h => ?_) <;> first | have hs := cT h hs | have hs := cF h hs)
       | refine chk_elim hs fun hs => ?_
       | exact fin_some hs rfl
       | (intro b hb; first | have hs := nilq_elim hs b hb | have hs := nilqn_elim hs b hb)
       | exact hC1 _ hs
       | exact hC2 _ hs
       | exact hC3 _ hs
       | exact hC4 _ hs
       | exact hC5 _ hs
       | exact hC6 _ hs
       | exact hC7 _ hs
       | exact hC8 _ hs
       | exact hC9 _ hs
       | exact hC10 _ hs
       | exact hC11 _ hs
       | exact hC12 _ hs
       | exact hC13 _ hs
       | exact hC14 _ hs
       | exact hC15 _ hs
       | (refine cut_out 1 L07_alive_Q1 hs (fun Jc1 kc1 hC1 hs => ?_) (fun xc1 hs => ?_))
       | (refine cut_out 2 L07_alive_Q2 hs (fun Jc2 kc2 hC2 hs => ?_) (fun xc2 hs => ?_))
       | (refine cut_out 3 L07_alive_Q3 hs (fun Jc3 kc3 hC3 hs => ?_) (fun xc3 hs => ?_))
       | (refine cut_out 4 L07_alive_Q4 hs (fun Jc4 kc4 hC4 hs => ?_) (fun xc4 hs => ?_))
       | (refine cut_out 5 L07_alive_Q5 hs (fun Jc5 kc5 hC5 hs => ?_) (fun xc5 hs => ?_))
       | (refine cut_out 6 L07_alive_Q6 hs (fun Jc6 kc6 hC6 hs => ?_) (fun xc6 hs => ?_))
       | (refine cut_out 7 L07_alive_Q7 hs (fun Jc7 kc7 hC7 hs => ?_) (fun xc7 hs => ?_))
       | (refine cut_out 8 L07_alive_Q8 hs (fun Jc8 kc8 hC8 hs => ?_) (fun xc8 hs => ?_))
       | (refine cut_out 9 L07_alive_Q9 hs (fun Jc9 kc9 hC9 hs => ?_) (fun xc9 hs => ?_))
       | (refine cut_out 10 L07_alive_Q10 hs (fun Jc10 kc10 hC10 hs => ?_) (fun xc10 hs => ?_))
       | (refine cut_out 11 L07_alive_Q11 hs (fun Jc11 kc11 hC11 hs => ?_) (fun xc11 hs => ?_))
       | (refine cut_out 12 L07_alive_Q12 hs (fun Jc12 kc12 hC12 hs => ?_) (fun xc12 hs => ?_))
       | (refine cut_out 13 L07_alive_Q13 hs (fun Jc13 kc13 hC13 hs => ?_) (fun xc13 hs => ?_))
       | (refine cut_out 14 L07_alive_Q14 hs (fun Jc14 kc14 hC14 hs => ?_) (fun xc14 hs => ?_))
       | (refine cut_out 15 L07_alive_Q15 hs (fun Jc15 kc15 hC15 hs => ?_) (fun xc15 hs => ?_))
       | (have hs := cT rfl hs)
       | (have hs := cF rfl hs)
       | exact (none_ne hs).elim)
end Go.Proofs.YtoihmfgkmndjfaaV
