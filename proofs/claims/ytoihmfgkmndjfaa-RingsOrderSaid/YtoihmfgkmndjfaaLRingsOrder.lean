/- becket/becketlaw07.RingsOrder: for every input the law returns true, and each argument reads behind the call as before. No condition. -/
import Derived.Test.YtoihmfgkmndjfaaRows
import Derived.Test.YtoihmfgkmndjfaaVcG2
import Derived.Test.YtoihmfgkmndjfaaCL07
import Derived.Test.YtoihmfgkmndjfaaML07
namespace Go.Proofs.YtoihmfgkmndjfaaV
open Go.Proofs
set_option linter.unusedVariables false
noncomputable def lf_L07_RingsOrder : List AV → Option AV := liftF (.pair (.int .u8) (.pair (.sl (.int .u8)) (.pair (.sl .bool) .unit))) (unpack .bool) (fun x => L07_RingsOrder x.1 x.2.1 x.2.2.1)
def tt_L07_RingsOrder : List (Nat × Ty) := [(3, .int .i64), (4, .bool), (5, .int .u8), (22, .sl (.int .i64)), (27, .int .i64), (37, .sl (.int .u8)), (41, .sl .bool), (42, .opq 0), (65, .pair .bool (.pair (.sl (.int .i64)) (.pair (.int .i64) (.pair (.int .i64) .unit))))]
def et_L07_RingsOrder : List (Nat × Nat) := [(22, 3), (37, 5), (41, 4)]
theorem tt_L07_RingsOrder_ok : subT tt tt_L07_RingsOrder = true := by kernel_rfl
theorem et_L07_RingsOrder_ok : subE et et_L07_RingsOrder = true := by kernel_rfl
noncomputable def pr_L07_RingsOrder_23 (fns : List (Nat × (List AV → Option AV))) : List (Nat × Proc) := (23, procOf ⟨0, 0, et_L07_RingsOrder, tt_L07_RingsOrder, fns, [], [], [(0, [0]), (1, [0, 9]), (2, [2, 3]), (3, [2, 3])], none, []⟩ 14 [.tmp 2, .tmp 3] (bodyOf Try.f23)) :: []
theorem pr_L07_RingsOrder_23_ok {fns : List (Nat × (List AV → Option AV))} (hf : FnsOk Go.Proofs.Try.prog fns) : PrsOk Go.Proofs.Try.prog (pr_L07_RingsOrder_23 fns) :=
  PrsOk.cons (proc_con (EnvC.sub (yl := none) tt_ok et_ok hf (PrsOk.nil _) (ItsOk.nil _) tt_L07_RingsOrder_ok et_L07_RingsOrder_ok) (PrOk.of mixed_ok) Go.Proofs.Try.func23 rfl (by decide) rfl rfl) (PrsOk.nil _)
noncomputable def pr_L07_RingsOrder_69 (fns : List (Nat × (List AV → Option AV))) : List (Nat × Proc) := (69, procOf ⟨0, 0, et_L07_RingsOrder, tt_L07_RingsOrder, fns, (pr_L07_RingsOrder_23 fns), [], [(0, [0]), (1, [2])], none, []⟩ 11 [.tmp 2] (bodyOf Try.f69)) :: (pr_L07_RingsOrder_23 fns)
theorem pr_L07_RingsOrder_69_ok {fns : List (Nat × (List AV → Option AV))} (hf : FnsOk Go.Proofs.Try.prog fns) : PrsOk Go.Proofs.Try.prog (pr_L07_RingsOrder_69 fns) :=
  PrsOk.cons (proc_con (EnvC.sub (yl := none) tt_ok et_ok hf (pr_L07_RingsOrder_23_ok hf) (ItsOk.nil _) tt_L07_RingsOrder_ok et_L07_RingsOrder_ok) (PrOk.of mixed_ok) Go.Proofs.Try.func69 rfl (by decide) rfl rfl) (pr_L07_RingsOrder_23_ok hf)
noncomputable def pr_L07_RingsOrder_70 (fns : List (Nat × (List AV → Option AV))) : List (Nat × Proc) := (70, procOf ⟨0, 0, et_L07_RingsOrder, tt_L07_RingsOrder, fns, (pr_L07_RingsOrder_69 fns), [(1, (.one 0 (.one 1 (.one 2 (.one 3 (.one 4 (.one 5 (.one 6 (.one 7 (.one 8 (.one 9 (.one 10 (.one 11 (.one 12 .nil))))))))))))))], [(0, [0, 1]), (1, [4])], none, []⟩ 17 [.tmp 4] (bodyOf Try.f70)) :: (pr_L07_RingsOrder_69 fns)
theorem pr_L07_RingsOrder_70_ok {fns : List (Nat × (List AV → Option AV))} (hf : FnsOk Go.Proofs.Try.prog fns) : PrsOk Go.Proofs.Try.prog (pr_L07_RingsOrder_70 fns) :=
  PrsOk.cons (proc_con (EnvC.sub (yl := none) tt_ok et_ok hf (pr_L07_RingsOrder_69_ok hf) (ItsOk.nil _) tt_L07_RingsOrder_ok et_L07_RingsOrder_ok) (PrOk.of mixed_ok) Go.Proofs.Try.func70 rfl (by decide) rfl rfl) (pr_L07_RingsOrder_69_ok hf)
noncomputable def pr_L07_RingsOrder_25 (fns : List (Nat × (List AV → Option AV))) : List (Nat × Proc) := (25, procOf ⟨0, 0, et_L07_RingsOrder, tt_L07_RingsOrder, fns, (pr_L07_RingsOrder_70 fns), [(3, (.one 0 (.one 1 (.one 2 (.one 3 (.one 4 (.one 5 (.one 6 (.one 7 (.one 8 (.one 9 (.one 10 .nil)))))))))))), (5, (.one 0 (.one 1 (.one 2 (.one 4 (.one 5 (.one 6 (.one 7 (.one 10 (.alt (.cons 3 (.one 200008 (.one 200009 (.one 11 (.one 200012 .nil)))) (.cons 8 (.alt (.cons 3 (.one 200009 (.one 11 (.one 200012 .nil))) (.cons 9 (.one 200003 (.one 11 (.one 200012 .nil))) .nil))) .nil))))))))))))], [(0, [0, 1]), (1, [0, 1, 5]), (2, [4]), (3, [0, 1, 9]), (4, [4]), (5, [0]), (6, []), (7, [4]), (5000005, []), (4000005, [60, 21515, 21517]), (6000005, [])], none, []⟩ 39 [.tmp 4] (bodyOf Try.f25)) :: (pr_L07_RingsOrder_70 fns)
theorem pr_L07_RingsOrder_25_ok {fns : List (Nat × (List AV → Option AV))} (hf : FnsOk Go.Proofs.Try.prog fns) : PrsOk Go.Proofs.Try.prog (pr_L07_RingsOrder_25 fns) :=
  PrsOk.cons (proc_con (EnvC.sub (yl := none) tt_ok et_ok hf (pr_L07_RingsOrder_70_ok hf) (ItsOk.nil _) tt_L07_RingsOrder_ok et_L07_RingsOrder_ok) (PrOk.of mixed_ok) Go.Proofs.Try.func25 rfl (by decide) rfl rfl) (pr_L07_RingsOrder_70_ok hf)
noncomputable def pr_L07_RingsOrder_26 (fns : List (Nat × (List AV → Option AV))) : List (Nat × Proc) := (26, procOf ⟨0, 0, et_L07_RingsOrder, tt_L07_RingsOrder, fns, (pr_L07_RingsOrder_25 fns), [(6, (.one 0 (.one 1 (.one 2 (.one 3 (.one 4 (.one 5 (.one 6 (.one 7 (.one 8 (.one 9 (.one 10 .nil)))))))))))), (7, (.one 0 (.one 1 (.one 2 (.one 3 (.one 4 (.one 5 (.one 6 (.one 7 (.one 8 (.one 9 (.one 100010 .nil))))))))))))], [(0, [0]), (1, [0, 4]), (2, [0, 4, 6]), (3, [2, 3]), (4, [0, 4, 11]), (5, [2, 3]), (6, [0, 4, 5]), (7, [0, 5]), (8, [0, 5]), (9, [5]), (10, [2, 3])], none, []⟩ 51 [.tmp 2, .tmp 3] (bodyOf Try.f26)) :: (pr_L07_RingsOrder_25 fns)
theorem pr_L07_RingsOrder_26_ok {fns : List (Nat × (List AV → Option AV))} (hf : FnsOk Go.Proofs.Try.prog fns) : PrsOk Go.Proofs.Try.prog (pr_L07_RingsOrder_26 fns) :=
  PrsOk.cons (proc_con (EnvC.sub (yl := none) tt_ok et_ok hf (pr_L07_RingsOrder_25_ok hf) (ItsOk.nil _) tt_L07_RingsOrder_ok et_L07_RingsOrder_ok) (PrOk.of mixed_ok) Go.Proofs.Try.func26 rfl (by decide) rfl rfl) (pr_L07_RingsOrder_25_ok hf)
noncomputable def pr_L07_RingsOrder_27 (fns : List (Nat × (List AV → Option AV))) : List (Nat × Proc) := (27, procOf ⟨0, 0, et_L07_RingsOrder, tt_L07_RingsOrder, fns, (pr_L07_RingsOrder_26 fns), [], [(0, [0]), (1, [0, 5]), (2, [2]), (3, [2])], none, []⟩ 10 [.tmp 2] (bodyOf Try.f27)) :: (pr_L07_RingsOrder_26 fns)
theorem pr_L07_RingsOrder_27_ok {fns : List (Nat × (List AV → Option AV))} (hf : FnsOk Go.Proofs.Try.prog fns) : PrsOk Go.Proofs.Try.prog (pr_L07_RingsOrder_27 fns) :=
  PrsOk.cons (proc_con (EnvC.sub (yl := none) tt_ok et_ok hf (pr_L07_RingsOrder_26_ok hf) (ItsOk.nil _) tt_L07_RingsOrder_ok et_L07_RingsOrder_ok) (PrOk.of mixed_ok) Go.Proofs.Try.func27 rfl (by decide) rfl rfl) (pr_L07_RingsOrder_26_ok hf)
noncomputable def pr_L07_RingsOrder_28 (fns : List (Nat × (List AV → Option AV))) : List (Nat × Proc) := (28, procOf ⟨0, 0, et_L07_RingsOrder, tt_L07_RingsOrder, fns, (pr_L07_RingsOrder_27 fns), [], [(0, [0]), (1, [0, 5]), (2, [2]), (3, [2])], none, []⟩ 11 [.tmp 2] (bodyOf Try.f28)) :: (pr_L07_RingsOrder_27 fns)
theorem pr_L07_RingsOrder_28_ok {fns : List (Nat × (List AV → Option AV))} (hf : FnsOk Go.Proofs.Try.prog fns) : PrsOk Go.Proofs.Try.prog (pr_L07_RingsOrder_28 fns) :=
  PrsOk.cons (proc_con (EnvC.sub (yl := none) tt_ok et_ok hf (pr_L07_RingsOrder_27_ok hf) (ItsOk.nil _) tt_L07_RingsOrder_ok et_L07_RingsOrder_ok) (PrOk.of mixed_ok) Go.Proofs.Try.func28 rfl (by decide) rfl rfl) (pr_L07_RingsOrder_27_ok hf)
def L07_RingsOrder_S1 (u0 : AV) (u1 : AV) (p2 : Bool) (x1 : List Bool × Int × List Int × Int × Int × List Int × List Int × Int × Int) : St :=
  ⟨[(2, .ro .bool x1.1), (7, u0), (9, u1), (10, .int .i64 x1.2.1), (44, .ro (.int .u8) x1.2.2.1), (45, .int .i64 x1.2.2.2.1), (46, .int .i64 x1.2.2.2.2.1)], [(60, .row 3 (.int .i64) x1.2.2.2.2.2.1 false), (21515, .row 3 (.int .i64) x1.2.2.2.2.2.2.1 false), (21517, .var (.pair .bool (.pair (.sl (.int .i64)) (.pair (.int .i64) (.pair (.int .i64) .unit)))) (.agg [.bool p2, .own 21515, .int .i64 x1.2.2.2.2.2.2.2.1, .int .i64 x1.2.2.2.2.2.2.2.2]) false)], none⟩
def L07_RingsOrder_M1 : Msk := ⟨[2, 7, 9, 10, 44, 45, 46], [60, 21515, 21517], [(9, 60, 22)], [], [], [], [], [], []⟩
def L07_RingsOrder_Q1 (x3 : List Int × List Int × Int × Int) : St :=
  ⟨[(0, .ptr 21517 [])], [(60, .row 3 (.int .i64) x3.1 false), (21515, .row 3 (.int .i64) x3.2.1 false), (21517, .var (.pair .bool (.pair (.sl (.int .i64)) (.pair (.int .i64) (.pair (.int .i64) .unit)))) (.agg [.bool true, .own 21515, .int .i64 x3.2.2.1, .int .i64 x3.2.2.2]) false)], (some ([], 0))⟩
def L07_RingsOrder_Q2 (x2 : List Bool × Int × List Int × Int × Int × List Int × List Int × Int × Int) : St :=
  ⟨[(2, .ro .bool x2.1), (7, .ptr 21517 []), (9, .own 60), (10, .int .i64 x2.2.1), (44, .ro (.int .u8) x2.2.2.1), (45, .int .i64 x2.2.2.2.1), (46, .int .i64 x2.2.2.2.2.1)], [(60, .row 3 (.int .i64) x2.2.2.2.2.2.1 false), (21515, .row 3 (.int .i64) x2.2.2.2.2.2.2.1 false), (21517, .var (.pair .bool (.pair (.sl (.int .i64)) (.pair (.int .i64) (.pair (.int .i64) .unit)))) (.agg [.bool true, .own 21515, .int .i64 x2.2.2.2.2.2.2.2.1, .int .i64 x2.2.2.2.2.2.2.2.2]) false)], none⟩
noncomputable def E_L07_RingsOrder (fns : List (Nat × (List AV → Option AV))) : Env := ⟨0, 0, et_L07_RingsOrder, tt_L07_RingsOrder, fns, (pr_L07_RingsOrder_28 fns), [], [(0, [0, 1, 2]), (1, [1, 2, 7, 8]), (2, [1, 2, 7, 38]), (3, [6]), (4, [1, 2, 7, 9]), (5, [1, 2, 7, 9, 10]), (6, [2, 7, 9, 10, 44, 45, 46]), (7, [2, 7, 9, 10, 44, 45, 46, 47]), (8, [2, 7, 9, 10, 11, 12, 44, 45, 46]), (9, [2, 7, 9, 10, 11, 12, 44, 45, 46, 55]), (10, [2, 7, 9, 10, 11, 44, 45, 46]), (11, [2, 7, 9, 10, 44, 45, 46, 70]), (12, [2, 7, 9, 10, 13, 14, 44, 45, 46]), (13, [2, 7, 9, 10, 44, 45, 46, 91]), (14, [6]), (15, [2, 7, 9, 10, 44, 45, 46]), (16, [2, 7, 9, 10, 44, 45, 46, 107]), (17, [6]), (18, [2, 7, 9, 10, 44, 45, 46]), (19, [6]), (12000001, []), (7000001, [2, 7, 9, 10, 44, 45, 46]), (11000001, [60, 21515, 21517]), (13000001, []), (4000000, []), (4000001, [21515, 21517]), (4000002, [21515, 21517]), (4000003, []), (4000004, [21515, 21517]), (4000005, [21515, 21517]), (4000006, [21515, 21517]), (4000007, [60, 21515, 21517]), (4000008, [60, 21515, 21517]), (4000009, [60, 21515, 21517]), (4000010, [60, 21515, 21517]), (4000011, [60, 21515, 21517]), (4000012, [60, 21515, 21517]), (4000013, [60, 21515, 21517]), (4000014, []), (4000015, [60, 21515, 21517]), (4000016, [60, 21515, 21517]), (4000017, []), (4000018, [60, 21515, 21517]), (4000019, [])], none, []⟩
set_option maxRecDepth 100000 in
set_option maxHeartbeats 40000000 in
theorem c_L07_RingsOrder : PCon Go.Proofs.Try.prog 6 lf_L07_RingsOrder := by
  obtain ⟨G24, hG24, cG24⟩ : ∃ G : (.unit : Ty).den → Option Bool, (∀ x, G x = L07_alive) ∧ PCon Go.Proofs.Try.prog 24 (liftF .unit (unpack .bool) G) := ⟨_, fun _ => rfl, c_L07_alive⟩
  obtain ⟨fns, hfns, hf⟩ : ∃ fns, fns = [(24, liftF .unit (unpack .bool) G24)] ∧ FnsOk Go.Proofs.Try.prog fns := ⟨_, rfl, FnsOk.cons cG24 (FnsOk.nil _)⟩
  refine lift_con (E := E_L07_RingsOrder fns) (c := bodyOf Try.f6) (nt := 110) (rs := [.tmp 6]) (ts := [4]) (EnvC.sub tt_ok et_ok hf (pr_L07_RingsOrder_28_ok hf) (ItsOk.nil _) tt_L07_RingsOrder_ok et_L07_RingsOrder_ok) (PrOk.of mixed_ok) Go.Proofs.Try.func6 rfl (by decide) rfl rfl rfl (pureR_one (e := .bool) rfl) ?_
  subst hfns
  intro x r hw hs
  repeat'
    (try (conv => whnf)
     first
       | (have hs := letv_out hs)
       | (refine draw_and (by kernel_rfl) ?_)
       | (refine both_mk ?_ ?_)
       | (refine br_bool (fun h => ?_) (fun h => ?_) <;> first | have hs := cT h hs | have hs := cF h hs)
       | (refine bind_elim hs fun v hb hs => ?_; first | refine callK_liftG hG24 rfl hb ?_)
       | refine chk_elim hs fun hs => ?_
       | exact fin_some hs rfl
       | (intro b hb; first | have hs := nilq_elim hs b hb | have hs := nilqn_elim hs b hb)
       | exact hJ1 _ hs
       | exact hC1 _ hs
       | exact hC2 _ hs
       | (refine cut_out 1 L07_RingsOrder_Q1 hs (fun Jc1 kc1 hC1 hs => ?_) (fun xc1 hs => ?_))
       | (refine cut_out 2 L07_RingsOrder_Q2 hs (fun Jc2 kc2 hC2 hs => ?_) (fun xc2 hs => ?_))
       | (have hs := cT rfl hs)
       | (have hs := cF rfl hs)
       | (refine vc_loop (L07_RingsOrder_S1 _ _ _) L07_RingsOrder_M1 hs rfl ?_; intro J1 k1 x1 hJ1 hs)
       | exact (none_ne hs).elim)
end Go.Proofs.YtoihmfgkmndjfaaV
namespace Go.Proofs.Ytoihmfgkmndjfaa.ringsOrder
open Go.ChangeShapes Go.WideShapes Go.ChangeAt Go.RowKit Go.Proofs.YtoihmfgkmndjfaaV
set_option linter.unusedVariables false
theorem own : ownKnob Try.prog.godebug = none := by kernel_rfl
set_option maxRecDepth 100000 in
theorem lifted (os : Os) (started : os.Started) (H : Type) (enc : TypeId × Value → H) :
    ReturnsInHanded {} Try.checked os 6 .any (Rows.ringsOrderSpec.pre6 enc Try.prog Try.f6 Rows.ringsOrderRow.domain false) (Rows.ringsOrderSpec.post enc Try.prog Try.f6 false true false false) := by
  refine returnsInHanded_of_change_sized (C := Try.checked) own started (by kernel_rfl) Try.func6
    (ChangeSpec.witness6 (enc := enc) (C := Try.checked) false ⟨#[], #[.int .u8 0, .slice none 0 0, .slice none 0 0], []⟩ 12 (by kernel_rfl) (by kernel_rfl) (by kernel_rfl) (by kernel_rfl)) ?_
  intro W base args ds gs before hval0 hW hcnd hsz0 _
  refine row_of (C := Try.checked) (s := Rows.ringsOrderSpec) (c := bodyOf Try.f6) (tr := 4) c_L07_RingsOrder Try.func6 rfl (by decide) (by kernel_rfl) (by kernel_rfl) (by kernel_rfl) rfl Try.underlying4 rfl ?_ law_L07_RingsOrder rfl W base args ds gs before hval0 hW hsz0
  intro ds hl
  match ds, hl with
  | [d1, d2, d3], _ => exact ⟨rfl, rfl, rfl⟩
theorem over : Rows.ringsOrderRow.holds Try.pinned (OpenSpec.ofChange Rows.ringsOrderSpec) :=
  OpenClaim.holds_of_wide 6 Try.f6 rfl rfl rfl rfl rfl rfl rfl ⟨rfl, rfl, rfl, rfl, rfl⟩ rfl rfl rfl rfl rfl (by kernel_rfl) Try.func6 (by kernel_rfl)
    (of_decide_eq_true (by kernel_rfl)) (by unfold Func.isWrapper; first | (rw [if_pos (by decide +kernel)]; kernel_rfl) | (rw [if_neg (by decide +kernel)]; exact ⟨rfl, rfl⟩))
    (fun os started H enc _ => lifted os started H enc)
end Go.Proofs.Ytoihmfgkmndjfaa.ringsOrder
namespace Go.Proofs.Ytoihmfgkmndjfaa
/-- The row, under a short name, for the claim. -/
theorem ringsOrder_holds : Rows.RingsOrderSaid := ringsOrder.over
end Go.Proofs.Ytoihmfgkmndjfaa
