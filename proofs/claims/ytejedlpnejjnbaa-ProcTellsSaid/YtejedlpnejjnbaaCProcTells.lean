/- What becket/becketlaw31.ProcTells answers. -/
import Derived.Test.YtejedlpnejjnbaaVcTab
import Derived.Test.YtejedlpnejjnbaaDProcTells
import Derived.Test.YtejedlpnejjnbaaCL31
import Derived.Test.YtejedlpnejjnbaaCR02
import Derived.Test.YtejedlpnejjnbaaCR31
import Derived.Test.YtejedlpnejjnbaaCproc
namespace Go.Proofs.YtejedlpnejjnbaaV
open Go.Proofs
set_option linter.unusedVariables false
noncomputable def lf_L31_ProcTells : List AV → Option AV := liftF (.pair (.sl (.pair (.int .i64) (.pair .bool (.pair (.int .i64) (.pair (.pair (.int .i64) (.pair .bool (.pair (.arr 8 (.int .i64)) (.pair (.arr 16 (.int .i64)) (.pair (.int .i64) (.pair (.arr 8 (.int .i64)) .unit)))))) (.pair (.int .i64) (.pair (.int .i64) (.pair (.int .i64) (.pair (.sl (.pair (.int .i64) (.pair (.int .i64) (.pair (.int .i64) (.pair (.int .i64) (.pair (.int .i64) .unit)))))) .unit))))))))) (.pair (.int .i64) (.pair (.int .i64) .unit))) (unpack .bool) (fun x => L31_ProcTells x.1 x.2.1 x.2.2.1)
theorem lq_L31_ProcTells : lf_L31_ProcTells = liftF (.pair (.sl (.pair (.int .i64) (.pair .bool (.pair (.int .i64) (.pair (.pair (.int .i64) (.pair .bool (.pair (.arr 8 (.int .i64)) (.pair (.arr 16 (.int .i64)) (.pair (.int .i64) (.pair (.arr 8 (.int .i64)) .unit)))))) (.pair (.int .i64) (.pair (.int .i64) (.pair (.int .i64) (.pair (.sl (.pair (.int .i64) (.pair (.int .i64) (.pair (.int .i64) (.pair (.int .i64) (.pair (.int .i64) .unit)))))) .unit))))))))) (.pair (.int .i64) (.pair (.int .i64) .unit))) (unpack .bool) (fun x => L31_ProcTells x.1 x.2.1 x.2.2.1) := rfl
attribute [irreducible] lf_L31_ProcTells
theorem ck_L31_ProcTells {vs : List AV} {k : AV → Prop} {x : ((.pair (.sl (.pair (.int .i64) (.pair .bool (.pair (.int .i64) (.pair (.pair (.int .i64) (.pair .bool (.pair (.arr 8 (.int .i64)) (.pair (.arr 16 (.int .i64)) (.pair (.int .i64) (.pair (.arr 8 (.int .i64)) .unit)))))) (.pair (.int .i64) (.pair (.int .i64) (.pair (.int .i64) (.pair (.sl (.pair (.int .i64) (.pair (.int .i64) (.pair (.int .i64) (.pair (.int .i64) (.pair (.int .i64) .unit)))))) .unit))))))))) (.pair (.int .i64) (.pair (.int .i64) .unit))) : Ty).den} {v : Bool} (h1 : pks (.pair (.sl (.pair (.int .i64) (.pair .bool (.pair (.int .i64) (.pair (.pair (.int .i64) (.pair .bool (.pair (.arr 8 (.int .i64)) (.pair (.arr 16 (.int .i64)) (.pair (.int .i64) (.pair (.arr 8 (.int .i64)) .unit)))))) (.pair (.int .i64) (.pair (.int .i64) (.pair (.int .i64) (.pair (.sl (.pair (.int .i64) (.pair (.int .i64) (.pair (.int .i64) (.pair (.int .i64) (.pair (.int .i64) .unit)))))) .unit))))))))) (.pair (.int .i64) (.pair (.int .i64) .unit))) vs = some x) (h2 : L31_ProcTells x.1 x.2.1 x.2.2.1 = some v) (h3 : k ((unpack .bool) v)) : callK (lf_L31_ProcTells vs) k := by
  rw [lq_L31_ProcTells]; exact callK_lift h1 h2 h3
def tt_L31_ProcTells : List (Nat × Ty) := [(3, .int .i64), (4, .bool), (22, .sl (.pair (.int .i64) (.pair .bool (.pair (.int .i64) (.pair (.pair (.int .i64) (.pair .bool (.pair (.arr 8 (.int .i64)) (.pair (.arr 16 (.int .i64)) (.pair (.int .i64) (.pair (.arr 8 (.int .i64)) .unit)))))) (.pair (.int .i64) (.pair (.int .i64) (.pair (.int .i64) (.pair (.sl (.pair (.int .i64) (.pair (.int .i64) (.pair (.int .i64) (.pair (.int .i64) (.pair (.int .i64) .unit)))))) .unit))))))))), (25, .sl (.pair (.int .i64) (.pair .bool (.pair (.int .i64) (.pair (.pair (.int .i64) (.pair .bool (.pair (.arr 8 (.int .i64)) (.pair (.arr 16 (.int .i64)) (.pair (.int .i64) (.pair (.arr 8 (.int .i64)) .unit)))))) (.pair (.int .i64) (.pair (.int .i64) (.pair (.int .i64) (.pair (.sl (.pair (.int .i64) (.pair (.int .i64) (.pair (.int .i64) (.pair (.int .i64) (.pair (.int .i64) .unit)))))) .unit))))))))), (36, .sl (.int .i64))]
def et_L31_ProcTells : List (Nat × Nat) := [(22, 66), (25, 69), (36, 3)]
theorem tt_L31_ProcTells_ok : subT tt tt_L31_ProcTells = true := by kernel_rfl
theorem et_L31_ProcTells_ok : subE et et_L31_ProcTells = true := by kernel_rfl
noncomputable def fns_L31_ProcTells : List (Nat × (List AV → Option AV)) := [(6, lf_L31_Small), (7, lf_L31_alive), (8, lf_L31_To), (9, lf_proc_Find), (10, lf_R31_Find), (11, lf_proc_Fine), (12, lf_R31_Fine), (13, lf_proc_Handle), (14, lf_R31_Handle), (15, lf_R02_Same), (16, lf_proc_In), (17, lf_R31_In), (18, lf_proc_Handles), (19, lf_R31_Handles)]
theorem fns_L31_ProcTells_ok : FnsOk Go.Proofs.Try.prog fns_L31_ProcTells := FnsOk.cons c_L31_Small (FnsOk.cons c_L31_alive (FnsOk.cons c_L31_To (FnsOk.cons c_proc_Find (FnsOk.cons c_R31_Find (FnsOk.cons c_proc_Fine (FnsOk.cons c_R31_Fine (FnsOk.cons c_proc_Handle (FnsOk.cons c_R31_Handle (FnsOk.cons c_R02_Same (FnsOk.cons c_proc_In (FnsOk.cons c_R31_In (FnsOk.cons c_proc_Handles (FnsOk.cons c_R31_Handles (FnsOk.nil _))))))))))))))
def kp_L31_ProcTells : List (Nat × List Nat) := [(0, [0, 1, 2]), (1, [0, 1, 2, 14]), (2, [6]), (3, [0, 1, 2, 7]), (4, [0, 1, 2, 7, 8, 9]), (5, [0, 1, 7, 8, 9, 10, 11]), (6, [6]), (4000000, []), (4000001, []), (4000002, []), (4000003, []), (4000004, []), (4000005, []), (4000006, [])]
def od_L31_ProcTells : List (Nat × Ord) := []
noncomputable def E_L31_ProcTells : Env := ⟨0, 0, et_L31_ProcTells, tt_L31_ProcTells, fns_L31_ProcTells, [], od_L31_ProcTells, kp_L31_ProcTells, none, []⟩
set_option maxRecDepth 100000 in
set_option maxHeartbeats 40000000 in
theorem c_L31_ProcTells : PCon Go.Proofs.Try.prog 3 lf_L31_ProcTells := by
  rw [lq_L31_ProcTells]
  refine lift_conR (E := E_L31_ProcTells) (c := bodyOf Try.f3) (nt := 73) (rs := [.tmp 6]) (ts := [4]) (EnvC.sub (off := 0) (nt := 0) (ords := od_L31_ProcTells) (keep := kp_L31_ProcTells) (yl := none) tt_ok et_ok fns_L31_ProcTells_ok (PrsOk.nil _) (ItsOk.nil _) tt_L31_ProcTells_ok et_L31_ProcTells_ok) (PrOk.of mixed_ok) Go.Proofs.Try.func3 rfl (by decide) rfl rfl rfl (pureR_one (e := .bool) rfl) ?_
  intro x r hw hs
  repeat'
    (try (conv => whnf)
     first
       | (with_reducible have hs := letv_out hs)
       | (refine draw_and (by kernel_rfl) ?_)
       | (refine both_mk ?_ ?_)
       | (refine br_bool (fun h => ?_) (fun h => ?_) <;> first | have hs := cT h hs | have hs := cF h hs)
       | (refine bind_elim hs fun v hb hs => ?_; first | refine ck_L31_Small rfl hb ?_ | refine ck_L31_alive rfl hb ?_ | refine ck_L31_To rfl hb ?_ | refine ck_proc_Find rfl hb ?_ | refine ck_R31_Find rfl hb ?_ | refine ck_proc_Fine rfl hb ?_ | refine ck_R31_Fine rfl hb ?_ | refine ck_proc_Handle rfl hb ?_ | refine ck_R31_Handle rfl hb ?_ | refine ck_R02_Same rfl hb ?_ | refine ck_proc_In rfl hb ?_ | refine ck_R31_In rfl hb ?_ | refine ck_proc_Handles rfl hb ?_ | refine ck_R31_Handles rfl hb ?_)
       | refine chk_elim hs fun hs => ?_
       | (have hs := letv_out hs)
       | exact fin_some hs rfl
       | (intro b hb; first | have hs := nilq_elim hs b hb | have hs := nilqn_elim hs b hb)
       | (have hs := cT rfl hs)
       | (have hs := cF rfl hs)
       | exact (none_ne hs).elim)
theorem cq_L31_ProcTells : PCon Go.Proofs.Try.prog 3 (liftF (.pair (.sl (.pair (.int .i64) (.pair .bool (.pair (.int .i64) (.pair (.pair (.int .i64) (.pair .bool (.pair (.arr 8 (.int .i64)) (.pair (.arr 16 (.int .i64)) (.pair (.int .i64) (.pair (.arr 8 (.int .i64)) .unit)))))) (.pair (.int .i64) (.pair (.int .i64) (.pair (.int .i64) (.pair (.sl (.pair (.int .i64) (.pair (.int .i64) (.pair (.int .i64) (.pair (.int .i64) (.pair (.int .i64) .unit)))))) .unit))))))))) (.pair (.int .i64) (.pair (.int .i64) .unit))) (unpack .bool) (fun x => L31_ProcTells x.1 x.2.1 x.2.2.1)) := lq_L31_ProcTells ▸ c_L31_ProcTells
end Go.Proofs.YtejedlpnejjnbaaV
