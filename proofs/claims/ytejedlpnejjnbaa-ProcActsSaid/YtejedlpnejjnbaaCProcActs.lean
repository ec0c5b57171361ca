/- What becket/becketlaw31.ProcActs answers. -/
import Derived.Test.YtejedlpnejjnbaaVcTab
import Derived.Test.YtejedlpnejjnbaaDProcActs
import Derived.Test.YtejedlpnejjnbaaCL31
import Derived.Test.YtejedlpnejjnbaaCR31
import Derived.Test.YtejedlpnejjnbaaCproc
namespace Go.Proofs.YtejedlpnejjnbaaV
open Go.Proofs
set_option linter.unusedVariables false
noncomputable def lf_L31_ProcActs : List AV → Option AV := liftF (.pair (.sl (.pair (.int .i64) (.pair .bool (.pair (.int .i64) (.pair (.pair (.int .i64) (.pair .bool (.pair (.arr 8 (.int .i64)) (.pair (.arr 16 (.int .i64)) (.pair (.int .i64) (.pair (.arr 8 (.int .i64)) .unit)))))) (.pair (.int .i64) (.pair (.int .i64) (.pair (.int .i64) (.pair (.sl (.pair (.int .i64) (.pair (.int .i64) (.pair (.int .i64) (.pair (.int .i64) (.pair (.int .i64) .unit)))))) .unit))))))))) (.pair (.arr 3 (.int .i64)) .unit)) (unpack .bool) (fun x => L31_ProcActs x.1 x.2.1)
theorem lq_L31_ProcActs : lf_L31_ProcActs = liftF (.pair (.sl (.pair (.int .i64) (.pair .bool (.pair (.int .i64) (.pair (.pair (.int .i64) (.pair .bool (.pair (.arr 8 (.int .i64)) (.pair (.arr 16 (.int .i64)) (.pair (.int .i64) (.pair (.arr 8 (.int .i64)) .unit)))))) (.pair (.int .i64) (.pair (.int .i64) (.pair (.int .i64) (.pair (.sl (.pair (.int .i64) (.pair (.int .i64) (.pair (.int .i64) (.pair (.int .i64) (.pair (.int .i64) .unit)))))) .unit))))))))) (.pair (.arr 3 (.int .i64)) .unit)) (unpack .bool) (fun x => L31_ProcActs x.1 x.2.1) := rfl
attribute [irreducible] lf_L31_ProcActs
theorem ck_L31_ProcActs {vs : List AV} {k : AV → Prop} {x : ((.pair (.sl (.pair (.int .i64) (.pair .bool (.pair (.int .i64) (.pair (.pair (.int .i64) (.pair .bool (.pair (.arr 8 (.int .i64)) (.pair (.arr 16 (.int .i64)) (.pair (.int .i64) (.pair (.arr 8 (.int .i64)) .unit)))))) (.pair (.int .i64) (.pair (.int .i64) (.pair (.int .i64) (.pair (.sl (.pair (.int .i64) (.pair (.int .i64) (.pair (.int .i64) (.pair (.int .i64) (.pair (.int .i64) .unit)))))) .unit))))))))) (.pair (.arr 3 (.int .i64)) .unit)) : Ty).den} {v : Bool} (h1 : pks (.pair (.sl (.pair (.int .i64) (.pair .bool (.pair (.int .i64) (.pair (.pair (.int .i64) (.pair .bool (.pair (.arr 8 (.int .i64)) (.pair (.arr 16 (.int .i64)) (.pair (.int .i64) (.pair (.arr 8 (.int .i64)) .unit)))))) (.pair (.int .i64) (.pair (.int .i64) (.pair (.int .i64) (.pair (.sl (.pair (.int .i64) (.pair (.int .i64) (.pair (.int .i64) (.pair (.int .i64) (.pair (.int .i64) .unit)))))) .unit))))))))) (.pair (.arr 3 (.int .i64)) .unit)) vs = some x) (h2 : L31_ProcActs x.1 x.2.1 = some v) (h3 : k ((unpack .bool) v)) : callK (lf_L31_ProcActs vs) k := by
  rw [lq_L31_ProcActs]; exact callK_lift h1 h2 h3
def tt_L31_ProcActs : List (Nat × Ty) := [(3, .int .i64), (4, .bool), (22, .sl (.pair (.int .i64) (.pair .bool (.pair (.int .i64) (.pair (.pair (.int .i64) (.pair .bool (.pair (.arr 8 (.int .i64)) (.pair (.arr 16 (.int .i64)) (.pair (.int .i64) (.pair (.arr 8 (.int .i64)) .unit)))))) (.pair (.int .i64) (.pair (.int .i64) (.pair (.int .i64) (.pair (.sl (.pair (.int .i64) (.pair (.int .i64) (.pair (.int .i64) (.pair (.int .i64) (.pair (.int .i64) .unit)))))) .unit))))))))), (25, .sl (.pair (.int .i64) (.pair .bool (.pair (.int .i64) (.pair (.pair (.int .i64) (.pair .bool (.pair (.arr 8 (.int .i64)) (.pair (.arr 16 (.int .i64)) (.pair (.int .i64) (.pair (.arr 8 (.int .i64)) .unit)))))) (.pair (.int .i64) (.pair (.int .i64) (.pair (.int .i64) (.pair (.sl (.pair (.int .i64) (.pair (.int .i64) (.pair (.int .i64) (.pair (.int .i64) (.pair (.int .i64) .unit)))))) .unit))))))))), (42, .arr 3 (.int .i64))]
def et_L31_ProcActs : List (Nat × Nat) := [(22, 66), (25, 69)]
theorem tt_L31_ProcActs_ok : subT tt tt_L31_ProcActs = true := by kernel_rfl
theorem et_L31_ProcActs_ok : subE et et_L31_ProcActs = true := by kernel_rfl
noncomputable def fns_L31_ProcActs : List (Nat × (List AV → Option AV)) := [(6, lf_L31_Small), (7, lf_L31_alive), (8, lf_L31_To), (20, lf_proc_Spawn), (21, lf_R31_Spawn), (22, lf_proc_End), (23, lf_R31_End), (24, lf_proc_Reap), (25, lf_R31_Reap), (26, lf_R31_Same), (27, lf_L31_From)]
theorem fns_L31_ProcActs_ok : FnsOk Go.Proofs.Try.prog fns_L31_ProcActs := FnsOk.cons c_L31_Small (FnsOk.cons c_L31_alive (FnsOk.cons c_L31_To (FnsOk.cons c_proc_Spawn (FnsOk.cons c_R31_Spawn (FnsOk.cons c_proc_End (FnsOk.cons c_R31_End (FnsOk.cons c_proc_Reap (FnsOk.cons c_R31_Reap (FnsOk.cons c_R31_Same (FnsOk.cons c_L31_From (FnsOk.nil _)))))))))))
def kp_L31_ProcActs : List (Nat × List Nat) := [(0, [0, 3]), (1, [0, 3, 24]), (2, [4]), (3, [0, 3, 5]), (4, [0, 3, 5, 6, 7, 8]), (5, [0, 3, 5, 6, 7, 8, 9, 10, 11]), (6, [0, 3, 5, 6, 7, 8, 9, 10, 11, 12, 13]), (7, [0, 3, 5, 6, 7, 8, 9, 10, 11, 12, 13, 14, 15]), (8, [0, 3, 6, 7, 8, 9, 10, 11, 12, 13, 14, 15, 16, 17, 18]), (9, [6, 7, 8, 9, 10, 11, 12, 13, 14, 15, 16, 17, 18, 19, 20, 21]), (10, [4]), (4000000, [3]), (4000001, [3]), (4000002, []), (4000003, [3]), (4000004, [3]), (4000005, [3]), (4000006, [3]), (4000007, [3]), (4000008, [3]), (4000009, []), (4000010, [])]
def od_L31_ProcActs : List (Nat × Ord) := []
noncomputable def E_L31_ProcActs : Env := ⟨0, 0, et_L31_ProcActs, tt_L31_ProcActs, fns_L31_ProcActs, [], od_L31_ProcActs, kp_L31_ProcActs, none, []⟩
set_option maxRecDepth 100000 in
set_option maxHeartbeats 40000000 in
theorem c_L31_ProcActs : PCon Go.Proofs.Try.prog 4 lf_L31_ProcActs := by
  rw [lq_L31_ProcActs]
  refine lift_conR (E := E_L31_ProcActs) (c := bodyOf Try.f4) (nt := 126) (rs := [.tmp 4]) (ts := [4]) (EnvC.sub (off := 0) (nt := 0) (ords := od_L31_ProcActs) (keep := kp_L31_ProcActs) (yl := none) tt_ok et_ok fns_L31_ProcActs_ok (PrsOk.nil _) (ItsOk.nil _) tt_L31_ProcActs_ok et_L31_ProcActs_ok) (PrOk.of mixed_ok) Go.Proofs.Try.func4 rfl (by decide) rfl rfl rfl (pureR_one (e := .bool) rfl) ?_
  intro x r hw hs
  repeat'
    (try (conv => whnf)
     first
       | (with_reducible have hs := letv_out hs)
       | (refine draw_and (by kernel_rfl) ?_)
       | (refine both_mk ?_ ?_)
       | (refine br_bool (fun h => ?_) (fun h => ?_) <;> first | have hs := cT h hs | have hs := cF h hs)
       | (refine bind_elim hs fun v hb hs => ?_; first | refine ck_L31_Small rfl hb ?_ | refine ck_L31_alive rfl hb ?_ | refine ck_L31_To rfl hb ?_ | refine ck_proc_Spawn rfl hb ?_ | refine ck_R31_Spawn rfl hb ?_ | refine ck_proc_End rfl hb ?_ | refine ck_R31_End rfl hb ?_ | refine ck_proc_Reap rfl hb ?_ | refine ck_R31_Reap rfl hb ?_ | refine ck_R31_Same rfl hb ?_ | refine ck_L31_From rfl hb ?_)
       | refine chk_elim hs fun hs => ?_
       | (have hs := letv_out hs)
       | exact fin_some hs rfl
       | (intro b hb; first | have hs := nilq_elim hs b hb | have hs := nilqn_elim hs b hb)
       | (have hs := cT rfl hs)
       | (have hs := cF rfl hs)
       | exact (none_ne hs).elim)
theorem cq_L31_ProcActs : PCon Go.Proofs.Try.prog 4 (liftF (.pair (.sl (.pair (.int .i64) (.pair .bool (.pair (.int .i64) (.pair (.pair (.int .i64) (.pair .bool (.pair (.arr 8 (.int .i64)) (.pair (.arr 16 (.int .i64)) (.pair (.int .i64) (.pair (.arr 8 (.int .i64)) .unit)))))) (.pair (.int .i64) (.pair (.int .i64) (.pair (.int .i64) (.pair (.sl (.pair (.int .i64) (.pair (.int .i64) (.pair (.int .i64) (.pair (.int .i64) (.pair (.int .i64) .unit)))))) .unit))))))))) (.pair (.arr 3 (.int .i64)) .unit)) (unpack .bool) (fun x => L31_ProcActs x.1 x.2.1)) := lq_L31_ProcActs ▸ c_L31_ProcActs
end Go.Proofs.YtejedlpnejjnbaaV
