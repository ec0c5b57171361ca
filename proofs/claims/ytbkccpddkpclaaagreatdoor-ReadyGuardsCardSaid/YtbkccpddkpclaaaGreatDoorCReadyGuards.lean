/- What becket/becketlaw29.ReadyGuards answers. -/
import Derived.Test.YtbkccpddkpclaaaGreatDoorVcTab
import Derived.Test.YtbkccpddkpclaaaGreatDoorDDReady
import Derived.Test.YtbkccpddkpclaaaGreatDoorCL29
import Derived.Test.YtbkccpddkpclaaaGreatDoorCCRg0a
import Derived.Test.YtbkccpddkpclaaaGreatDoorCCRg0b
import Derived.Test.YtbkccpddkpclaaaGreatDoorCready
namespace Go.Proofs.YtbkccpddkpclaaaGreatDoorV
open Go.Proofs
set_option linter.unusedVariables false
noncomputable def lf_L29_ReadyGuards : List AV → Option AV := liftF (.pair tyA12 (.pair (.int .i64) tyA3)) (unpack .bool) (fun x => L29_ReadyGuards x.1 x.2.1 x.2.2.1)
theorem lq_L29_ReadyGuards : lf_L29_ReadyGuards = liftF (.pair tyA12 (.pair (.int .i64) tyA3)) (unpack .bool) (fun x => L29_ReadyGuards x.1 x.2.1 x.2.2.1) := rfl
attribute [irreducible] lf_L29_ReadyGuards
theorem ck_L29_ReadyGuards {vs : List AV} {k : AV → Prop} {x : ((.pair tyA12 (.pair (.int .i64) tyA3)) : Ty).den} {v : Bool} (h1 : pks (.pair tyA12 (.pair (.int .i64) tyA3)) vs = some x) (h2 : L29_ReadyGuards x.1 x.2.1 x.2.2.1 = some v) (h3 : k ((unpack .bool) v)) : callK (lf_L29_ReadyGuards vs) k := by
  rw [lq_L29_ReadyGuards]; exact callK_lift h1 h2 h3
def tt_L29_ReadyGuards : List (Nat × Ty) := [(3, .int .i64), (4, .bool), (26, .sl (.int .i64)), (28, .pair (.int .i64) tyA33), (32, .pair (.int .i64) tyA14), (40, .pair (.int .i64) (.pair (.sl tyA0) (.pair (.sl (.pair (.pair .bool tyA3) (.pair (.pair (.arr 4 (.int .u64)) (.pair (.arr 4 (.int .u64)) .unit)) tyA3))) tyA1))), (42, .pair (.int .i64) tyA14)]
def et_L29_ReadyGuards : List (Nat × Nat) := [(26, 3)]
theorem tt_L29_ReadyGuards_ok : subT tt tt_L29_ReadyGuards = true := by kernel_rfl
theorem et_L29_ReadyGuards_ok : subE et et_L29_ReadyGuards = true := by kernel_rfl
noncomputable def fns_L29_ReadyGuards : List (Nat × (List AV → Option AV)) := [(5, lf_L29_Small), (6, lf_L29_alive), (7, lf_ready_Which), (8, lf_L29_To), (9, lf_R29_Which), (10, lf_L29_plain), (11, lf_R02_Same), (12, lf_ready_Guards), (13, lf_R29_Guards)]
theorem fns_L29_ReadyGuards_ok : FnsOk Go.Proofs.Tryz.prog fns_L29_ReadyGuards := FnsOk.cons c_L29_Small (FnsOk.cons c_L29_alive (FnsOk.cons c_ready_Which (FnsOk.cons c_L29_To (FnsOk.cons c_R29_Which (FnsOk.cons c_L29_plain (FnsOk.cons c_R02_Same (FnsOk.cons c_ready_Guards (FnsOk.cons c_R29_Guards (FnsOk.nil _)))))))))
def kp_L29_ReadyGuards : List (Nat × List Nat) := [(0, [1, 2, 3]), (1, [1, 2, 3, 13]), (2, [6]), (3, [1, 2, 3, 7, 8]), (4, [1, 3, 7, 8, 9, 10]), (5, [6]), (4000000, [3]), (4000001, [3]), (4000002, []), (4000003, [3, 7]), (4000004, [3, 7, 9]), (4000005, [])]
def od_L29_ReadyGuards : List (Nat × Ord) := [(5, (.one 0 (.one 2 (.one 4 (.one 6 (.one 1 (.one 3 (.one 5 (.one 100007 (.one 100008 (.one 9 (.one 10 (.one 11 (.one 12 (.one 13 (.one 14 (.one 15 (.one 16 (.one 17 (.one 18 (.one 19 (.one 100020 (.one 21 (.one 22 .nil))))))))))))))))))))))))]
noncomputable def E_L29_ReadyGuards : Env := ⟨0, 0, et_L29_ReadyGuards, tt_L29_ReadyGuards, fns_L29_ReadyGuards, [], od_L29_ReadyGuards, kp_L29_ReadyGuards, none, []⟩
set_option maxRecDepth 100000 in
set_option maxHeartbeats 40000000 in
theorem c_L29_ReadyGuards : PCon Go.Proofs.Tryz.prog 3 lf_L29_ReadyGuards := by
  rw [lq_L29_ReadyGuards]
  refine lift_conR (E := E_L29_ReadyGuards) (c := bodyOf Tryz.f3) (nt := 53) (rs := [.tmp 6]) (ts := [4]) (EnvC.sub (off := 0) (nt := 0) (ords := od_L29_ReadyGuards) (keep := kp_L29_ReadyGuards) (yl := none) tt_ok et_ok fns_L29_ReadyGuards_ok (PrsOk.nil _) (ItsOk.nil _) tt_L29_ReadyGuards_ok et_L29_ReadyGuards_ok) (PrOk.of mixed_ok) Go.Proofs.Tryz.func3 rfl (by decide) rfl rfl rfl (pureR_one (e := .bool) rfl) ?_
  intro x r hw hs
  repeat'
    (try (conv => whnf)
     first
       | (with_reducible have hs := letv_out hs)
       | (refine draw_and (by kernel_rfl) ?_)
       | (refine both_mk ?_ ?_)
       | (refine br_bool (fun h => ?_) (fun h => ?_) <;> first | have hs := cT h hs | have hs := cF h hs)
       | (refine bind_elim hs fun v hb hs => ?_; first | refine ck_L29_Small rfl hb ?_ | refine ck_L29_alive rfl hb ?_ | refine ck_ready_Which rfl hb ?_ | refine ck_L29_To rfl hb ?_ | refine ck_R29_Which rfl hb ?_ | refine ck_L29_plain rfl hb ?_ | refine ck_R02_Same rfl hb ?_ | refine ck_ready_Guards rfl hb ?_ | refine ck_R29_Guards rfl hb ?_)
       | refine chk_elim hs fun hs => ?_
       | (have hs := letv_out hs)
       | exact fin_some hs rfl
       | (intro b hb; first | have hs := nilq_elim hs b hb | have hs := nilqn_elim hs b hb)
       | (have hs := cT rfl hs)
       | (have hs := cF rfl hs)
       | exact (none_ne hs).elim)
theorem cq_L29_ReadyGuards : PCon Go.Proofs.Tryz.prog 3 (liftF (.pair tyA12 (.pair (.int .i64) tyA3)) (unpack .bool) (fun x => L29_ReadyGuards x.1 x.2.1 x.2.2.1)) := lq_L29_ReadyGuards ▸ c_L29_ReadyGuards
end Go.Proofs.YtbkccpddkpclaaaGreatDoorV
