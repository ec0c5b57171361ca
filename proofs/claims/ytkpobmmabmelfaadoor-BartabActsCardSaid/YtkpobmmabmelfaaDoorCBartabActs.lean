/- What becket/becketlaw23.BartabActs answers. -/
import Derived.Test.YtkpobmmabmelfaaDoorVcTab
import Derived.Test.YtkpobmmabmelfaaDoorDDBtab
import Derived.Test.YtkpobmmabmelfaaDoorCL23
import Derived.Test.YtkpobmmabmelfaaDoorCR02
import Derived.Test.YtkpobmmabmelfaaDoorCR23
import Derived.Test.YtkpobmmabmelfaaDoorCbartab
namespace Go.Proofs.YtkpobmmabmelfaaDoorV
open Go.Proofs
set_option linter.unusedVariables false
noncomputable def lf_L23_BartabActs : List AV → Option AV := liftF (.pair (.sl (.pair (.pair .bool (.pair (.int .i64) .unit)) (.pair (.pair (.sl (.int .i64)) (.pair (.sl (.int .i64)) .unit)) (.pair (.int .i64) .unit)))) (.pair (.int .i64) (.pair (.int .i64) .unit))) (unpack .bool) (fun x => L23_BartabActs x.1 x.2.1 x.2.2.1)
theorem lq_L23_BartabActs : lf_L23_BartabActs = liftF (.pair (.sl (.pair (.pair .bool (.pair (.int .i64) .unit)) (.pair (.pair (.sl (.int .i64)) (.pair (.sl (.int .i64)) .unit)) (.pair (.int .i64) .unit)))) (.pair (.int .i64) (.pair (.int .i64) .unit))) (unpack .bool) (fun x => L23_BartabActs x.1 x.2.1 x.2.2.1) := rfl
attribute [irreducible] lf_L23_BartabActs
theorem ck_L23_BartabActs {vs : List AV} {k : AV → Prop} {x : ((.pair (.sl (.pair (.pair .bool (.pair (.int .i64) .unit)) (.pair (.pair (.sl (.int .i64)) (.pair (.sl (.int .i64)) .unit)) (.pair (.int .i64) .unit)))) (.pair (.int .i64) (.pair (.int .i64) .unit))) : Ty).den} {v : Bool} (h1 : pks (.pair (.sl (.pair (.pair .bool (.pair (.int .i64) .unit)) (.pair (.pair (.sl (.int .i64)) (.pair (.sl (.int .i64)) .unit)) (.pair (.int .i64) .unit)))) (.pair (.int .i64) (.pair (.int .i64) .unit))) vs = some x) (h2 : L23_BartabActs x.1 x.2.1 x.2.2.1 = some v) (h3 : k ((unpack .bool) v)) : callK (lf_L23_BartabActs vs) k := by
  rw [lq_L23_BartabActs]; exact callK_lift h1 h2 h3
def tt_L23_BartabActs : List (Nat × Ty) := [(3, .int .i64), (4, .bool), (24, .sl (.int .i64)), (68, .sl (.pair (.pair .bool (.pair (.int .i64) .unit)) (.pair (.pair (.sl (.int .i64)) (.pair (.sl (.int .i64)) .unit)) (.pair (.int .i64) .unit)))), (74, .sl (.pair (.pair .bool (.pair (.int .i64) .unit)) (.pair (.pair (.arr 4 (.int .u64)) (.pair (.arr 4 (.int .u64)) .unit)) (.pair (.int .i64) .unit))))]
def et_L23_BartabActs : List (Nat × Nat) := [(24, 3), (68, 28), (74, 38)]
theorem tt_L23_BartabActs_ok : subT tt tt_L23_BartabActs = true := by kernel_rfl
theorem et_L23_BartabActs_ok : subE et et_L23_BartabActs = true := by kernel_rfl
noncomputable def fns_L23_BartabActs : List (Nat × (List AV → Option AV)) := [(20, lf_R02_Same), (37, lf_L23_Small), (38, lf_L23_alive), (39, lf_L23_Plain), (40, lf_L23_To), (43, lf_L23_Same), (44, lf_L23_From), (49, lf_bartab_Enrol), (50, lf_R23_Enrol), (51, lf_bartab_Resign), (52, lf_R23_Resign), (53, lf_bartab_Fire), (54, lf_R23_Fire), (55, lf_bartab_Ready), (56, lf_R23_Ready)]
theorem fns_L23_BartabActs_ok : FnsOk Go.Proofs.Tryd.prog fns_L23_BartabActs := FnsOk.cons c_R02_Same (FnsOk.cons c_L23_Small (FnsOk.cons c_L23_alive (FnsOk.cons c_L23_Plain (FnsOk.cons c_L23_To (FnsOk.cons c_L23_Same (FnsOk.cons c_L23_From (FnsOk.cons c_bartab_Enrol (FnsOk.cons c_R23_Enrol (FnsOk.cons c_bartab_Resign (FnsOk.cons c_R23_Resign (FnsOk.cons c_bartab_Fire (FnsOk.cons c_R23_Fire (FnsOk.cons c_bartab_Ready (FnsOk.cons c_R23_Ready (FnsOk.nil _)))))))))))))))
def kp_L23_BartabActs : List (Nat × List Nat) := [(0, [0, 1, 2]), (1, [0, 1, 2, 25]), (2, [6]), (3, [1, 2, 7]), (4, [1, 2, 7, 8]), (5, [1, 2, 7, 8, 9, 10]), (6, [1, 2, 7, 8, 9, 10, 11, 12]), (7, [1, 2, 7, 8, 9, 10, 11, 12, 13, 14]), (8, [1, 7, 8, 9, 10, 11, 12, 13, 14, 15, 16]), (9, [1, 7, 8, 9, 10, 11, 12, 13, 14, 15, 16, 17, 18, 19]), (10, [7, 8, 9, 10, 11, 12, 13, 14, 15, 16, 17, 18, 19, 20, 21, 22]), (11, [6]), (4000000, []), (4000001, []), (4000002, []), (4000003, []), (4000004, []), (4000005, []), (4000006, []), (4000007, []), (4000008, []), (4000009, []), (4000010, []), (4000011, [])]
def od_L23_BartabActs : List (Nat × Ord) := []
noncomputable def E_L23_BartabActs : Env := ⟨0, 0, et_L23_BartabActs, tt_L23_BartabActs, fns_L23_BartabActs, [], od_L23_BartabActs, kp_L23_BartabActs, none, []⟩
set_option maxRecDepth 100000 in
set_option maxHeartbeats 40000000 in
theorem c_L23_BartabActs : PCon Go.Proofs.Tryd.prog 7 lf_L23_BartabActs := by
  rw [lq_L23_BartabActs]
  refine lift_conR (E := E_L23_BartabActs) (c := bodyOf Tryd.f7) (nt := 119) (rs := [.tmp 6]) (ts := [4]) (EnvC.sub (off := 0) (nt := 0) (ords := od_L23_BartabActs) (keep := kp_L23_BartabActs) (yl := none) tt_ok et_ok fns_L23_BartabActs_ok (PrsOk.nil _) (ItsOk.nil _) tt_L23_BartabActs_ok et_L23_BartabActs_ok) (PrOk.of mixed_ok) Go.Proofs.Tryd.func7 rfl (by decide) rfl rfl rfl (pureR_one (e := .bool) rfl) ?_
  intro x r hw hs
  repeat'
    (try (conv => whnf)
     first
       | (with_reducible have hs := letv_out hs)
       | (refine draw_and (by kernel_rfl) ?_)
       | (refine both_mk ?_ ?_)
       | (refine br_bool (fun h => ?_) (fun h => ?_) <;> first | have hs := cT h hs | have hs := cF h hs)
       | (refine bind_elim hs fun v hb hs => ?_; first | refine ck_R02_Same rfl hb ?_ | refine ck_L23_Small rfl hb ?_ | refine ck_L23_alive rfl hb ?_ | refine ck_L23_Plain rfl hb ?_ | refine ck_L23_To rfl hb ?_ | refine ck_L23_Same rfl hb ?_ | refine ck_L23_From rfl hb ?_ | refine ck_bartab_Enrol rfl hb ?_ | refine ck_R23_Enrol rfl hb ?_ | refine ck_bartab_Resign rfl hb ?_ | refine ck_R23_Resign rfl hb ?_ | refine ck_bartab_Fire rfl hb ?_ | refine ck_R23_Fire rfl hb ?_ | refine ck_bartab_Ready rfl hb ?_ | refine ck_R23_Ready rfl hb ?_)
       | refine chk_elim hs fun hs => ?_
       | (have hs := letv_out hs)
       | exact fin_some hs rfl
       | (intro b hb; first | have hs := nilq_elim hs b hb | have hs := nilqn_elim hs b hb)
       | (have hs := cT rfl hs)
       | (have hs := cF rfl hs)
       | exact (none_ne hs).elim)
theorem cq_L23_BartabActs : PCon Go.Proofs.Tryd.prog 7 (liftF (.pair (.sl (.pair (.pair .bool (.pair (.int .i64) .unit)) (.pair (.pair (.sl (.int .i64)) (.pair (.sl (.int .i64)) .unit)) (.pair (.int .i64) .unit)))) (.pair (.int .i64) (.pair (.int .i64) .unit))) (unpack .bool) (fun x => L23_BartabActs x.1 x.2.1 x.2.2.1)) := lq_L23_BartabActs ▸ c_L23_BartabActs
end Go.Proofs.YtkpobmmabmelfaaDoorV
