/- What becket/becketlaw23.BartabNew answers. -/
import Derived.Test.YtkpobmmabmelfaaDoorVcTab
import Derived.Test.YtkpobmmabmelfaaDoorDDBtab
import Derived.Test.YtkpobmmabmelfaaDoorCL23
import Derived.Test.YtkpobmmabmelfaaDoorCR23
import Derived.Test.YtkpobmmabmelfaaDoorCbartab
namespace Go.Proofs.YtkpobmmabmelfaaDoorV
open Go.Proofs
set_option linter.unusedVariables false
noncomputable def lf_L23_BartabNew : List AV → Option AV := liftF (.pair (.sl (.pair .bool (.pair (.int .i64) .unit))) .unit) (unpack .bool) (fun x => L23_BartabNew x.1)
theorem lq_L23_BartabNew : lf_L23_BartabNew = liftF (.pair (.sl (.pair .bool (.pair (.int .i64) .unit))) .unit) (unpack .bool) (fun x => L23_BartabNew x.1) := rfl
attribute [irreducible] lf_L23_BartabNew
theorem ck_L23_BartabNew {vs : List AV} {k : AV → Prop} {x : ((.pair (.sl (.pair .bool (.pair (.int .i64) .unit))) .unit) : Ty).den} {v : Bool} (h1 : pks (.pair (.sl (.pair .bool (.pair (.int .i64) .unit))) .unit) vs = some x) (h2 : L23_BartabNew x.1 = some v) (h3 : k ((unpack .bool) v)) : callK (lf_L23_BartabNew vs) k := by
  rw [lq_L23_BartabNew]; exact callK_lift h1 h2 h3
def tt_L23_BartabNew : List (Nat × Ty) := [(3, .int .i64), (4, .bool), (68, .sl (.pair (.pair .bool (.pair (.int .i64) .unit)) (.pair (.pair (.sl (.int .i64)) (.pair (.sl (.int .i64)) .unit)) (.pair (.int .i64) .unit)))), (74, .sl (.pair (.pair .bool (.pair (.int .i64) .unit)) (.pair (.pair (.arr 4 (.int .u64)) (.pair (.arr 4 (.int .u64)) .unit)) (.pair (.int .i64) .unit)))), (96, .sl (.pair .bool (.pair (.int .i64) .unit)))]
def et_L23_BartabNew : List (Nat × Nat) := [(68, 28), (74, 38), (96, 23)]
theorem tt_L23_BartabNew_ok : subT tt tt_L23_BartabNew = true := by kernel_rfl
theorem et_L23_BartabNew_ok : subE et et_L23_BartabNew = true := by kernel_rfl
noncomputable def fns_L23_BartabNew : List (Nat × (List AV → Option AV)) := [(38, lf_L23_alive), (43, lf_L23_Same), (44, lf_L23_From), (57, lf_bartab_New), (58, lf_R23_New)]
theorem fns_L23_BartabNew_ok : FnsOk Go.Proofs.Tryd.prog fns_L23_BartabNew := FnsOk.cons c_L23_alive (FnsOk.cons c_L23_Same (FnsOk.cons c_L23_From (FnsOk.cons c_bartab_New (FnsOk.cons c_R23_New (FnsOk.nil _)))))
def kp_L23_BartabNew : List (Nat × List Nat) := [(0, [0]), (1, [0, 11]), (2, [2]), (3, [0, 3, 4, 5]), (4, [3, 4, 5, 6, 7, 8]), (5, [2]), (4000000, []), (4000001, []), (4000002, []), (4000003, []), (4000004, []), (4000005, [])]
def od_L23_BartabNew : List (Nat × Ord) := []
noncomputable def E_L23_BartabNew : Env := ⟨0, 0, et_L23_BartabNew, tt_L23_BartabNew, fns_L23_BartabNew, [], od_L23_BartabNew, kp_L23_BartabNew, none, []⟩
set_option maxRecDepth 100000 in
set_option maxHeartbeats 40000000 in
theorem c_L23_BartabNew : PCon Go.Proofs.Tryd.prog 8 lf_L23_BartabNew := by
  rw [lq_L23_BartabNew]
  refine lift_conR (E := E_L23_BartabNew) (c := bodyOf Tryd.f8) (nt := 42) (rs := [.tmp 2]) (ts := [4]) (EnvC.sub (off := 0) (nt := 0) (ords := od_L23_BartabNew) (keep := kp_L23_BartabNew) (yl := none) tt_ok et_ok fns_L23_BartabNew_ok (PrsOk.nil _) (ItsOk.nil _) tt_L23_BartabNew_ok et_L23_BartabNew_ok) (PrOk.of mixed_ok) Go.Proofs.Tryd.func8 rfl (by decide) rfl rfl rfl (pureR_one (e := .bool) rfl) ?_
  intro x r hw hs
  repeat'
    (try (conv => whnf)
     first
       | (with_reducible have hs := letv_out hs)
       | (refine draw_and (by kernel_rfl) ?_)
       | (refine both_mk ?_ ?_)
       | (refine br_bool (fun h => ?_) (fun h => ?_) <;> first | have hs := cT h hs | have hs := cF h hs)
       | (refine bind_elim hs fun v hb hs => ?_; first | refine ck_L23_alive rfl hb ?_ | refine ck_L23_Same rfl hb ?_ | refine ck_L23_From rfl hb ?_ | refine ck_bartab_New rfl hb ?_ | refine ck_R23_New rfl hb ?_)
       | refine chk_elim hs fun hs => ?_
       | (have hs := letv_out hs)
       | exact fin_some hs rfl
       | (intro b hb; first | have hs := nilq_elim hs b hb | have hs := nilqn_elim hs b hb)
       | (have hs := cT rfl hs)
       | (have hs := cF rfl hs)
       | exact (none_ne hs).elim)
theorem cq_L23_BartabNew : PCon Go.Proofs.Tryd.prog 8 (liftF (.pair (.sl (.pair .bool (.pair (.int .i64) .unit))) .unit) (unpack .bool) (fun x => L23_BartabNew x.1)) := lq_L23_BartabNew ▸ c_L23_BartabNew
end Go.Proofs.YtkpobmmabmelfaaDoorV
