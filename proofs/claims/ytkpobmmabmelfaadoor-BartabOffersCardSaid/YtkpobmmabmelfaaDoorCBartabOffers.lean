/- What becket/becketlaw23.BartabOffers answers. -/
import Derived.Test.YtkpobmmabmelfaaDoorVcTab
import Derived.Test.YtkpobmmabmelfaaDoorDDBtab
import Derived.Test.YtkpobmmabmelfaaDoorCL23
import Derived.Test.YtkpobmmabmelfaaDoorCR23
import Derived.Test.YtkpobmmabmelfaaDoorCbartab
namespace Go.Proofs.YtkpobmmabmelfaaDoorV
open Go.Proofs
set_option linter.unusedVariables false
noncomputable def lf_L23_BartabOffers : List AV → Option AV := liftF (.pair (.sl (.pair (.pair .bool (.pair (.int .i64) .unit)) (.pair (.pair (.sl (.int .i64)) (.pair (.sl (.int .i64)) .unit)) (.pair (.int .i64) .unit)))) (.pair (.pair (.int .i64) (.pair (.sl (.pair (.int .i64) (.pair (.int .i64) (.pair (.int .i64) (.pair (.int .i64) (.pair (.int .i64) .unit)))))) (.pair .bool .unit))) .unit)) (unpack .bool) (fun x => L23_BartabOffers x.1 x.2.1)
theorem lq_L23_BartabOffers : lf_L23_BartabOffers = liftF (.pair (.sl (.pair (.pair .bool (.pair (.int .i64) .unit)) (.pair (.pair (.sl (.int .i64)) (.pair (.sl (.int .i64)) .unit)) (.pair (.int .i64) .unit)))) (.pair (.pair (.int .i64) (.pair (.sl (.pair (.int .i64) (.pair (.int .i64) (.pair (.int .i64) (.pair (.int .i64) (.pair (.int .i64) .unit)))))) (.pair .bool .unit))) .unit)) (unpack .bool) (fun x => L23_BartabOffers x.1 x.2.1) := rfl
attribute [irreducible] lf_L23_BartabOffers
theorem ck_L23_BartabOffers {vs : List AV} {k : AV → Prop} {x : ((.pair (.sl (.pair (.pair .bool (.pair (.int .i64) .unit)) (.pair (.pair (.sl (.int .i64)) (.pair (.sl (.int .i64)) .unit)) (.pair (.int .i64) .unit)))) (.pair (.pair (.int .i64) (.pair (.sl (.pair (.int .i64) (.pair (.int .i64) (.pair (.int .i64) (.pair (.int .i64) (.pair (.int .i64) .unit)))))) (.pair .bool .unit))) .unit)) : Ty).den} {v : Bool} (h1 : pks (.pair (.sl (.pair (.pair .bool (.pair (.int .i64) .unit)) (.pair (.pair (.sl (.int .i64)) (.pair (.sl (.int .i64)) .unit)) (.pair (.int .i64) .unit)))) (.pair (.pair (.int .i64) (.pair (.sl (.pair (.int .i64) (.pair (.int .i64) (.pair (.int .i64) (.pair (.int .i64) (.pair (.int .i64) .unit)))))) (.pair .bool .unit))) .unit)) vs = some x) (h2 : L23_BartabOffers x.1 x.2.1 = some v) (h3 : k ((unpack .bool) v)) : callK (lf_L23_BartabOffers vs) k := by
  rw [lq_L23_BartabOffers]; exact callK_lift h1 h2 h3
def tt_L23_BartabOffers : List (Nat × Ty) := [(3, .int .i64), (4, .bool), (68, .sl (.pair (.pair .bool (.pair (.int .i64) .unit)) (.pair (.pair (.sl (.int .i64)) (.pair (.sl (.int .i64)) .unit)) (.pair (.int .i64) .unit)))), (69, .sl (.pair (.int .i64) (.pair (.int .i64) (.pair (.int .i64) (.pair (.int .i64) (.pair (.int .i64) .unit)))))), (71, .pair (.int .i64) (.pair (.sl (.pair (.int .i64) (.pair (.int .i64) (.pair (.int .i64) (.pair (.int .i64) (.pair (.int .i64) .unit)))))) (.pair .bool .unit))), (74, .sl (.pair (.pair .bool (.pair (.int .i64) .unit)) (.pair (.pair (.arr 4 (.int .u64)) (.pair (.arr 4 (.int .u64)) .unit)) (.pair (.int .i64) .unit))))]
def et_L23_BartabOffers : List (Nat × Nat) := [(68, 28), (69, 127), (74, 38)]
theorem tt_L23_BartabOffers_ok : subT tt tt_L23_BartabOffers = true := by kernel_rfl
theorem et_L23_BartabOffers_ok : subE et et_L23_BartabOffers = true := by kernel_rfl
noncomputable def fns_L23_BartabOffers : List (Nat × (List AV → Option AV)) := [(37, lf_L23_Small), (38, lf_L23_alive), (39, lf_L23_Plain), (40, lf_L23_To), (41, lf_bartab_Offer), (42, lf_R23_Offer), (43, lf_L23_Same), (44, lf_L23_From), (45, lf_bartab_Leave), (46, lf_R23_Leave), (47, lf_bartab_Quit), (48, lf_R23_Quit)]
theorem fns_L23_BartabOffers_ok : FnsOk Go.Proofs.Tryd.prog fns_L23_BartabOffers := FnsOk.cons c_L23_Small (FnsOk.cons c_L23_alive (FnsOk.cons c_L23_Plain (FnsOk.cons c_L23_To (FnsOk.cons c_bartab_Offer (FnsOk.cons c_R23_Offer (FnsOk.cons c_L23_Same (FnsOk.cons c_L23_From (FnsOk.cons c_bartab_Leave (FnsOk.cons c_R23_Leave (FnsOk.cons c_bartab_Quit (FnsOk.cons c_R23_Quit (FnsOk.nil _))))))))))))
def kp_L23_BartabOffers : List (Nat × List Nat) := [(0, [0, 3]), (1, [0, 3, 21]), (2, [4]), (3, [3, 5]), (4, [3, 5, 6]), (5, [3, 5, 6, 7, 8, 9]), (6, [3, 5, 6, 7, 8, 9, 10, 11, 12]), (7, [4]), (4000000, [3]), (4000001, [3]), (4000002, []), (4000003, [3]), (4000004, [3]), (4000005, [3]), (4000006, [3]), (4000007, [])]
def od_L23_BartabOffers : List (Nat × Ord) := [(7, (.one 0 (.one 2 (.one 1 (.one 100003 (.one 4 (.one 5 (.one 6 (.one 7 (.one 8 (.one 9 (.one 10 (.one 11 (.one 12 (.one 13 (.one 14 (.one 15 (.one 16 (.one 17 (.one 20 (.one 21 (.one 22 (.one 18 (.one 19 (.one 100023 (.one 100024 (.one 25 (.one 26 (.one 27 (.one 28 (.one 29 (.one 32 (.one 33 (.one 34 (.one 30 (.one 31 (.one 100035 (.one 100036 (.one 37 (.one 38 (.one 100039 (.one 40 (.one 41 .nil)))))))))))))))))))))))))))))))))))))))))))]
noncomputable def E_L23_BartabOffers : Env := ⟨0, 0, et_L23_BartabOffers, tt_L23_BartabOffers, fns_L23_BartabOffers, [], od_L23_BartabOffers, kp_L23_BartabOffers, none, []⟩
set_option maxRecDepth 100000 in
set_option maxHeartbeats 40000000 in
theorem c_L23_BartabOffers : PCon Go.Proofs.Tryd.prog 6 lf_L23_BartabOffers := by
  rw [lq_L23_BartabOffers]
  refine lift_conR (E := E_L23_BartabOffers) (c := bodyOf Tryd.f6) (nt := 92) (rs := [.tmp 4]) (ts := [4]) (EnvC.sub (off := 0) (nt := 0) (ords := od_L23_BartabOffers) (keep := kp_L23_BartabOffers) (yl := none) tt_ok et_ok fns_L23_BartabOffers_ok (PrsOk.nil _) (ItsOk.nil _) tt_L23_BartabOffers_ok et_L23_BartabOffers_ok) (PrOk.of mixed_ok) Go.Proofs.Tryd.func6 rfl (by decide) rfl rfl rfl (pureR_one (e := .bool) rfl) ?_
  intro x r hw hs
  repeat'
    (try (conv => whnf)
     first
       | (with_reducible have hs := letv_out hs)
       | (refine draw_and (by kernel_rfl) ?_)
       | (refine both_mk ?_ ?_)
       | (refine br_bool (fun h => ?_) (fun h => ?_) <;> first | have hs := cT h hs | have hs := cF h hs)
       | (refine bind_elim hs fun v hb hs => ?_; first | refine ck_L23_Small rfl hb ?_ | refine ck_L23_alive rfl hb ?_ | refine ck_L23_Plain rfl hb ?_ | refine ck_L23_To rfl hb ?_ | refine ck_bartab_Offer rfl hb ?_ | refine ck_R23_Offer rfl hb ?_ | refine ck_L23_Same rfl hb ?_ | refine ck_L23_From rfl hb ?_ | refine ck_bartab_Leave rfl hb ?_ | refine ck_R23_Leave rfl hb ?_ | refine ck_bartab_Quit rfl hb ?_ | refine ck_R23_Quit rfl hb ?_)
       | refine chk_elim hs fun hs => ?_
       | (have hs := letv_out hs)
       | exact fin_some hs rfl
       | (intro b hb; first | have hs := nilq_elim hs b hb | have hs := nilqn_elim hs b hb)
       | (have hs := cT rfl hs)
       | (have hs := cF rfl hs)
       | exact (none_ne hs).elim)
theorem cq_L23_BartabOffers : PCon Go.Proofs.Tryd.prog 6 (liftF (.pair (.sl (.pair (.pair .bool (.pair (.int .i64) .unit)) (.pair (.pair (.sl (.int .i64)) (.pair (.sl (.int .i64)) .unit)) (.pair (.int .i64) .unit)))) (.pair (.pair (.int .i64) (.pair (.sl (.pair (.int .i64) (.pair (.int .i64) (.pair (.int .i64) (.pair (.int .i64) (.pair (.int .i64) .unit)))))) (.pair .bool .unit))) .unit)) (unpack .bool) (fun x => L23_BartabOffers x.1 x.2.1)) := lq_L23_BartabOffers ▸ c_L23_BartabOffers
end Go.Proofs.YtkpobmmabmelfaaDoorV
