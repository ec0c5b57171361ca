/- What becket/becketlaw23.BartabQuits answers. -/
import Derived.Test.YtkpobmmabmelfaaDoorVcTab
import Derived.Test.YtkpobmmabmelfaaDoorDBartabQuits
import Derived.Test.YtkpobmmabmelfaaDoorCL23
import Derived.Test.YtkpobmmabmelfaaDoorCbarrier
import Derived.Test.YtkpobmmabmelfaaDoorCbartab
import Derived.Test.YtkpobmmabmelfaaDoorCbitset
namespace Go.Proofs.YtkpobmmabmelfaaDoorV
open Go.Proofs
set_option linter.unusedVariables false
noncomputable def lf_L23_BartabQuits : List AV → Option AV := liftF (.pair (.sl (.pair (.pair .bool (.pair (.int .i64) .unit)) (.pair (.pair (.sl (.int .i64)) (.pair (.sl (.int .i64)) .unit)) (.pair (.int .i64) .unit)))) (.pair (.pair (.int .i64) (.pair (.sl (.pair (.int .i64) (.pair (.int .i64) (.pair (.int .i64) (.pair (.int .i64) (.pair (.int .i64) .unit)))))) (.pair .bool .unit))) (.pair (.int .i64) .unit))) (unpack .bool) (fun x => L23_BartabQuits x.1 x.2.1 x.2.2.1)
theorem lq_L23_BartabQuits : lf_L23_BartabQuits = liftF (.pair (.sl (.pair (.pair .bool (.pair (.int .i64) .unit)) (.pair (.pair (.sl (.int .i64)) (.pair (.sl (.int .i64)) .unit)) (.pair (.int .i64) .unit)))) (.pair (.pair (.int .i64) (.pair (.sl (.pair (.int .i64) (.pair (.int .i64) (.pair (.int .i64) (.pair (.int .i64) (.pair (.int .i64) .unit)))))) (.pair .bool .unit))) (.pair (.int .i64) .unit))) (unpack .bool) (fun x => L23_BartabQuits x.1 x.2.1 x.2.2.1) := rfl
attribute [irreducible] lf_L23_BartabQuits
theorem ck_L23_BartabQuits {vs : List AV} {k : AV → Prop} {x : ((.pair (.sl (.pair (.pair .bool (.pair (.int .i64) .unit)) (.pair (.pair (.sl (.int .i64)) (.pair (.sl (.int .i64)) .unit)) (.pair (.int .i64) .unit)))) (.pair (.pair (.int .i64) (.pair (.sl (.pair (.int .i64) (.pair (.int .i64) (.pair (.int .i64) (.pair (.int .i64) (.pair (.int .i64) .unit)))))) (.pair .bool .unit))) (.pair (.int .i64) .unit))) : Ty).den} {v : Bool} (h1 : pks (.pair (.sl (.pair (.pair .bool (.pair (.int .i64) .unit)) (.pair (.pair (.sl (.int .i64)) (.pair (.sl (.int .i64)) .unit)) (.pair (.int .i64) .unit)))) (.pair (.pair (.int .i64) (.pair (.sl (.pair (.int .i64) (.pair (.int .i64) (.pair (.int .i64) (.pair (.int .i64) (.pair (.int .i64) .unit)))))) (.pair .bool .unit))) (.pair (.int .i64) .unit))) vs = some x) (h2 : L23_BartabQuits x.1 x.2.1 x.2.2.1 = some v) (h3 : k ((unpack .bool) v)) : callK (lf_L23_BartabQuits vs) k := by
  rw [lq_L23_BartabQuits]; exact callK_lift h1 h2 h3
def tt_L23_BartabQuits : List (Nat × Ty) := [(3, .int .i64), (4, .bool), (24, .sl (.int .i64)), (34, .arr 4 (.int .u64)), (36, .pair (.arr 4 (.int .u64)) (.pair (.arr 4 (.int .u64)) .unit)), (38, .pair (.pair .bool (.pair (.int .i64) .unit)) (.pair (.pair (.arr 4 (.int .u64)) (.pair (.arr 4 (.int .u64)) .unit)) (.pair (.int .i64) .unit))), (40, .int .i64), (68, .sl (.pair (.pair .bool (.pair (.int .i64) .unit)) (.pair (.pair (.sl (.int .i64)) (.pair (.sl (.int .i64)) .unit)) (.pair (.int .i64) .unit)))), (69, .sl (.pair (.int .i64) (.pair (.int .i64) (.pair (.int .i64) (.pair (.int .i64) (.pair (.int .i64) .unit)))))), (71, .pair (.int .i64) (.pair (.sl (.pair (.int .i64) (.pair (.int .i64) (.pair (.int .i64) (.pair (.int .i64) (.pair (.int .i64) .unit)))))) (.pair .bool .unit))), (74, .sl (.pair (.pair .bool (.pair (.int .i64) .unit)) (.pair (.pair (.arr 4 (.int .u64)) (.pair (.arr 4 (.int .u64)) .unit)) (.pair (.int .i64) .unit))))]
def et_L23_BartabQuits : List (Nat × Nat) := [(24, 3), (68, 28), (69, 127), (74, 38)]
theorem tt_L23_BartabQuits_ok : subT tt tt_L23_BartabQuits = true := by kernel_rfl
theorem et_L23_BartabQuits_ok : subE et et_L23_BartabQuits = true := by kernel_rfl
noncomputable def fns_L23_BartabQuits : List (Nat × (List AV → Option AV)) := [(31, lf_barrier_Fine), (36, lf_bitset_Has), (37, lf_L23_Small), (38, lf_L23_alive), (39, lf_L23_Plain), (40, lf_L23_To), (41, lf_bartab_Offer), (43, lf_L23_Same), (44, lf_L23_From), (47, lf_bartab_Quit), (53, lf_bartab_Fire), (55, lf_bartab_Ready)]
theorem fns_L23_BartabQuits_ok : FnsOk Go.Proofs.Tryd.prog fns_L23_BartabQuits := FnsOk.cons c_barrier_Fine (FnsOk.cons c_bitset_Has (FnsOk.cons c_L23_Small (FnsOk.cons c_L23_alive (FnsOk.cons c_L23_Plain (FnsOk.cons c_L23_To (FnsOk.cons c_bartab_Offer (FnsOk.cons c_L23_Same (FnsOk.cons c_L23_From (FnsOk.cons c_bartab_Quit (FnsOk.cons c_bartab_Fire (FnsOk.cons c_bartab_Ready (FnsOk.nil _))))))))))))
def L23_BartabQuits_S1 (u0 : AV) (u1 : AV) (u2 : AV) (u3 : AV) (x1 : Bool × Int) : St :=
  ⟨[(2, u0), (9, u1), (14, .bool x1.1), (84, u2), (85, u3), (86, .int .i64 x1.2)], [], none⟩
def L23_BartabQuits_M1 : Msk := ⟨[2, 9, 14, 84, 85, 86], [], [], [], [], [], [], [], []⟩
def L23_BartabQuits_S2 (u0 : AV) (u1 : AV) (u2 : AV) (u3 : AV) (u4 : AV) (B6 : Blk) (x2 : Int) : St :=
  ⟨[(2, u0), (4, u1), (9, u2), (58, u3), (59, u4), (60, .int .i64 x2)], [(4, B6)], none⟩
def L23_BartabQuits_M2 : Msk := ⟨[2, 4, 9, 58, 59, 60], [4], [], [], [], [], [], [], []⟩
def L23_BartabQuits_S3 (u0 : AV) (u1 : AV) (u2 : AV) (u3 : AV) (x3 : Bool × Int) : St :=
  ⟨[(2, u0), (9, u1), (14, .bool x3.1), (84, u2), (85, u3), (86, .int .i64 x3.2)], [], none⟩
def L23_BartabQuits_M3 : Msk := ⟨[2, 9, 14, 84, 85, 86], [], [], [], [], [], [], [], []⟩
def L23_BartabQuits_S4 (u0 : AV) (u1 : AV) (u2 : AV) (u3 : AV) (u4 : AV) (B6 : Blk) (x4 : Int) : St :=
  ⟨[(2, u0), (4, u1), (9, u2), (58, u3), (59, u4), (60, .int .i64 x4)], [(4, B6)], none⟩
def L23_BartabQuits_M4 : Msk := ⟨[2, 4, 9, 58, 59, 60], [4], [], [], [], [], [], [], []⟩
def kp_L23_BartabQuits : List (Nat × List Nat) := [(0, [0, 2, 4]), (1, [0, 2, 4, 28]), (2, [6]), (3, [2, 4, 7]), (4, [2, 4, 7, 8]), (5, [2, 4, 7, 9, 11]), (6, [2, 4, 9, 54]), (7, [6]), (8, [2, 4, 9, 58, 59, 60]), (9, [2, 4, 9, 58, 59, 60, 61]), (10, [2, 4, 9, 13, 58, 59, 60]), (11, [2, 4, 9, 58, 59, 60, 81]), (12, [6]), (13, [2, 4, 9, 58, 59, 60]), (14, [2, 9, 14]), (15, [2, 9, 14, 84, 85, 86]), (16, [2, 9, 14, 84, 85, 86, 87]), (17, [2, 9, 14, 16, 84, 85, 86]), (18, [2, 9, 14, 84, 85, 86]), (19, [2, 9, 14, 84, 85, 86]), (20, [14, 19]), (21, [6]), (4000000, [4]), (4000001, [4]), (4000002, []), (4000003, [4]), (4000004, [4]), (4000005, [4]), (4000006, [4]), (4000007, []), (4000008, [4]), (4000009, [4]), (4000010, [4, 13]), (4000011, [4]), (4000012, []), (4000013, [4]), (4000014, []), (4000015, []), (4000016, []), (4000017, []), (4000018, []), (4000019, []), (4000020, []), (4000021, [])]
def od_L23_BartabQuits : List (Nat × Ord) := []
noncomputable def E_L23_BartabQuits : Env := ⟨0, 0, et_L23_BartabQuits, tt_L23_BartabQuits, fns_L23_BartabQuits, [], od_L23_BartabQuits, kp_L23_BartabQuits, none, []⟩
set_option maxRecDepth 100000 in
set_option maxHeartbeats 40000000 in
theorem c_L23_BartabQuits : PCon Go.Proofs.Tryd.prog 9 lf_L23_BartabQuits := by
  rw [lq_L23_BartabQuits]
  refine lift_conR (E := E_L23_BartabQuits) (c := bodyOf Tryd.f9) (nt := 111) (rs := [.tmp 6]) (ts := [4]) (EnvC.sub (off := 0) (nt := 0) (ords := od_L23_BartabQuits) (keep := kp_L23_BartabQuits) (yl := none) tt_ok et_ok fns_L23_BartabQuits_ok (PrsOk.nil _) (ItsOk.nil _) tt_L23_BartabQuits_ok et_L23_BartabQuits_ok) (PrOk.of mixed_ok) Go.Proofs.Tryd.func9 rfl (by decide) rfl rfl rfl (pureR_one (e := .bool) rfl) ?_
  intro x r hw hs
  repeat'
    (try (conv => whnf)
     first
       | (with_reducible have hs := letv_out hs)
       | (refine draw_and (by kernel_rfl) ?_)
       | (refine both_mk ?_ ?_)
       | (refine br_bool (fun h => ?_) (fun h => ?_) <;> first | have hs := cT h hs | have hs := cF h hs)
       | (refine bind_elim hs fun v hb hs => ?_; first | refine ck_barrier_Fine rfl hb ?_ | refine ck_bitset_Has rfl hb ?_ | refine ck_L23_Small rfl hb ?_ | refine ck_L23_alive rfl hb ?_ | refine ck_L23_Plain rfl hb ?_ | refine ck_L23_To rfl hb ?_ | refine ck_bartab_Offer rfl hb ?_ | refine ck_L23_Same rfl hb ?_ | refine ck_L23_From rfl hb ?_ | refine ck_bartab_Quit rfl hb ?_ | refine ck_bartab_Fire rfl hb ?_ | refine ck_bartab_Ready rfl hb ?_)
       | refine chk_elim hs fun hs => ?_
       | (have hs := letv_out hs)
       | exact fin_some hs rfl
       | (intro b hb; first | have hs := nilq_elim hs b hb | have hs := nilqn_elim hs b hb)
       | exact hJ1 _ hs
       | exact hJ2 _ hs
       | exact hJ3 _ hs
       | exact hJ4 _ hs
       | (have hs := cT rfl hs)
       | (have hs := cF rfl hs)
       | (refine vc_loopR (L23_BartabQuits_S1 _ _ _ _) L23_BartabQuits_M1 hs rfl ?_; intro J1 k1 x1 hJ1 hs)
       | (refine vc_loopR (L23_BartabQuits_S2 _ _ _ _ _ _) L23_BartabQuits_M2 hs rfl ?_; intro J2 k2 x2 hJ2 hs)
       | (refine vc_loopR (L23_BartabQuits_S3 _ _ _ _) L23_BartabQuits_M3 hs rfl ?_; intro J3 k3 x3 hJ3 hs)
       | (refine vc_loopR (L23_BartabQuits_S4 _ _ _ _ _ _) L23_BartabQuits_M4 hs rfl ?_; intro J4 k4 x4 hJ4 hs)
       | exact (none_ne hs).elim)
theorem cq_L23_BartabQuits : PCon Go.Proofs.Tryd.prog 9 (liftF (.pair (.sl (.pair (.pair .bool (.pair (.int .i64) .unit)) (.pair (.pair (.sl (.int .i64)) (.pair (.sl (.int .i64)) .unit)) (.pair (.int .i64) .unit)))) (.pair (.pair (.int .i64) (.pair (.sl (.pair (.int .i64) (.pair (.int .i64) (.pair (.int .i64) (.pair (.int .i64) (.pair (.int .i64) .unit)))))) (.pair .bool .unit))) (.pair (.int .i64) .unit))) (unpack .bool) (fun x => L23_BartabQuits x.1 x.2.1 x.2.2.1)) := lq_L23_BartabQuits ▸ c_L23_BartabQuits
end Go.Proofs.YtkpobmmabmelfaaDoorV
