/- What becket/becketlaw22.BarrierEnds answers. -/
import Derived.Test.YtkpobmmabmelfaaDoorVcTab
import Derived.Test.YtkpobmmabmelfaaDoorDBarrierEnds
import Derived.Test.YtkpobmmabmelfaaDoorCL22
import Derived.Test.YtkpobmmabmelfaaDoorCbarrier
import Derived.Test.YtkpobmmabmelfaaDoorCbitset
namespace Go.Proofs.YtkpobmmabmelfaaDoorV
open Go.Proofs
set_option linter.unusedVariables false
noncomputable def lf_L22_BarrierEnds : List AV → Option AV := liftF (.pair (.int .u8) (.pair (.sl (.arr 2 (.int .u8))) .unit)) (unpack .bool) (fun x => L22_BarrierEnds x.1 x.2.1)
theorem lq_L22_BarrierEnds : lf_L22_BarrierEnds = liftF (.pair (.int .u8) (.pair (.sl (.arr 2 (.int .u8))) .unit)) (unpack .bool) (fun x => L22_BarrierEnds x.1 x.2.1) := rfl
attribute [irreducible] lf_L22_BarrierEnds
theorem ck_L22_BarrierEnds {vs : List AV} {k : AV → Prop} {x : ((.pair (.int .u8) (.pair (.sl (.arr 2 (.int .u8))) .unit)) : Ty).den} {v : Bool} (h1 : pks (.pair (.int .u8) (.pair (.sl (.arr 2 (.int .u8))) .unit)) vs = some x) (h2 : L22_BarrierEnds x.1 x.2.1 = some v) (h3 : k ((unpack .bool) v)) : callK (lf_L22_BarrierEnds vs) k := by
  rw [lq_L22_BarrierEnds]; exact callK_lift h1 h2 h3
def tt_L22_BarrierEnds : List (Nat × Ty) := [(3, .int .i64), (4, .bool), (5, .int .u8), (23, .pair .bool (.pair (.int .i64) .unit)), (24, .sl (.int .i64)), (34, .arr 4 (.int .u64)), (36, .pair (.arr 4 (.int .u64)) (.pair (.arr 4 (.int .u64)) .unit)), (38, .pair (.pair .bool (.pair (.int .i64) .unit)) (.pair (.pair (.arr 4 (.int .u64)) (.pair (.arr 4 (.int .u64)) .unit)) (.pair (.int .i64) .unit))), (40, .int .i64), (62, .sl (.arr 2 (.int .u8))), (63, .arr 16 .bool), (64, .arr 2 (.int .u8))]
def et_L22_BarrierEnds : List (Nat × Nat) := [(24, 3), (62, 64)]
theorem tt_L22_BarrierEnds_ok : subT tt tt_L22_BarrierEnds = true := by kernel_rfl
theorem et_L22_BarrierEnds_ok : subE et et_L22_BarrierEnds = true := by kernel_rfl
noncomputable def fns_L22_BarrierEnds : List (Nat × (List AV → Option AV)) := [(11, lf_L22_alive), (14, lf_barrier_Fire), (16, lf_barrier_Ready), (21, lf_barrier_New), (23, lf_barrier_Enrol), (25, lf_barrier_Resign), (27, lf_barrier_Offer), (31, lf_barrier_Fine), (35, lf_bitset_Len), (36, lf_bitset_Has)]
theorem fns_L22_BarrierEnds_ok : FnsOk Go.Proofs.Tryd.prog fns_L22_BarrierEnds := FnsOk.cons c_L22_alive (FnsOk.cons c_barrier_Fire (FnsOk.cons c_barrier_Ready (FnsOk.cons c_barrier_New (FnsOk.cons c_barrier_Enrol (FnsOk.cons c_barrier_Resign (FnsOk.cons c_barrier_Offer (FnsOk.cons c_barrier_Fine (FnsOk.cons c_bitset_Len (FnsOk.cons c_bitset_Has (FnsOk.nil _))))))))))
def L22_BarrierEnds_S1 (u0 : AV) (u1 : AV) (u2 : AV) (u3 : AV) (u4 : AV) (u5 : AV) (u6 : AV) (u7 : AV) (u8 : AV) (B10 : Blk) (B12 : Blk) (x4 : Int × List Bool) : St :=
  ⟨[(5, u0), (7, u1), (8, u2), (14, u3), (40, u4), (41, u5), (42, u6), (119, u7), (120, u8), (121, .int .i64 x4.1)], [(5, B10), (8, .var (.arr 16 .bool) (.arr 16 .bool x4.2) false), (14, B12)], none⟩
def L22_BarrierEnds_M1 : Msk := ⟨[5, 7, 8, 14, 40, 41, 42, 119, 120, 121], [5, 8, 14], [], [], [], [], [], [], []⟩
def L22_BarrierEnds_S2 (u0 : AV) (u1 : AV) (u2 : AV) (u3 : AV) (u4 : AV) (u5 : AV) (u6 : AV) (u7 : AV) (u8 : AV) (B10 : Blk) (B12 : Blk) (x5 : Int × List Bool) : St :=
  ⟨[(5, u0), (7, u1), (8, u2), (14, u3), (40, u4), (41, u5), (42, u6), (119, u7), (120, u8), (121, .int .i64 x5.1)], [(5, B10), (8, .var (.arr 16 .bool) (.arr 16 .bool x5.2) false), (14, B12)], none⟩
def L22_BarrierEnds_M2 : Msk := ⟨[5, 7, 8, 14, 40, 41, 42, 119, 120, 121], [5, 8, 14], [], [], [], [], [], [], []⟩
def L22_BarrierEnds_S3 (u0 : AV) (u1 : AV) (x1 : Int × List (List Int) × Int × Int × Bool × Int × List Int × List Int × Int × List Bool) : St :=
  ⟨[(5, u0), (7, .int .i64 x1.1), (8, u1), (40, .ro (.arr 2 (.int .u8)) x1.2.1), (41, .int .i64 x1.2.2.1), (42, .int .i64 x1.2.2.2.1)], [(5, .var (.pair (.pair .bool (.pair (.int .i64) .unit)) (.pair (.pair (.arr 4 (.int .u64)) (.pair (.arr 4 (.int .u64)) .unit)) (.pair (.int .i64) .unit))) (.agg [.agg [.bool x1.2.2.2.2.1, .int .i64 x1.2.2.2.2.2.1], .agg [.arr 4 (.int .u64) x1.2.2.2.2.2.2.1, .arr 4 (.int .u64) x1.2.2.2.2.2.2.2.1], .int .i64 x1.2.2.2.2.2.2.2.2.1]) false), (8, .var (.arr 16 .bool) (.arr 16 .bool x1.2.2.2.2.2.2.2.2.2) false)], none⟩
def L22_BarrierEnds_M3 : Msk := ⟨[5, 7, 8, 40, 41, 42], [5, 8], [], [], [], [], [], [], []⟩
def L22_BarrierEnds_Q1 (x3 : Int × Int × List (List Int) × Int × Int × Bool × Int × List Int × List Int × Int × List Bool × Bool × Int × List Int × List Int × Int) : St :=
  ⟨[(5, .ptr 5 []), (7, .int .i64 x3.1), (8, .ptr 8 []), (12, .ptr 12 []), (13, .int .i64 x3.2.1), (40, .ro (.arr 2 (.int .u8)) x3.2.2.1), (41, .int .i64 x3.2.2.2.1), (42, .int .i64 x3.2.2.2.2.1)], [(5, .var (.pair (.pair .bool (.pair (.int .i64) .unit)) (.pair (.pair (.arr 4 (.int .u64)) (.pair (.arr 4 (.int .u64)) .unit)) (.pair (.int .i64) .unit))) (.agg [.agg [.bool x3.2.2.2.2.2.1, .int .i64 x3.2.2.2.2.2.2.1], .agg [.arr 4 (.int .u64) x3.2.2.2.2.2.2.2.1, .arr 4 (.int .u64) x3.2.2.2.2.2.2.2.2.1], .int .i64 x3.2.2.2.2.2.2.2.2.2.1]) false), (8, .var (.arr 16 .bool) (.arr 16 .bool x3.2.2.2.2.2.2.2.2.2.2.1) false), (12, .var (.pair (.pair .bool (.pair (.int .i64) .unit)) (.pair (.pair (.arr 4 (.int .u64)) (.pair (.arr 4 (.int .u64)) .unit)) (.pair (.int .i64) .unit))) (.agg [.agg [.bool x3.2.2.2.2.2.2.2.2.2.2.2.1, .int .i64 x3.2.2.2.2.2.2.2.2.2.2.2.2.1], .agg [.arr 4 (.int .u64) x3.2.2.2.2.2.2.2.2.2.2.2.2.2.1, .arr 4 (.int .u64) x3.2.2.2.2.2.2.2.2.2.2.2.2.2.2.1], .int .i64 x3.2.2.2.2.2.2.2.2.2.2.2.2.2.2.2]) false)], none⟩
def L22_BarrierEnds_Q2 (x2 : Int × List (List Int) × Int × Int × Bool × Int × List Int × List Int × Int × List Bool) : St :=
  ⟨[(5, .ptr 5 []), (7, .int .i64 x2.1), (8, .ptr 8 []), (40, .ro (.arr 2 (.int .u8)) x2.2.1), (41, .int .i64 x2.2.2.1), (42, .int .i64 x2.2.2.2.1)], [(5, .var (.pair (.pair .bool (.pair (.int .i64) .unit)) (.pair (.pair (.arr 4 (.int .u64)) (.pair (.arr 4 (.int .u64)) .unit)) (.pair (.int .i64) .unit))) (.agg [.agg [.bool x2.2.2.2.2.1, .int .i64 x2.2.2.2.2.2.1], .agg [.arr 4 (.int .u64) x2.2.2.2.2.2.2.1, .arr 4 (.int .u64) x2.2.2.2.2.2.2.2.1], .int .i64 x2.2.2.2.2.2.2.2.2.1]) false), (8, .var (.arr 16 .bool) (.arr 16 .bool x2.2.2.2.2.2.2.2.2.2) false)], none⟩
def kp_L22_BarrierEnds : List (Nat × List Nat) := [(0, [0, 1]), (1, [1, 5, 6]), (2, [1, 5, 6, 34]), (3, [4]), (4, [1, 5, 7]), (5, [1, 5, 7, 8]), (6, [5, 7, 8, 40, 41, 42]), (7, [5, 7, 8, 40, 41, 42, 43]), (8, [5, 7, 8, 10, 40, 41, 42]), (9, [5, 7, 8, 10, 11, 40, 41, 42]), (10, [5, 7, 8, 10, 11, 12, 40, 41, 42]), (11, [5, 7, 8, 10, 11, 12, 40, 41, 42, 53]), (12, [5, 7, 8, 11, 12, 13, 40, 41, 42]), (13, [5, 7, 8, 11, 12, 13, 40, 41, 42, 65]), (14, [5, 7, 8, 12, 13, 40, 41, 42]), (15, [5, 7, 8, 10, 11, 12, 40, 41, 42, 53, 68]), (16, [5, 7, 8, 12, 13, 40, 41, 42]), (17, [5, 7, 8, 10, 11, 12, 40, 41, 42, 76]), (18, [5, 7, 8, 11, 12, 13, 40, 41, 42]), (19, [5, 7, 8, 12, 13, 40, 41, 42]), (20, [5, 7, 8, 12, 40, 41, 42, 92]), (21, [4]), (22, [5, 7, 8, 40, 41, 42]), (23, [5, 7, 8, 40, 41, 42, 96]), (24, [5, 7, 8, 14, 15, 16, 40, 41, 42]), (25, [5, 7, 8, 14, 15, 40, 41, 42, 118]), (26, [4]), (27, [5, 7, 8, 14, 40, 41, 42, 119, 120, 121]), (28, [5, 7, 8, 14, 40, 41, 42, 119, 120, 121, 122]), (29, [5, 7, 8, 14, 18, 40, 41, 42, 119, 120, 121]), (30, [5, 7, 8, 14, 18, 40, 41, 42, 119, 120, 121, 144]), (31, [4]), (32, [5, 7, 8, 14, 40, 41, 42, 119, 120, 121]), (33, [5, 7, 8, 14, 40, 41, 42, 119, 120, 121]), (34, [5, 7, 8, 40, 41, 42]), (35, [5, 7, 8, 40, 41, 42]), (36, [5, 7, 8, 40, 41, 42]), (37, [4]), (12000001, []), (7000001, [5, 7, 8, 40, 41, 42]), (12000002, []), (7000002, [5, 7, 8, 12, 13, 40, 41, 42]), (11000001, [5, 8]), (13000001, []), (11000002, [5, 8, 12]), (13000002, []), (4000000, []), (4000001, [5]), (4000002, [5]), (4000003, []), (4000004, [5]), (4000005, [5, 8]), (4000006, [5, 8]), (4000007, [5, 8]), (4000008, [5, 8, 10]), (4000009, [5, 8, 10]), (4000010, [5, 8, 10, 12]), (4000011, [5, 8, 10, 12]), (4000012, [5, 8, 12]), (4000013, [5, 8, 12]), (4000014, [5, 8, 12]), (4000015, [5, 8, 10, 12]), (4000016, [5, 8, 12]), (4000017, [5, 8, 10, 12]), (4000018, [5, 8, 12]), (4000019, [5, 8, 12]), (4000020, [5, 8, 12]), (4000021, []), (4000022, [5, 8]), (4000023, [5, 8]), (4000024, [5, 8, 14]), (4000025, [5, 8, 14]), (4000026, []), (4000027, [5, 8, 14]), (4000028, [5, 8, 14]), (4000029, [5, 8, 14]), (4000030, [5, 8, 14]), (4000031, []), (4000032, [5, 8, 14]), (4000033, [5, 8, 14]), (4000034, [5, 8]), (4000035, [5, 8]), (4000036, [5, 8]), (4000037, [])]
def od_L22_BarrierEnds : List (Nat × Ord) := []
noncomputable def E_L22_BarrierEnds : Env := ⟨0, 0, et_L22_BarrierEnds, tt_L22_BarrierEnds, fns_L22_BarrierEnds, [], od_L22_BarrierEnds, kp_L22_BarrierEnds, none, []⟩
set_option maxRecDepth 100000 in
set_option maxHeartbeats 40000000 in
theorem c_L22_BarrierEnds : PCon Go.Proofs.Tryd.prog 5 lf_L22_BarrierEnds := by
  rw [lq_L22_BarrierEnds]
  refine lift_conR (E := E_L22_BarrierEnds) (c := bodyOf Tryd.f5) (nt := 170) (rs := [.tmp 4]) (ts := [4]) (EnvC.sub (off := 0) (nt := 0) (ords := od_L22_BarrierEnds) (keep := kp_L22_BarrierEnds) (yl := none) tt_ok et_ok fns_L22_BarrierEnds_ok (PrsOk.nil _) (ItsOk.nil _) tt_L22_BarrierEnds_ok et_L22_BarrierEnds_ok) (PrOk.of mixed_ok) Go.Proofs.Tryd.func5 rfl (by decide) rfl rfl rfl (pureR_one (e := .bool) rfl) ?_
  intro x r hw hs
  repeat'
    (try (conv => whnf)
     first
       | (with_reducible have hs := letv_out hs)
       | (refine draw_and (by kernel_rfl) ?_)
       | (refine both_mk ?_ ?_)
       | (refine br_bool (fun h => ?_) (fun h => ?_) <;> first | have hs := cT h hs | have hs := cF h hs)
       | (refine bind_elim hs fun v hb hs => ?_; first | refine ck_L22_alive rfl hb ?_ | refine ck_barrier_Fire rfl hb ?_ | refine ck_barrier_Ready rfl hb ?_ | refine ck_barrier_New rfl hb ?_ | refine ck_barrier_Enrol rfl hb ?_ | refine ck_barrier_Resign rfl hb ?_ | refine ck_barrier_Offer rfl hb ?_ | refine ck_barrier_Fine rfl hb ?_ | refine ck_bitset_Len rfl hb ?_ | refine ck_bitset_Has rfl hb ?_)
       | refine chk_elim hs fun hs => ?_
       | (have hs := letv_out hs)
       | exact fin_some hs rfl
       | (intro b hb; first | have hs := nilq_elim hs b hb | have hs := nilqn_elim hs b hb)
       | exact hJ1 _ hs
       | exact hJ2 _ hs
       | exact hJ3 _ hs
       | exact hC1 _ hs
       | exact hC2 _ hs
       | (refine cut_out 1 L22_BarrierEnds_Q1 hs (fun Jc1 kc1 hC1 hs => ?_) (fun xc1 hs => ?_))
       | (refine cut_out 2 L22_BarrierEnds_Q2 hs (fun Jc2 kc2 hC2 hs => ?_) (fun xc2 hs => ?_))
       | (have hs := cT rfl hs)
       | (have hs := cF rfl hs)
       | (refine vc_loopR (L22_BarrierEnds_S1 _ _ _ _ _ _ _ _ _ _ _) L22_BarrierEnds_M1 hs rfl ?_; intro J1 k1 x1 hJ1 hs)
       | (refine vc_loopR (L22_BarrierEnds_S2 _ _ _ _ _ _ _ _ _ _ _) L22_BarrierEnds_M2 hs rfl ?_; intro J2 k2 x2 hJ2 hs)
       | (refine vc_loopR (L22_BarrierEnds_S3 _ _) L22_BarrierEnds_M3 hs rfl ?_; intro J3 k3 x3 hJ3 hs)
       | exact (none_ne hs).elim)
theorem cq_L22_BarrierEnds : PCon Go.Proofs.Tryd.prog 5 (liftF (.pair (.int .u8) (.pair (.sl (.arr 2 (.int .u8))) .unit)) (unpack .bool) (fun x => L22_BarrierEnds x.1 x.2.1)) := lq_L22_BarrierEnds ▸ c_L22_BarrierEnds
end Go.Proofs.YtkpobmmabmelfaaDoorV
