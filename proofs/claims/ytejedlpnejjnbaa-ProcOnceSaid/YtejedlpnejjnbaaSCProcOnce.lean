/- What becket/becketlaw31.ProcOnce answers. -/
import Derived.Test.YtejedlpnejjnbaaSVcTab
import Derived.Test.YtejedlpnejjnbaaSDProcOnce
import Derived.Test.YtejedlpnejjnbaaSCL31
import Derived.Test.YtejedlpnejjnbaaSCproc
namespace Go.Proofs.YtejedlpnejjnbaaSV
open Go.Proofs
set_option linter.unusedVariables false
noncomputable def lf_L31_ProcOnce : List AV → Option AV := liftF (.pair (.sl (.arr 2 (.int .u8))) .unit) (unpack .bool) (fun x => L31_ProcOnce x.1)
theorem lq_L31_ProcOnce : lf_L31_ProcOnce = liftF (.pair (.sl (.arr 2 (.int .u8))) .unit) (unpack .bool) (fun x => L31_ProcOnce x.1) := rfl
attribute [irreducible] lf_L31_ProcOnce
theorem ck_L31_ProcOnce {vs : List AV} {k : AV → Prop} {x : ((.pair (.sl (.arr 2 (.int .u8))) .unit) : Ty).den} {v : Bool} (h1 : pks (.pair (.sl (.arr 2 (.int .u8))) .unit) vs = some x) (h2 : L31_ProcOnce x.1 = some v) (h3 : k ((unpack .bool) v)) : callK (lf_L31_ProcOnce vs) k := by
  rw [lq_L31_ProcOnce]; exact callK_lift h1 h2 h3
def tt_L31_ProcOnce : List (Nat × Ty) := [(3, .int .i64), (4, .bool), (5, .int .u8), (25, .sl (.pair (.int .i64) (.pair .bool (.pair (.int .i64) (.pair (.pair (.int .i64) (.pair .bool (.pair (.arr 8 (.int .i64)) (.pair (.arr 16 (.int .i64)) (.pair (.int .i64) (.pair (.arr 8 (.int .i64)) .unit)))))) (.pair (.int .i64) (.pair (.int .i64) (.pair (.int .i64) (.pair (.sl (.pair (.int .i64) (.pair (.int .i64) (.pair (.int .i64) (.pair (.int .i64) (.pair (.int .i64) .unit)))))) .unit))))))))), (27, .int .i64), (36, .sl (.int .i64)), (56, .sl (.arr 2 (.int .u8))), (58, .arr 2 (.int .u8))]
def et_L31_ProcOnce : List (Nat × Nat) := [(25, 69), (36, 3), (56, 58)]
theorem tt_L31_ProcOnce_ok : subT tt tt_L31_ProcOnce = true := by kernel_rfl
theorem et_L31_ProcOnce_ok : subE et et_L31_ProcOnce = true := by kernel_rfl
noncomputable def fns_L31_ProcOnce : List (Nat × (List AV → Option AV)) := [(7, lf_L31_alive), (9, lf_proc_Find), (11, lf_proc_Fine), (13, lf_proc_Handle), (18, lf_proc_Handles), (20, lf_proc_Spawn), (22, lf_proc_End), (24, lf_proc_Reap), (28, lf_proc_New)]
theorem fns_L31_ProcOnce_ok : FnsOk Go.Proofs.Try.prog fns_L31_ProcOnce := FnsOk.cons c_L31_alive (FnsOk.cons c_proc_Find (FnsOk.cons c_proc_Fine (FnsOk.cons c_proc_Handle (FnsOk.cons c_proc_Handles (FnsOk.cons c_proc_Spawn (FnsOk.cons c_proc_End (FnsOk.cons c_proc_Reap (FnsOk.cons c_proc_New (FnsOk.nil _)))))))))
def L31_ProcOnce_S1 (u0 : AV) (u1 : AV) (u2 : AV) (u3 : AV) (u4 : AV) (u5 : AV) (u6 : AV) (B7 : Blk) (B8 : Blk) (x2 : Int) : St :=
  ⟨[(0, u0), (3, u1), (4, u2), (5, u3), (6, u4), (164, u5), (165, u6), (166, .int .i64 x2)], [(77, B7), (81, B8)], none⟩
def L31_ProcOnce_M1 : Msk := ⟨[0, 3, 4, 5, 6, 164, 165, 166], [77, 81], [], [], [], [], [], [], [], [], []⟩
def L31_ProcOnce_S2 (u0 : AV) (u1 : AV) (u2 : AV) (u3 : AV) (u4 : AV) (u5 : AV) (u6 : AV) (B7 : Blk) (B8 : Blk) (x3 : Int) : St :=
  ⟨[(0, u0), (3, u1), (4, u2), (5, u3), (6, u4), (164, u5), (165, u6), (166, .int .i64 x3)], [(77, B7), (81, B8)], none⟩
def L31_ProcOnce_M2 : Msk := ⟨[0, 3, 4, 5, 6, 164, 165, 166], [77, 81], [], [], [], [], [], [], [], [], []⟩
def L31_ProcOnce_S3 (u0 : AV) (u1 : AV) (u2 : AV) (u3 : AV) (u4 : AV) (u5 : AV) (u6 : AV) (u7 : AV) (u8 : AV) (B9 : Blk) (B10 : Blk) (x4 : Int) : St :=
  ⟨[(0, u0), (4, u1), (5, u2), (6, u3), (7, u4), (8, u5), (9, u6), (58, u7), (59, u8), (60, .int .i64 x4)], [(77, B9), (81, B10)], none⟩
def L31_ProcOnce_M3 : Msk := ⟨[0, 4, 5, 6, 7, 8, 9, 58, 59, 60], [77, 81], [], [], [], [], [], [], [], [], []⟩
def L31_ProcOnce_S4 (u0 : AV) (u1 : AV) (u2 : AV) (u3 : AV) (u4 : AV) (u5 : AV) (u6 : AV) (B7 : Blk) (B8 : Blk) (x5 : Int) : St :=
  ⟨[(0, u0), (3, u1), (4, u2), (5, u3), (6, u4), (164, u5), (165, u6), (166, .int .i64 x5)], [(77, B7), (149, B8)], none⟩
def L31_ProcOnce_M4 : Msk := ⟨[0, 3, 4, 5, 6, 164, 165, 166], [77, 149], [], [], [], [], [], [], [], [], []⟩
def L31_ProcOnce_S5 (u0 : AV) (u1 : AV) (u2 : AV) (u3 : AV) (u4 : AV) (u5 : AV) (u6 : AV) (u7 : AV) (B8 : Blk) (B9 : Blk) (x6 : Int × List Int) : St :=
  ⟨[(0, u0), (4, u1), (6, u2), (12, u3), (17, u4), (20, u5), (136, u6), (137, u7), (138, .int .i64 x6.1)], [(77, B8), (81, B9), (149, .row 3 (.int .i64) x6.2 false)], none⟩
def L31_ProcOnce_M5 : Msk := ⟨[0, 4, 6, 12, 17, 20, 136, 137, 138], [77, 81, 149], [(20, 149, 36)], [], [], [], [], [], [], [], []⟩
def L31_ProcOnce_S6 (u0 : AV) (u1 : AV) (u2 : AV) (u3 : AV) (u4 : AV) (u5 : AV) (u6 : AV) (B7 : Blk) (B8 : Blk) (x7 : Int) : St :=
  ⟨[(0, u0), (3, u1), (4, u2), (5, u3), (6, u4), (164, u5), (165, u6), (166, .int .i64 x7)], [(77, B7), (81, B8)], none⟩
def L31_ProcOnce_M6 : Msk := ⟨[0, 3, 4, 5, 6, 164, 165, 166], [77, 81], [], [], [], [], [], [], [], [], []⟩
def L31_ProcOnce_S7 (u0 : AV) (u1 : AV) (u2 : AV) (x1 : (List (Int × Bool × Int × (Int × Bool × (List Int) × (List Int) × Int × (List Int) × Unit) × Int × Int × Int × (List (Int × Int × Int × Int × Int × Unit)) × Unit)) × Int × List Int × List Int) : St :=
  ⟨[(0, u0), (3, .ro (.pair (.int .i64) (.pair .bool (.pair (.int .i64) (.pair (.pair (.int .i64) (.pair .bool (.pair (.arr 8 (.int .i64)) (.pair (.arr 16 (.int .i64)) (.pair (.int .i64) (.pair (.arr 8 (.int .i64)) .unit)))))) (.pair (.int .i64) (.pair (.int .i64) (.pair (.int .i64) (.pair (.sl (.pair (.int .i64) (.pair (.int .i64) (.pair (.int .i64) (.pair (.int .i64) (.pair (.int .i64) .unit)))))) .unit)))))))) x1.1), (4, u1), (5, u2), (6, .int .i64 x1.2.1)], [(77, .row 3 (.int .i64) x1.2.2.1 false), (81, .row 3 (.int .i64) x1.2.2.2 false)], none⟩
def L31_ProcOnce_M7 : Msk := ⟨[0, 3, 4, 5, 6], [77, 81], [(4, 77, 36), (5, 81, 36)], [], [], [], [], [], [], [(5, 81)], []⟩
def kp_L31_ProcOnce : List (Nat × List Nat) := [(0, [0]), (1, [0, 3]), (2, [0, 3, 4, 5]), (3, [0, 3, 4, 5, 6]), (4, [0, 3, 4, 5, 6, 35]), (5, [0, 3, 4, 5, 6]), (6, [0, 3, 4, 5, 6, 44]), (7, [0, 4, 5, 6, 7, 8, 9]), (8, [0, 4, 5, 6, 7, 8, 9, 57]), (9, [2]), (10, [0, 4, 5, 6, 7, 8, 9, 58, 59, 60]), (11, [0, 4, 5, 6, 7, 8, 9, 58, 59, 60, 61]), (12, [0, 4, 5, 6, 7, 8, 9, 11, 58, 59, 60]), (13, [0, 4, 5, 6, 7, 8, 9, 58, 59, 60, 70]), (14, [2]), (15, [0, 4, 5, 6, 7, 8, 9, 58, 59, 60]), (16, [0, 4, 5, 6, 7, 8, 73]), (17, [0, 4, 5, 6, 7, 8]), (18, [0, 4, 5, 6, 7]), (19, [0, 3, 4, 5, 6]), (20, [0, 3, 4, 5, 6, 85]), (21, [0, 3, 4, 5, 6, 12]), (22, [0, 3, 4, 5, 6, 12, 13, 14]), (23, [0, 4, 5, 6, 12, 14, 15, 16]), (24, [0, 4, 5, 6, 12, 14, 16, 17, 18, 19]), (25, [0, 4, 5, 6, 12, 17, 135]), (26, [2]), (27, [0, 4, 5, 6, 12, 17, 20]), (28, [0, 4, 6, 12, 17, 20, 136, 137, 138]), (29, [0, 4, 6, 12, 17, 20, 136, 137, 138, 139]), (30, [0, 4, 6, 12, 17, 20, 21, 22, 136, 137, 138]), (31, [0, 4, 6, 12, 17, 20, 22, 136, 137, 138, 145]), (32, [0, 4, 6, 12, 17, 20, 136, 137, 138]), (33, [0, 4, 6, 12, 17, 20, 136, 137, 138]), (34, [0, 3, 4, 5, 6]), (35, [0, 3, 4, 5, 6, 163]), (36, [2]), (37, [0, 3, 4, 5, 6, 164, 165, 166]), (38, [0, 3, 4, 5, 6, 164, 165, 166, 167]), (39, [0, 3, 4, 5, 6, 24, 164, 165, 166]), (40, [0, 3, 4, 5, 6, 24, 25, 26, 164, 165, 166]), (41, [0, 3, 4, 5, 6, 164, 165, 166, 184]), (42, [2]), (43, [0, 3, 4, 5, 6, 164, 165, 166]), (44, [2]), (4000000, []), (4000001, []), (4000002, []), (4000003, []), (4000004, [77, 81]), (4000005, [77, 81, 149]), (4000006, [77, 81]), (4000007, [77, 81]), (4000008, [77, 81]), (4000009, []), (4000010, [77, 81]), (4000011, [77, 81]), (4000012, [77, 81]), (4000013, [77, 81]), (4000014, []), (4000015, [77, 81]), (4000016, [77, 81]), (4000017, [77, 81]), (4000018, [77, 81]), (4000019, [77, 81]), (4000020, [77, 81]), (4000021, [77, 81]), (4000022, [77, 81]), (4000023, [77, 81]), (4000024, [77, 81]), (4000025, [77, 81]), (4000026, []), (4000027, [77, 81]), (4000028, [77, 81]), (4000029, [77, 81, 149]), (4000030, [77, 81, 149]), (4000031, [77, 81, 149]), (4000032, [77, 81, 149]), (4000033, [77, 81, 149]), (4000034, [77, 149]), (4000035, [77, 81, 149]), (4000036, []), (4000037, [77, 81, 149]), (4000038, [77, 81, 149]), (4000039, [77, 81, 149]), (4000040, [77, 81, 149]), (4000041, [77, 81, 149]), (4000042, []), (4000043, [77, 81, 149]), (4000044, [])]
def od_L31_ProcOnce : List (Nat × Ord) := []
noncomputable def E_L31_ProcOnce : Env := ⟨0, 0, et_L31_ProcOnce, tt_L31_ProcOnce, fns_L31_ProcOnce, [], od_L31_ProcOnce, kp_L31_ProcOnce, none, []⟩
set_option maxRecDepth 100000 in
set_option maxHeartbeats 40000000 in
theorem c_L31_ProcOnce : PCon Go.Proofs.Try.prog 5 lf_L31_ProcOnce := by
  rw [lq_L31_ProcOnce]
  refine lift_conR (E := E_L31_ProcOnce) (c := bodyOf Try.f5) (nt := 187) (rs := [.tmp 2]) (ts := [4]) (EnvC.sub (off := 0) (nt := 0) (ords := od_L31_ProcOnce) (keep := kp_L31_ProcOnce) (yl := none) tt_ok et_ok fns_L31_ProcOnce_ok (PrsOk.nil _) (ItsOk.nil _) tt_L31_ProcOnce_ok et_L31_ProcOnce_ok) (PrOk.of mixed_ok) Go.Proofs.Try.func5 rfl (by decide) rfl rfl rfl (pureR_one (e := .bool) rfl) ?_
  intro x r hw hs
  repeat'
    (try (conv => whnf)
     first
       | (with_reducible have hs := letv_out hs)
       | (refine draw_and (by kernel_rfl) ?_)
       | (refine both_mk ?_ ?_)
       | (refine br_bool (fun h => ?_) (fun h => ?_) <;> first | have hs := cT h hs | have hs := cF h hs)
       | (refine bind_elim hs fun v hb hs => ?_; first | refine ck_L31_alive rfl hb ?_ | refine ck_proc_Find rfl hb ?_ | refine ck_proc_Fine rfl hb ?_ | refine ck_proc_Handle rfl hb ?_ | refine ck_proc_Handles rfl hb ?_ | refine ck_proc_Spawn rfl hb ?_ | refine ck_proc_End rfl hb ?_ | refine ck_proc_Reap rfl hb ?_ | refine ck_proc_New rfl hb ?_)
       | refine chk_elim hs fun hs => ?_
       | (have hs := letv_out hs)
       | exact fin_some hs rfl
       | (intro b hb; first | have hs := nilq_elim hs b hb | have hs := nilqn_elim hs b hb)
       | exact hJ1 _ hs
       | exact hJ2 _ hs
       | exact hJ3 _ hs
       | exact hJ4 _ hs
       | exact hJ5 _ hs
       | exact hJ6 _ hs
       | exact hJ7 _ hs
       | (have hs := cT rfl hs)
       | (have hs := cF rfl hs)
       | ((with_reducible have hs : loop (L31_ProcOnce_L1 _ _ _ _ _ _) _ = some _ := hs); refine vc_loopR (L31_ProcOnce_S1 _ _ _ _ _ _ _ _ _) L31_ProcOnce_M1 hs rfl ?_; intro J1 k1 x1 hJ1 hs)
       | ((with_reducible have hs : loop (L31_ProcOnce_L2 _ _ _ _) _ = some _ := hs); refine vc_loopR (L31_ProcOnce_S2 _ _ _ _ _ _ _ _ _) L31_ProcOnce_M2 hs rfl ?_; intro J2 k2 x2 hJ2 hs)
       | ((with_reducible have hs : loop (L31_ProcOnce_L3 _ _ _ _) _ = some _ := hs); refine vc_loopR (L31_ProcOnce_S3 _ _ _ _ _ _ _ _ _ _ _) L31_ProcOnce_M3 hs rfl ?_; intro J3 k3 x3 hJ3 hs)
       | ((with_reducible have hs : loop (L31_ProcOnce_L4 _ _ _ _ _) _ = some _ := hs); refine vc_loopR (L31_ProcOnce_S4 _ _ _ _ _ _ _ _ _) L31_ProcOnce_M4 hs rfl ?_; intro J4 k4 x4 hJ4 hs)
       | ((with_reducible have hs : loop (L31_ProcOnce_L5 _ _ _ _ _) _ = some _ := hs); refine vc_loopR (L31_ProcOnce_S5 _ _ _ _ _ _ _ _ _ _) L31_ProcOnce_M5 hs rfl ?_; intro J5 k5 x5 hJ5 hs)
       | ((with_reducible have hs : loop (L31_ProcOnce_L6 _ _ _) _ = some _ := hs); refine vc_loopR (L31_ProcOnce_S6 _ _ _ _ _ _ _ _ _) L31_ProcOnce_M6 hs rfl ?_; intro J6 k6 x6 hJ6 hs)
       | ((with_reducible have hs : loop (L31_ProcOnce_L7 _) _ = some _ := hs); refine vc_loopR (L31_ProcOnce_S7 _ _ _) L31_ProcOnce_M7 hs rfl ?_; intro J7 k7 x7 hJ7 hs)
       | (refine vc_loopR (L31_ProcOnce_S1 _ _ _ _ _ _ _ _ _) L31_ProcOnce_M1 hs rfl ?_; intro J1 k1 x1 hJ1 hs)
       | (refine vc_loopR (L31_ProcOnce_S2 _ _ _ _ _ _ _ _ _) L31_ProcOnce_M2 hs rfl ?_; intro J2 k2 x2 hJ2 hs)
       | (refine vc_loopR (L31_ProcOnce_S3 _ _ _ _ _ _ _ _ _ _ _) L31_ProcOnce_M3 hs rfl ?_; intro J3 k3 x3 hJ3 hs)
       | (refine vc_loopR (L31_ProcOnce_S4 _ _ _ _ _ _ _ _ _) L31_ProcOnce_M4 hs rfl ?_; intro J4 k4 x4 hJ4 hs)
       | (refine vc_loopR (L31_ProcOnce_S5 _ _ _ _ _ _ _ _ _ _) L31_ProcOnce_M5 hs rfl ?_; intro J5 k5 x5 hJ5 hs)
       | (refine vc_loopR (L31_ProcOnce_S6 _ _ _ _ _ _ _ _ _) L31_ProcOnce_M6 hs rfl ?_; intro J6 k6 x6 hJ6 hs)
       | (refine vc_loopR (L31_ProcOnce_S7 _ _ _) L31_ProcOnce_M7 hs rfl ?_; intro J7 k7 x7 hJ7 hs)
       | exact (none_ne hs).elim)
theorem cq_L31_ProcOnce : PCon Go.Proofs.Try.prog 5 (liftF (.pair (.sl (.arr 2 (.int .u8))) .unit) (unpack .bool) (fun x => L31_ProcOnce x.1)) := lq_L31_ProcOnce ▸ c_L31_ProcOnce
end Go.Proofs.YtejedlpnejjnbaaSV
