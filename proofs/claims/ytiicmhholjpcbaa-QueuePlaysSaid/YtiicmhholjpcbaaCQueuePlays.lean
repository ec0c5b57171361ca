/- What becket/becketlaw03.QueuePlays answers. -/
import Derived.Test.YtiicmhholjpcbaaVcTab
import Derived.Test.YtiicmhholjpcbaaDQueuePlays
import Derived.Test.YtiicmhholjpcbaaCL03
import Derived.Test.YtiicmhholjpcbaaCR03
import Derived.Test.YtiicmhholjpcbaaCqueue
namespace Go.Proofs.YtiicmhholjpcbaaV
open Go.Proofs
set_option linter.unusedVariables false
noncomputable def lf_L03_QueuePlays : List AV → Option AV := liftF (.pair (.int .i64) (.pair (.int .i64) (.pair (.sl (.pair (.int .u8) (.pair (.int .i64) (.pair (.int .i64) .unit)))) .unit))) (unpack .bool) (fun x => L03_QueuePlays x.1 x.2.1 x.2.2.1)
theorem lq_L03_QueuePlays : lf_L03_QueuePlays = liftF (.pair (.int .i64) (.pair (.int .i64) (.pair (.sl (.pair (.int .u8) (.pair (.int .i64) (.pair (.int .i64) .unit)))) .unit))) (unpack .bool) (fun x => L03_QueuePlays x.1 x.2.1 x.2.2.1) := rfl
attribute [irreducible] lf_L03_QueuePlays
theorem ck_L03_QueuePlays {vs : List AV} {k : AV → Prop} {x : ((.pair (.int .i64) (.pair (.int .i64) (.pair (.sl (.pair (.int .u8) (.pair (.int .i64) (.pair (.int .i64) .unit)))) .unit))) : Ty).den} {v : Bool} (h1 : pks (.pair (.int .i64) (.pair (.int .i64) (.pair (.sl (.pair (.int .u8) (.pair (.int .i64) (.pair (.int .i64) .unit)))) .unit))) vs = some x) (h2 : L03_QueuePlays x.1 x.2.1 x.2.2.1 = some v) (h3 : k ((unpack .bool) v)) : callK (lf_L03_QueuePlays vs) k := by
  rw [lq_L03_QueuePlays]; exact callK_lift h1 h2 h3
def tt_L03_QueuePlays : List (Nat × Ty) := [(3, .int .i64), (4, .bool), (5, .int .u8), (24, .int .i64), (55, .sl (.pair (.int .u8) (.pair (.int .i64) (.pair (.int .i64) .unit)))), (56, .opq 0), (61, .pair (.int .i64) (.pair (.sl (.sl (.int .i64))) .unit)), (65, .pair (.int .u8) (.pair (.int .i64) (.pair (.int .i64) .unit))), (76, .sl (.pair (.int .i64) (.pair (.int .i64) .unit))), (77, .sl (.pair (.int .i64) (.pair (.int .i64) (.pair (.int .i64) .unit)))), (79, .pair (.int .i64) (.pair (.int .i64) (.pair (.int .i64) .unit))), (81, .pair (.sl (.pair (.int .i64) (.pair (.int .i64) .unit))) (.pair (.sl (.pair (.int .i64) (.pair (.int .i64) (.pair (.int .i64) .unit)))) (.pair (.pair (.int .i64) (.pair (.int .i64) (.pair (.int .i64) .unit))) .unit))), (161, .opq 0), (165, .pair (.int .i64) (.pair (.int .i64) .unit))]
def et_L03_QueuePlays : List (Nat × Nat) := [(55, 65), (76, 165), (77, 79)]
theorem tt_L03_QueuePlays_ok : subT tt tt_L03_QueuePlays = true := by kernel_rfl
theorem et_L03_QueuePlays_ok : subE et et_L03_QueuePlays = true := by kernel_rfl
noncomputable def fns_L03_QueuePlays : List (Nat × (List AV → Option AV)) := [(29, lf_L03_alive), (31, lf_R03_New), (33, lf_R03_Remove), (35, lf_R03_Pop), (37, lf_R03_Push)]
theorem fns_L03_QueuePlays_ok : FnsOk Go.Proofs.Try.prog fns_L03_QueuePlays := FnsOk.cons c_L03_alive (FnsOk.cons c_R03_New (FnsOk.cons c_R03_Remove (FnsOk.cons c_R03_Pop (FnsOk.cons c_R03_Push (FnsOk.nil _)))))
noncomputable def pm_L03_QueuePlays_32 : List (Nat × Proc) := (32, sumOr fs_queue_Pool_Remove rk_queue_Pool_Remove gm_queue_Pool_Remove noP) :: []
theorem pm_L03_QueuePlays_32_ok : PrsOk Go.Proofs.Try.prog pm_L03_QueuePlays_32 := PrsOk.cons (sumOr_con ms_queue_Pool_Remove no_con) (PrsOk.nil _)
noncomputable def pm_L03_QueuePlays_34 : List (Nat × Proc) := (34, sumOr fs_queue_Pool_Pop rk_queue_Pool_Pop gm_queue_Pool_Pop noP) :: pm_L03_QueuePlays_32
theorem pm_L03_QueuePlays_34_ok : PrsOk Go.Proofs.Try.prog pm_L03_QueuePlays_34 := PrsOk.cons (sumOr_con ms_queue_Pool_Pop no_con) (pm_L03_QueuePlays_32_ok)
noncomputable def pm_L03_QueuePlays_36 : List (Nat × Proc) := (36, sumOr fs_queue_Pool_Push rk_queue_Pool_Push gm_queue_Pool_Push noP) :: pm_L03_QueuePlays_34
theorem pm_L03_QueuePlays_36_ok : PrsOk Go.Proofs.Try.prog pm_L03_QueuePlays_36 := PrsOk.cons (sumOr_con ms_queue_Pool_Push no_con) (pm_L03_QueuePlays_34_ok)
noncomputable def pm_L03_QueuePlays_38 : List (Nat × Proc) := (38, sumOr fs_L03_as rk_L03_as gm_L03_as noP) :: pm_L03_QueuePlays_36
theorem pm_L03_QueuePlays_38_ok : PrsOk Go.Proofs.Try.prog pm_L03_QueuePlays_38 := PrsOk.cons (sumOr_con ms_L03_as no_con) (pm_L03_QueuePlays_36_ok)
def kp_L03_QueuePlays_84 : List (Nat × List Nat) := [(0, [0, 1, 2]), (1, [0, 1, 2, 17]), (2, [1, 2]), (3, [1, 2]), (4, [1]), (5, [])]
def od_L03_QueuePlays_84 : List (Nat × Ord) := [(3, (.one 0 (.one 1 (.one 2 (.one 3 (.one 4 (.one 5 (.one 6 (.one 7 (.one 8 (.one 9 (.one 10 (.one 100011 .nil)))))))))))))]
noncomputable def E_L03_QueuePlays_84 : Env := ⟨0, 0, et_L03_QueuePlays, tt_L03_QueuePlays, fns_L03_QueuePlays, pm_L03_QueuePlays_38, od_L03_QueuePlays_84, kp_L03_QueuePlays_84, none, []⟩
noncomputable def pr_L03_QueuePlays_84 : List (Nat × Proc) := (84, procR E_L03_QueuePlays_84 44 [] (bodyOf Try.f84)) :: pm_L03_QueuePlays_38
theorem pr_L03_QueuePlays_84_ok : PrsOk Go.Proofs.Try.prog pr_L03_QueuePlays_84 :=
  PrsOk.cons (proc_conR (E := E_L03_QueuePlays_84) (EnvC.sub (off := 0) (nt := 0) (ords := od_L03_QueuePlays_84) (keep := kp_L03_QueuePlays_84) (yl := none) tt_ok et_ok fns_L03_QueuePlays_ok (pm_L03_QueuePlays_38_ok) (ItsOk.nil _) tt_L03_QueuePlays_ok et_L03_QueuePlays_ok) (PrOk.of mixed_ok) Go.Proofs.Try.func84 rfl (by decide) rfl rfl) (pm_L03_QueuePlays_38_ok)
def kp_L03_QueuePlays_30 : List (Nat × List Nat) := [(0, [0, 1]), (1, [0, 1, 21]), (2, [4, 5]), (3, [0, 6]), (4, [6, 27, 28]), (5, [6, 27, 28, 29]), (6, [6, 27, 28]), (7, [6, 27, 28]), (8, [6, 45, 46]), (9, [6, 45, 46, 47]), (10, [6, 7, 45, 46]), (11, [6, 45, 46]), (12, [6, 45, 46]), (13, [4, 5])]
def od_L03_QueuePlays_30 : List (Nat × Ord) := []
noncomputable def E_L03_QueuePlays_30 : Env := ⟨0, 0, et_L03_QueuePlays, tt_L03_QueuePlays, fns_L03_QueuePlays, pr_L03_QueuePlays_84, od_L03_QueuePlays_30, kp_L03_QueuePlays_30, none, []⟩
noncomputable def pr_L03_QueuePlays_30 : List (Nat × Proc) := (30, procR E_L03_QueuePlays_30 57 [.tmp 4, .tmp 5] (bodyOf Try.f30)) :: pr_L03_QueuePlays_84
theorem pr_L03_QueuePlays_30_ok : PrsOk Go.Proofs.Try.prog pr_L03_QueuePlays_30 :=
  PrsOk.cons (proc_conR (E := E_L03_QueuePlays_30) (EnvC.sub (off := 0) (nt := 0) (ords := od_L03_QueuePlays_30) (keep := kp_L03_QueuePlays_30) (yl := none) tt_ok et_ok fns_L03_QueuePlays_ok (pr_L03_QueuePlays_84_ok) (ItsOk.nil _) tt_L03_QueuePlays_ok et_L03_QueuePlays_ok) (PrOk.of mixed_ok) Go.Proofs.Try.func30 rfl (by decide) rfl rfl) (pr_L03_QueuePlays_84_ok)
def L03_QueuePlays_S1 (u0 : AV) (u1 : AV) (x1 : (List (Int × Int × Int × Unit)) × Int × Int × Int × List (List Int) × (List (Int × Int × Unit)) × Int × Int × Int × (List (Int × Int × Int × Unit))) : St :=
  ⟨[(7, u0), (9, u1), (56, .ro (.pair (.int .u8) (.pair (.int .i64) (.pair (.int .i64) .unit))) x1.1), (57, .int .i64 x1.2.1), (58, .int .i64 x1.2.2.1)], [(9, .var (.pair (.int .i64) (.pair (.sl (.sl (.int .i64))) .unit)) (.agg [.int .i64 x1.2.2.2.1, .ro (.sl (.int .i64)) x1.2.2.2.2.1]) false), (30743, .row 165 (.pair (.int .i64) (.pair (.int .i64) .unit)) x1.2.2.2.2.2.1 false), (30746, .var (.pair (.sl (.pair (.int .i64) (.pair (.int .i64) .unit))) (.pair (.sl (.pair (.int .i64) (.pair (.int .i64) (.pair (.int .i64) .unit)))) (.pair (.pair (.int .i64) (.pair (.int .i64) (.pair (.int .i64) .unit))) .unit))) (.agg [.own 30743, .own 30757, .agg [.int .i64 x1.2.2.2.2.2.2.1, .int .i64 x1.2.2.2.2.2.2.2.1, .int .i64 x1.2.2.2.2.2.2.2.2.1]]) false), (30757, .row 79 (.pair (.int .i64) (.pair (.int .i64) (.pair (.int .i64) .unit))) x1.2.2.2.2.2.2.2.2.2 false)], none⟩
def L03_QueuePlays_M1 : Msk := ⟨[7, 9, 56, 57, 58], [9, 30743, 30746, 30757], [], [], [], [], [], [], []⟩
def L03_QueuePlays_S2 (u0 : AV) (u1 : AV) (B2 : Blk) (x3 : Int × (List (Int × Int × Unit)) × Int × Int × Int) : St :=
  ⟨[(6, u0), (45, u1), (46, .int .i64 x3.1)], [(30743, .row 165 (.pair (.int .i64) (.pair (.int .i64) .unit)) x3.2.1 false), (30746, .var (.pair (.sl (.pair (.int .i64) (.pair (.int .i64) .unit))) (.pair (.sl (.pair (.int .i64) (.pair (.int .i64) (.pair (.int .i64) .unit)))) (.pair (.pair (.int .i64) (.pair (.int .i64) (.pair (.int .i64) .unit))) .unit))) (.agg [.own 30743, .own 30757, .agg [.int .i64 x3.2.2.1, .int .i64 x3.2.2.2.1, .int .i64 x3.2.2.2.2]]) false), (30757, B2)], (some ([30756, 30757], 0))⟩
def L03_QueuePlays_M2 : Msk := ⟨[6, 45, 46], [30743, 30746, 30757], [], [], [30756, 30757], [], [], [], []⟩
def L03_QueuePlays_S3 (u0 : AV) (u1 : AV) (B2 : Blk) (B4 : Blk) (x4 : Int × (List (Int × Int × Int × Unit))) : St :=
  ⟨[(6, u0), (27, u1), (28, .int .i64 x4.1)], [(30743, B2), (30746, B4), (30757, .row 79 (.pair (.int .i64) (.pair (.int .i64) (.pair (.int .i64) .unit))) x4.2 false)], (some ([30756, 30757], 0))⟩
def L03_QueuePlays_M3 : Msk := ⟨[6, 27, 28], [30743, 30746, 30757], [], [(30746, [1], 30757, 77)], [30756, 30757], [], [], [], []⟩
def L03_QueuePlays_Q1 (x2 : (List (Int × Int × Int × Unit)) × Int × Int × Int × List (List Int) × Int × Int × Int × (List (Int × Int × Unit)) × Int × Int × Int × (List (Int × Int × Int × Unit))) : St :=
  ⟨[(7, .ptr 30746 []), (9, .ptr 9 []), (12, .ptr 12 []), (56, .ro (.pair (.int .u8) (.pair (.int .i64) (.pair (.int .i64) .unit))) x2.1), (57, .int .i64 x2.2.1), (58, .int .i64 x2.2.2.1)], [(9, .var (.pair (.int .i64) (.pair (.sl (.sl (.int .i64))) .unit)) (.agg [.int .i64 x2.2.2.2.1, .ro (.sl (.int .i64)) x2.2.2.2.2.1]) false), (12, .var (.pair (.int .u8) (.pair (.int .i64) (.pair (.int .i64) .unit))) (.agg [.int .u8 x2.2.2.2.2.2.1, .int .i64 x2.2.2.2.2.2.2.1, .int .i64 x2.2.2.2.2.2.2.2.1]) false), (30743, .row 165 (.pair (.int .i64) (.pair (.int .i64) .unit)) x2.2.2.2.2.2.2.2.2.1 false), (30746, .var (.pair (.sl (.pair (.int .i64) (.pair (.int .i64) .unit))) (.pair (.sl (.pair (.int .i64) (.pair (.int .i64) (.pair (.int .i64) .unit)))) (.pair (.pair (.int .i64) (.pair (.int .i64) (.pair (.int .i64) .unit))) .unit))) (.agg [.own 30743, .own 30757, .agg [.int .i64 x2.2.2.2.2.2.2.2.2.2.1, .int .i64 x2.2.2.2.2.2.2.2.2.2.2.1, .int .i64 x2.2.2.2.2.2.2.2.2.2.2.2.1]]) false), (30757, .row 79 (.pair (.int .i64) (.pair (.int .i64) (.pair (.int .i64) .unit))) x2.2.2.2.2.2.2.2.2.2.2.2.2 false)], none⟩
def kp_L03_QueuePlays : List (Nat × List Nat) := [(0, [0, 1, 2]), (1, [0, 1, 2, 24]), (2, [6]), (3, [0, 1, 2, 7, 8]), (4, [2, 7, 8, 9, 10]), (5, [2, 7, 8, 9, 10, 39]), (6, [6]), (7, [2, 7, 9, 55]), (8, [6]), (9, [7, 9, 56, 57, 58]), (10, [7, 9, 56, 57, 58, 59]), (11, [7, 9, 12, 56, 57, 58]), (12, [7, 9, 12, 56, 57, 58, 64]), (13, [7, 9, 12, 20, 56, 57, 58]), (14, [7, 9, 12, 20, 21, 56, 57, 58]), (15, [7, 9, 12, 56, 57, 58, 82]), (16, [6]), (17, [7, 9, 12, 56, 57, 58, 64, 83]), (18, [7, 9, 12, 13, 56, 57, 58]), (19, [7, 9, 12, 13, 14, 56, 57, 58]), (20, [7, 9, 12, 56, 57, 58, 102]), (21, [6]), (22, [7, 9, 12, 56, 57, 58, 103]), (23, [7, 9, 12, 15, 16, 56, 57, 58]), (24, [7, 9, 12, 15, 16, 17, 18, 19, 56, 57, 58]), (25, [7, 9, 12, 15, 16, 18, 19, 56, 57, 58]), (26, [7, 9, 12, 56, 57, 58, 128]), (27, [6]), (28, [7, 9, 56, 57, 58, 134]), (29, [6]), (30, [7, 9, 56, 57, 58]), (31, [6]), (12000002, []), (7000002, [7, 9, 12, 56, 57, 58]), (11000002, [9, 12, 30743, 30746, 30757]), (13000002, []), (4000000, []), (4000001, []), (4000002, []), (4000003, [30743, 30746, 30757]), (4000004, [9, 30743, 30746, 30757]), (4000005, [9, 30743, 30746, 30757]), (4000006, []), (4000007, [9, 30743, 30746, 30757]), (4000008, []), (4000009, [9, 30743, 30746, 30757]), (4000010, [9, 30743, 30746, 30757]), (4000011, [9, 12, 30743, 30746, 30757]), (4000012, [9, 12, 30743, 30746, 30757]), (4000013, [9, 12, 30743, 30746, 30757]), (4000014, [9, 12, 30743, 30746, 30757]), (4000015, [9, 12, 30743, 30746, 30757]), (4000016, []), (4000017, [9, 12, 30743, 30746, 30757]), (4000018, [9, 12, 30743, 30746, 30757]), (4000019, [9, 12, 30743, 30746, 30757]), (4000020, [9, 12, 30743, 30746, 30757]), (4000021, []), (4000022, [9, 12, 30743, 30746, 30757]), (4000023, [9, 12, 30743, 30746, 30757]), (4000024, [9, 12, 17, 30743, 30746, 30757]), (4000025, [9, 12, 30743, 30746, 30757]), (4000026, [9, 12, 30743, 30746, 30757]), (4000027, []), (4000028, [9, 30743, 30746, 30757]), (4000029, []), (4000030, [9, 30743, 30746, 30757]), (4000031, [])]
def od_L03_QueuePlays : List (Nat × Ord) := []
noncomputable def E_L03_QueuePlays : Env := ⟨0, 0, et_L03_QueuePlays, tt_L03_QueuePlays, fns_L03_QueuePlays, pr_L03_QueuePlays_30, od_L03_QueuePlays, kp_L03_QueuePlays, none, []⟩
set_option maxRecDepth 100000 in
set_option maxHeartbeats 40000000 in
theorem c_L03_QueuePlays : PCon Go.Proofs.Try.prog 6 lf_L03_QueuePlays := by
  rw [lq_L03_QueuePlays]
  refine lift_conR (E := E_L03_QueuePlays) (c := bodyOf Try.f6) (nt := 142) (rs := [.tmp 6]) (ts := [4]) (EnvC.sub (off := 0) (nt := 0) (ords := od_L03_QueuePlays) (keep := kp_L03_QueuePlays) (yl := none) tt_ok et_ok fns_L03_QueuePlays_ok (pr_L03_QueuePlays_30_ok) (ItsOk.nil _) tt_L03_QueuePlays_ok et_L03_QueuePlays_ok) (PrOk.of mixed_ok) Go.Proofs.Try.func6 rfl (by decide) rfl rfl rfl (pureR_one (e := .bool) rfl) ?_
  intro x r hw hs
  repeat'
    (try (conv => whnf)
     first
       | (with_reducible have hs := letv_out hs)
       | (refine draw_and (by kernel_rfl) ?_)
       | (refine both_mk ?_ ?_)
       | (refine br_bool (fun h => ?_) (fun h => ?_) <;> first | have hs := cT h hs | have hs := cF h hs)
       | (refine bind_elim hs fun v hb hs => ?_; first | refine ck_L03_alive rfl hb ?_ | refine ck_R03_New rfl hb ?_ | refine ck_R03_Remove rfl hb ?_ | refine ck_R03_Pop rfl hb ?_ | refine ck_R03_Push rfl hb ?_ | refine cm_queue_Pool_Remove rfl hb ?_ | refine cm_queue_Pool_Pop rfl hb ?_ | refine cm_queue_Pool_Push rfl hb ?_ | refine cm_L03_as rfl hb ?_)
       | refine chk_elim hs fun hs => ?_
       | (have hs := letv_out hs)
       | exact fin_some hs rfl
       | (intro b hb; first | have hs := nilq_elim hs b hb | have hs := nilqn_elim hs b hb)
       | exact hJ1 _ hs
       | exact hJ2 _ hs
       | exact hJ3 _ hs
       | exact hC1 _ hs
       | (refine cut_out 1 L03_QueuePlays_Q1 hs (fun Jc1 kc1 hC1 hs => ?_) (fun xc1 hs => ?_))
       | (have hs := cT rfl hs)
       | (have hs := cF rfl hs)
       | (refine vc_loopR (L03_QueuePlays_S1 _ _) L03_QueuePlays_M1 hs rfl ?_; intro J1 k1 x1 hJ1 hs)
       | (refine vc_loopR (L03_QueuePlays_S2 _ _ _) L03_QueuePlays_M2 hs rfl ?_; intro J2 k2 x2 hJ2 hs)
       | (refine vc_loopR (L03_QueuePlays_S3 _ _ _ _) L03_QueuePlays_M3 hs rfl ?_; intro J3 k3 x3 hJ3 hs)
       | exact (none_ne hs).elim)
theorem cq_L03_QueuePlays : PCon Go.Proofs.Try.prog 6 (liftF (.pair (.int .i64) (.pair (.int .i64) (.pair (.sl (.pair (.int .u8) (.pair (.int .i64) (.pair (.int .i64) .unit)))) .unit))) (unpack .bool) (fun x => L03_QueuePlays x.1 x.2.1 x.2.2.1)) := lq_L03_QueuePlays ▸ c_L03_QueuePlays
end Go.Proofs.YtiicmhholjpcbaaV
