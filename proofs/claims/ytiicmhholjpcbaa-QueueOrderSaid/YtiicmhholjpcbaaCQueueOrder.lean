/- What becket/becketlaw03.QueueOrder answers. -/
import Derived.Test.YtiicmhholjpcbaaVcTab
import Derived.Test.YtiicmhholjpcbaaDQueueOrder
import Derived.Test.YtiicmhholjpcbaaCL03
import Derived.Test.YtiicmhholjpcbaaCqueue
namespace Go.Proofs.YtiicmhholjpcbaaV
open Go.Proofs
set_option linter.unusedVariables false
noncomputable def lf_L03_QueueOrder : List AV → Option AV := liftF (.pair (.sl (.arr 2 (.int .u8))) .unit) (unpack .bool) (fun x => L03_QueueOrder x.1)
theorem lq_L03_QueueOrder : lf_L03_QueueOrder = liftF (.pair (.sl (.arr 2 (.int .u8))) .unit) (unpack .bool) (fun x => L03_QueueOrder x.1) := rfl
attribute [irreducible] lf_L03_QueueOrder
theorem ck_L03_QueueOrder {vs : List AV} {k : AV → Prop} {x : ((.pair (.sl (.arr 2 (.int .u8))) .unit) : Ty).den} {v : Bool} (h1 : pks (.pair (.sl (.arr 2 (.int .u8))) .unit) vs = some x) (h2 : L03_QueueOrder x.1 = some v) (h3 : k ((unpack .bool) v)) : callK (lf_L03_QueueOrder vs) k := by
  rw [lq_L03_QueueOrder]; exact callK_lift h1 h2 h3
def tt_L03_QueueOrder : List (Nat × Ty) := [(3, .int .i64), (4, .bool), (5, .int .u8), (24, .int .i64), (56, .opq 0), (73, .sl (.arr 2 (.int .u8))), (74, .arr 2 (.int .u8)), (76, .sl (.pair (.int .i64) (.pair (.int .i64) .unit))), (77, .sl (.pair (.int .i64) (.pair (.int .i64) (.pair (.int .i64) .unit)))), (79, .pair (.int .i64) (.pair (.int .i64) (.pair (.int .i64) .unit))), (81, .pair (.sl (.pair (.int .i64) (.pair (.int .i64) .unit))) (.pair (.sl (.pair (.int .i64) (.pair (.int .i64) (.pair (.int .i64) .unit)))) (.pair (.pair (.int .i64) (.pair (.int .i64) (.pair (.int .i64) .unit))) .unit))), (161, .opq 0), (165, .pair (.int .i64) (.pair (.int .i64) .unit))]
def et_L03_QueueOrder : List (Nat × Nat) := [(73, 74), (76, 165), (77, 79)]
theorem tt_L03_QueueOrder_ok : subT tt tt_L03_QueueOrder = true := by kernel_rfl
theorem et_L03_QueueOrder_ok : subE et et_L03_QueueOrder = true := by kernel_rfl
noncomputable def fns_L03_QueueOrder : List (Nat × (List AV → Option AV)) := [(29, lf_L03_alive)]
theorem fns_L03_QueueOrder_ok : FnsOk Go.Proofs.Try.prog fns_L03_QueueOrder := FnsOk.cons c_L03_alive (FnsOk.nil _)
noncomputable def pm_L03_QueueOrder_34 : List (Nat × Proc) := (34, sumOr fs_queue_Pool_Pop rk_queue_Pool_Pop gm_queue_Pool_Pop noP) :: []
theorem pm_L03_QueueOrder_34_ok : PrsOk Go.Proofs.Try.prog pm_L03_QueueOrder_34 := PrsOk.cons (sumOr_con ms_queue_Pool_Pop no_con) (PrsOk.nil _)
noncomputable def pm_L03_QueueOrder_36 : List (Nat × Proc) := (36, sumOr fs_queue_Pool_Push rk_queue_Pool_Push gm_queue_Pool_Push noP) :: pm_L03_QueueOrder_34
theorem pm_L03_QueueOrder_36_ok : PrsOk Go.Proofs.Try.prog pm_L03_QueueOrder_36 := PrsOk.cons (sumOr_con ms_queue_Pool_Push no_con) (pm_L03_QueueOrder_34_ok)
noncomputable def pm_L03_QueueOrder_39 : List (Nat × Proc) := (39, sumOr fs_queue_Pool_Free rk_queue_Pool_Free gm_queue_Pool_Free noP) :: pm_L03_QueueOrder_36
theorem pm_L03_QueueOrder_39_ok : PrsOk Go.Proofs.Try.prog pm_L03_QueueOrder_39 := PrsOk.cons (sumOr_con ms_queue_Pool_Free no_con) (pm_L03_QueueOrder_36_ok)
def kp_L03_QueueOrder_84 : List (Nat × List Nat) := [(0, [0, 1, 2]), (1, [0, 1, 2, 17]), (2, [1, 2]), (3, [1, 2]), (4, [1]), (5, [])]
def od_L03_QueueOrder_84 : List (Nat × Ord) := [(3, (.one 0 (.one 1 (.one 2 (.one 3 (.one 4 (.one 5 (.one 6 (.one 7 (.one 8 (.one 9 (.one 10 (.one 100011 .nil)))))))))))))]
noncomputable def E_L03_QueueOrder_84 : Env := ⟨0, 0, et_L03_QueueOrder, tt_L03_QueueOrder, fns_L03_QueueOrder, pm_L03_QueueOrder_39, od_L03_QueueOrder_84, kp_L03_QueueOrder_84, none, []⟩
noncomputable def pr_L03_QueueOrder_84 : List (Nat × Proc) := (84, procR E_L03_QueueOrder_84 44 [] (bodyOf Try.f84)) :: pm_L03_QueueOrder_39
theorem pr_L03_QueueOrder_84_ok : PrsOk Go.Proofs.Try.prog pr_L03_QueueOrder_84 :=
  PrsOk.cons (proc_conR (E := E_L03_QueueOrder_84) (EnvC.sub (off := 0) (nt := 0) (ords := od_L03_QueueOrder_84) (keep := kp_L03_QueueOrder_84) (yl := none) tt_ok et_ok fns_L03_QueueOrder_ok (pm_L03_QueueOrder_39_ok) (ItsOk.nil _) tt_L03_QueueOrder_ok et_L03_QueueOrder_ok) (PrOk.of mixed_ok) Go.Proofs.Try.func84 rfl (by decide) rfl rfl) (pm_L03_QueueOrder_39_ok)
def kp_L03_QueueOrder_30 : List (Nat × List Nat) := [(0, [0, 1]), (1, [0, 1, 21]), (2, [4, 5]), (3, [0, 6]), (4, [6, 27, 28]), (5, [6, 27, 28, 29]), (6, [6, 27, 28]), (7, [6, 27, 28]), (8, [6, 45, 46]), (9, [6, 45, 46, 47]), (10, [6, 7, 45, 46]), (11, [6, 45, 46]), (12, [6, 45, 46]), (13, [4, 5])]
def od_L03_QueueOrder_30 : List (Nat × Ord) := []
noncomputable def E_L03_QueueOrder_30 : Env := ⟨0, 0, et_L03_QueueOrder, tt_L03_QueueOrder, fns_L03_QueueOrder, pr_L03_QueueOrder_84, od_L03_QueueOrder_30, kp_L03_QueueOrder_30, none, []⟩
noncomputable def pr_L03_QueueOrder_30 : List (Nat × Proc) := (30, procR E_L03_QueueOrder_30 57 [.tmp 4, .tmp 5] (bodyOf Try.f30)) :: pr_L03_QueueOrder_84
theorem pr_L03_QueueOrder_30_ok : PrsOk Go.Proofs.Try.prog pr_L03_QueueOrder_30 :=
  PrsOk.cons (proc_conR (E := E_L03_QueueOrder_30) (EnvC.sub (off := 0) (nt := 0) (ords := od_L03_QueueOrder_30) (keep := kp_L03_QueueOrder_30) (yl := none) tt_ok et_ok fns_L03_QueueOrder_ok (pr_L03_QueueOrder_84_ok) (ItsOk.nil _) tt_L03_QueueOrder_ok et_L03_QueueOrder_ok) (PrOk.of mixed_ok) Go.Proofs.Try.func30 rfl (by decide) rfl rfl) (pr_L03_QueueOrder_84_ok)
def L03_QueueOrder_S1 (u0 : AV) (u1 : AV) (B2 : Blk) (x2 : Int × (List (Int × Int × Unit)) × Int × Int × Int) : St :=
  ⟨[(6, u0), (45, u1), (46, .int .i64 x2.1)], [(16407, .row 165 (.pair (.int .i64) (.pair (.int .i64) .unit)) x2.2.1 false), (16410, .var (.pair (.sl (.pair (.int .i64) (.pair (.int .i64) .unit))) (.pair (.sl (.pair (.int .i64) (.pair (.int .i64) (.pair (.int .i64) .unit)))) (.pair (.pair (.int .i64) (.pair (.int .i64) (.pair (.int .i64) .unit))) .unit))) (.agg [.own 16407, .own 16421, .agg [.int .i64 x2.2.2.1, .int .i64 x2.2.2.2.1, .int .i64 x2.2.2.2.2]]) false), (16421, B2)], (some ([16420, 16421], 0))⟩
def L03_QueueOrder_M1 : Msk := ⟨[6, 45, 46], [16407, 16410, 16421], [], [], [16420, 16421], [], [], [], []⟩
def L03_QueueOrder_S2 (u0 : AV) (u1 : AV) (B2 : Blk) (B4 : Blk) (x3 : Int × (List (Int × Int × Int × Unit))) : St :=
  ⟨[(6, u0), (27, u1), (28, .int .i64 x3.1)], [(16407, B2), (16410, B4), (16421, .row 79 (.pair (.int .i64) (.pair (.int .i64) (.pair (.int .i64) .unit))) x3.2 false)], (some ([16420, 16421], 0))⟩
def L03_QueueOrder_M2 : Msk := ⟨[6, 27, 28], [16407, 16410, 16421], [], [(16410, [1], 16421, 77)], [16420, 16421], [], [], [], []⟩
def L03_QueueOrder_S3 (u0 : AV) (u1 : AV) (u2 : AV) (u3 : AV) (u4 : AV) (u5 : AV) (x5 : Int × (List (Int × Int × Unit)) × Int × Int × Int × (List (Int × Int × Int × Unit))) : St :=
  ⟨[(0, u0), (3, u1), (7, u2), (51, u3), (54, u4), (55, u5), (56, .int .i64 x5.1)], [(16407, .row 165 (.pair (.int .i64) (.pair (.int .i64) .unit)) x5.2.1 false), (16410, .var (.pair (.sl (.pair (.int .i64) (.pair (.int .i64) .unit))) (.pair (.sl (.pair (.int .i64) (.pair (.int .i64) (.pair (.int .i64) .unit)))) (.pair (.pair (.int .i64) (.pair (.int .i64) (.pair (.int .i64) .unit))) .unit))) (.agg [.own 16407, .own 16421, .agg [.int .i64 x5.2.2.1, .int .i64 x5.2.2.2.1, .int .i64 x5.2.2.2.2.1]]) false), (16421, .row 79 (.pair (.int .i64) (.pair (.int .i64) (.pair (.int .i64) .unit))) x5.2.2.2.2.2 false)], none⟩
def L03_QueueOrder_M3 : Msk := ⟨[0, 3, 7, 51, 54, 55, 56], [16407, 16410, 16421], [], [], [], [], [], [], []⟩
def L03_QueueOrder_S4 (u0 : AV) (u1 : AV) (x4 : Int × (List (Int × Int × Unit)) × Int × Int × Int × (List (Int × Int × Int × Unit))) : St :=
  ⟨[(0, u0), (3, u1), (51, .int .i64 x4.1)], [(16407, .row 165 (.pair (.int .i64) (.pair (.int .i64) .unit)) x4.2.1 false), (16410, .var (.pair (.sl (.pair (.int .i64) (.pair (.int .i64) .unit))) (.pair (.sl (.pair (.int .i64) (.pair (.int .i64) (.pair (.int .i64) .unit)))) (.pair (.pair (.int .i64) (.pair (.int .i64) (.pair (.int .i64) .unit))) .unit))) (.agg [.own 16407, .own 16421, .agg [.int .i64 x4.2.2.1, .int .i64 x4.2.2.2.1, .int .i64 x4.2.2.2.2.1]]) false), (16421, .row 79 (.pair (.int .i64) (.pair (.int .i64) (.pair (.int .i64) .unit))) x4.2.2.2.2.2 false)], none⟩
def L03_QueueOrder_M4 : Msk := ⟨[0, 3, 51], [16407, 16410, 16421], [], [], [], [], [], [], []⟩
def L03_QueueOrder_S5 (u0 : AV) (u1 : AV) (u2 : AV) (u3 : AV) (x6 : Int × (List (Int × Int × Unit)) × Int × Int × Int × (List (Int × Int × Int × Unit))) : St :=
  ⟨[(0, u0), (3, u1), (34, u2), (35, u3), (36, .int .i64 x6.1)], [(16407, .row 165 (.pair (.int .i64) (.pair (.int .i64) .unit)) x6.2.1 false), (16410, .var (.pair (.sl (.pair (.int .i64) (.pair (.int .i64) .unit))) (.pair (.sl (.pair (.int .i64) (.pair (.int .i64) (.pair (.int .i64) .unit)))) (.pair (.pair (.int .i64) (.pair (.int .i64) (.pair (.int .i64) .unit))) .unit))) (.agg [.own 16407, .own 16421, .agg [.int .i64 x6.2.2.1, .int .i64 x6.2.2.2.1, .int .i64 x6.2.2.2.2.1]]) false), (16421, .row 79 (.pair (.int .i64) (.pair (.int .i64) (.pair (.int .i64) .unit))) x6.2.2.2.2.2 false)], none⟩
def L03_QueueOrder_M5 : Msk := ⟨[0, 3, 34, 35, 36], [16407, 16410, 16421], [], [], [], [], [], [], []⟩
def L03_QueueOrder_Q1 (x1 : List (List Int) × (List (Int × Int × Unit)) × Int × Int × Int × (List (Int × Int × Int × Unit))) : St :=
  ⟨[(0, .ro (.arr 2 (.int .u8)) x1.1), (3, .dead), (4, .dead), (14, .dead), (15, .tup [.ptr 16410 [], .int .i64 0]), (16, .dead), (17, .dead)], [(16407, .row 165 (.pair (.int .i64) (.pair (.int .i64) .unit)) x1.2.1 false), (16410, .var (.pair (.sl (.pair (.int .i64) (.pair (.int .i64) .unit))) (.pair (.sl (.pair (.int .i64) (.pair (.int .i64) (.pair (.int .i64) .unit)))) (.pair (.pair (.int .i64) (.pair (.int .i64) (.pair (.int .i64) .unit))) .unit))) (.agg [.own 16407, .own 16421, .agg [.int .i64 x1.2.2.1, .int .i64 x1.2.2.2.1, .int .i64 x1.2.2.2.2.1]]) false), (16421, .row 79 (.pair (.int .i64) (.pair (.int .i64) (.pair (.int .i64) .unit))) x1.2.2.2.2.2 false)], none⟩
def kp_L03_QueueOrder : List (Nat × List Nat) := [(0, [0]), (1, [0, 3, 4]), (2, [0, 3, 28]), (3, [2]), (4, [0, 3, 34, 35, 36]), (5, [0, 3, 34, 35, 36, 37]), (6, [0, 3, 6, 34, 35, 36]), (7, [0, 3, 34, 35, 36, 49]), (8, [2]), (9, [0, 3, 34, 35, 36]), (10, [0, 3, 51]), (11, [0, 3, 51, 52]), (12, [0, 3, 7, 51]), (13, [0, 3, 7, 51, 54, 55, 56]), (14, [0, 3, 7, 51, 54, 55, 56, 57]), (15, [0, 3, 7, 9, 51, 54, 55, 56]), (16, [0, 3, 7, 9, 51, 54, 55, 56, 65]), (17, [0, 3, 7, 9, 10, 11, 51, 54, 55, 56]), (18, [0, 3, 7, 51, 54, 55, 56, 80]), (19, [2]), (20, [0, 3, 7, 51, 54, 55, 56]), (21, [0, 3, 13, 51]), (22, [0, 3, 51, 89]), (23, [2]), (24, [0, 3, 51]), (25, [2]), (25000015, []), (20000015, [0, 3, 4, 14, 15, 16, 17]), (24000015, [16407, 16410, 16421]), (26000015, []), (4000000, []), (4000001, [16407, 16410, 16421]), (4000002, [16407, 16410, 16421]), (4000003, []), (4000004, [16407, 16410, 16421]), (4000005, [16407, 16410, 16421]), (4000006, [6, 16407, 16410, 16421]), (4000007, [16407, 16410, 16421]), (4000008, []), (4000009, [16407, 16410, 16421]), (4000010, [16407, 16410, 16421]), (4000011, [16407, 16410, 16421]), (4000012, [16407, 16410, 16421]), (4000013, [16407, 16410, 16421]), (4000014, [16407, 16410, 16421]), (4000015, [9, 16407, 16410, 16421]), (4000016, [9, 16407, 16410, 16421]), (4000017, [9, 16407, 16410, 16421]), (4000018, [16407, 16410, 16421]), (4000019, []), (4000020, [16407, 16410, 16421]), (4000021, [16407, 16410, 16421]), (4000022, [16407, 16410, 16421]), (4000023, []), (4000024, [16407, 16410, 16421]), (4000025, [])]
def od_L03_QueueOrder : List (Nat × Ord) := []
noncomputable def E_L03_QueueOrder : Env := ⟨0, 0, et_L03_QueueOrder, tt_L03_QueueOrder, fns_L03_QueueOrder, pr_L03_QueueOrder_30, od_L03_QueueOrder, kp_L03_QueueOrder, none, []⟩
set_option maxRecDepth 100000 in
set_option maxHeartbeats 40000000 in
theorem c_L03_QueueOrder : PCon Go.Proofs.Try.prog 7 lf_L03_QueueOrder := by
  rw [lq_L03_QueueOrder]
  refine lift_conR (E := E_L03_QueueOrder) (c := bodyOf Try.f7) (nt := 97) (rs := [.tmp 2]) (ts := [4]) (EnvC.sub (off := 0) (nt := 0) (ords := od_L03_QueueOrder) (keep := kp_L03_QueueOrder) (yl := none) tt_ok et_ok fns_L03_QueueOrder_ok (pr_L03_QueueOrder_30_ok) (ItsOk.nil _) tt_L03_QueueOrder_ok et_L03_QueueOrder_ok) (PrOk.of mixed_ok) Go.Proofs.Try.func7 rfl (by decide) rfl rfl rfl (pureR_one (e := .bool) rfl) ?_
  intro x r hw hs
  repeat'
    (try (conv => whnf)
     first
       | (with_reducible have hs := letv_out hs)
       | (refine draw_and (by kernel_rfl) ?_)
       | (refine both_mk ?_ ?_)
       | (refine br_bool (fun h => ?_) (fun h => ?_) <;> first | have hs := cT h hs | have hs := cF h hs)
       | (refine bind_elim hs fun v hb hs => ?_; first | refine ck_L03_alive rfl hb ?_ | refine cm_queue_Pool_Pop rfl hb ?_ | refine cm_queue_Pool_Push rfl hb ?_ | refine cm_queue_Pool_Free rfl hb ?_)
       | refine chk_elim hs fun hs => ?_
       | (have hs := letv_out hs)
       | exact fin_some hs rfl
       | (intro b hb; first | have hs := nilq_elim hs b hb | have hs := nilqn_elim hs b hb)
       | exact hJ1 _ hs
       | exact hJ2 _ hs
       | exact hJ3 _ hs
       | exact hJ4 _ hs
       | exact hJ5 _ hs
       | exact hC1 _ hs
       | (refine cut_out 1 L03_QueueOrder_Q1 hs (fun Jc1 kc1 hC1 hs => ?_) (fun xc1 hs => ?_))
       | (have hs := cT rfl hs)
       | (have hs := cF rfl hs)
       | (refine vc_loopR (L03_QueueOrder_S1 _ _ _) L03_QueueOrder_M1 hs rfl ?_; intro J1 k1 x1 hJ1 hs)
       | (refine vc_loopR (L03_QueueOrder_S2 _ _ _ _) L03_QueueOrder_M2 hs rfl ?_; intro J2 k2 x2 hJ2 hs)
       | (refine vc_loopR (L03_QueueOrder_S3 _ _ _ _ _ _) L03_QueueOrder_M3 hs rfl ?_; intro J3 k3 x3 hJ3 hs)
       | (refine vc_loopR (L03_QueueOrder_S4 _ _) L03_QueueOrder_M4 hs rfl ?_; intro J4 k4 x4 hJ4 hs)
       | (refine vc_loopR (L03_QueueOrder_S5 _ _ _ _) L03_QueueOrder_M5 hs rfl ?_; intro J5 k5 x5 hJ5 hs)
       | exact (none_ne hs).elim)
theorem cq_L03_QueueOrder : PCon Go.Proofs.Try.prog 7 (liftF (.pair (.sl (.arr 2 (.int .u8))) .unit) (unpack .bool) (fun x => L03_QueueOrder x.1)) := lq_L03_QueueOrder ▸ c_L03_QueueOrder
end Go.Proofs.YtiicmhholjpcbaaV
