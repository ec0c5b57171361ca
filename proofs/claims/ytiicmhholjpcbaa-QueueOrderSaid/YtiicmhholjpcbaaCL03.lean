import Derived.Test.YtiicmhholjpcbaaVcTab
import Derived.Test.YtiicmhholjpcbaaDL03
import Derived.Test.YtiicmhholjpcbaaCR02
import Derived.Test.YtiicmhholjpcbaaCR03
import Derived.Test.YtiicmhholjpcbaaCqueue
namespace Go.Proofs.YtiicmhholjpcbaaV
open Go.Proofs
set_option linter.unusedVariables false
noncomputable def lf_L03_alive : List AV → Option AV := liftF .unit (unpack .bool) (fun x => L03_alive)
theorem lq_L03_alive : lf_L03_alive = liftF .unit (unpack .bool) (fun x => L03_alive) := rfl
attribute [irreducible] lf_L03_alive
theorem ck_L03_alive {vs : List AV} {k : AV → Prop} {x : (.unit : Ty).den} {v : Bool} (h1 : pks .unit vs = some x) (h2 : L03_alive = some v) (h3 : k ((unpack .bool) v)) : callK (lf_L03_alive vs) k := by
  rw [lq_L03_alive]; exact callK_lift h1 h2 h3
def tt_L03_alive : List (Nat × Ty) := [(3, .int .i64), (4, .bool), (24, .int .i64), (36, .sl (.int .i64)), (56, .opq 0), (76, .sl (.pair (.int .i64) (.pair (.int .i64) .unit))), (77, .sl (.pair (.int .i64) (.pair (.int .i64) (.pair (.int .i64) .unit)))), (79, .pair (.int .i64) (.pair (.int .i64) (.pair (.int .i64) .unit))), (81, .pair (.sl (.pair (.int .i64) (.pair (.int .i64) .unit))) (.pair (.sl (.pair (.int .i64) (.pair (.int .i64) (.pair (.int .i64) .unit)))) (.pair (.pair (.int .i64) (.pair (.int .i64) (.pair (.int .i64) .unit))) .unit))), (161, .opq 0), (165, .pair (.int .i64) (.pair (.int .i64) .unit))]
def et_L03_alive : List (Nat × Nat) := [(36, 3), (76, 165), (77, 79)]
theorem tt_L03_alive_ok : subT tt tt_L03_alive = true := by kernel_rfl
theorem et_L03_alive_ok : subE et et_L03_alive = true := by kernel_rfl
noncomputable def fns_L03_alive : List (Nat × (List AV → Option AV)) := []
theorem fns_L03_alive_ok : FnsOk Go.Proofs.Try.prog fns_L03_alive := FnsOk.nil _
noncomputable def pm_L03_alive_32 : List (Nat × Proc) := (32, sumOr fs_queue_Pool_Remove rk_queue_Pool_Remove gm_queue_Pool_Remove noP) :: []
theorem pm_L03_alive_32_ok : PrsOk Go.Proofs.Try.prog pm_L03_alive_32 := PrsOk.cons (sumOr_con ms_queue_Pool_Remove no_con) (PrsOk.nil _)
noncomputable def pm_L03_alive_34 : List (Nat × Proc) := (34, sumOr fs_queue_Pool_Pop rk_queue_Pool_Pop gm_queue_Pool_Pop noP) :: pm_L03_alive_32
theorem pm_L03_alive_34_ok : PrsOk Go.Proofs.Try.prog pm_L03_alive_34 := PrsOk.cons (sumOr_con ms_queue_Pool_Pop no_con) (pm_L03_alive_32_ok)
noncomputable def pm_L03_alive_36 : List (Nat × Proc) := (36, sumOr fs_queue_Pool_Push rk_queue_Pool_Push gm_queue_Pool_Push noP) :: pm_L03_alive_34
theorem pm_L03_alive_36_ok : PrsOk Go.Proofs.Try.prog pm_L03_alive_36 := PrsOk.cons (sumOr_con ms_queue_Pool_Push no_con) (pm_L03_alive_34_ok)
noncomputable def pm_L03_alive_39 : List (Nat × Proc) := (39, sumOr fs_queue_Pool_Free rk_queue_Pool_Free gm_queue_Pool_Free noP) :: pm_L03_alive_36
theorem pm_L03_alive_39_ok : PrsOk Go.Proofs.Try.prog pm_L03_alive_39 := PrsOk.cons (sumOr_con ms_queue_Pool_Free no_con) (pm_L03_alive_36_ok)
noncomputable def pm_L03_alive_40 : List (Nat × Proc) := (40, sumOr fs_queue_Pool_First rk_queue_Pool_First gm_queue_Pool_First noP) :: pm_L03_alive_39
theorem pm_L03_alive_40_ok : PrsOk Go.Proofs.Try.prog pm_L03_alive_40 := PrsOk.cons (sumOr_con ms_queue_Pool_First no_con) (pm_L03_alive_39_ok)
noncomputable def pm_L03_alive_41 : List (Nat × Proc) := (41, sumOr fs_queue_Pool_List rk_queue_Pool_List gm_queue_Pool_List noP) :: pm_L03_alive_40
theorem pm_L03_alive_41_ok : PrsOk Go.Proofs.Try.prog pm_L03_alive_41 := PrsOk.cons (sumOr_con ms_queue_Pool_List no_con) (pm_L03_alive_40_ok)
noncomputable def pm_L03_alive_42 : List (Nat × Proc) := (42, sumOr fs_queue_Pool_Len rk_queue_Pool_Len gm_queue_Pool_Len noP) :: pm_L03_alive_41
theorem pm_L03_alive_42_ok : PrsOk Go.Proofs.Try.prog pm_L03_alive_42 := PrsOk.cons (sumOr_con ms_queue_Pool_Len no_con) (pm_L03_alive_41_ok)
def kp_L03_alive_84 : List (Nat × List Nat) := [(0, [0, 1, 2]), (1, [0, 1, 2, 17]), (2, [1, 2]), (3, [1, 2]), (4, [1]), (5, [])]
def od_L03_alive_84 : List (Nat × Ord) := [(3, (.one 0 (.one 1 (.one 2 (.one 3 (.one 4 (.one 5 (.one 6 (.one 7 (.one 8 (.one 9 (.one 10 (.one 100011 .nil)))))))))))))]
noncomputable def E_L03_alive_84 : Env := ⟨0, 0, et_L03_alive, tt_L03_alive, fns_L03_alive, pm_L03_alive_42, od_L03_alive_84, kp_L03_alive_84, none, []⟩
noncomputable def pr_L03_alive_84 : List (Nat × Proc) := (84, procR E_L03_alive_84 44 [] (bodyOf Try.f84)) :: pm_L03_alive_42
theorem pr_L03_alive_84_ok : PrsOk Go.Proofs.Try.prog pr_L03_alive_84 :=
  PrsOk.cons (proc_conR (E := E_L03_alive_84) (EnvC.sub (off := 0) (nt := 0) (ords := od_L03_alive_84) (keep := kp_L03_alive_84) (yl := none) tt_ok et_ok fns_L03_alive_ok (pm_L03_alive_42_ok) (ItsOk.nil _) tt_L03_alive_ok et_L03_alive_ok) (PrOk.of mixed_ok) Go.Proofs.Try.func84 rfl (by decide) rfl rfl) (pm_L03_alive_42_ok)
def kp_L03_alive_30 : List (Nat × List Nat) := [(0, [0, 1]), (1, [0, 1, 21]), (2, [4, 5]), (3, [0, 6]), (4, [6, 27, 28]), (5, [6, 27, 28, 29]), (6, [6, 27, 28]), (7, [6, 27, 28]), (8, [6, 45, 46]), (9, [6, 45, 46, 47]), (10, [6, 7, 45, 46]), (11, [6, 45, 46]), (12, [6, 45, 46]), (13, [4, 5])]
def od_L03_alive_30 : List (Nat × Ord) := []
noncomputable def E_L03_alive_30 : Env := ⟨0, 0, et_L03_alive, tt_L03_alive, fns_L03_alive, pr_L03_alive_84, od_L03_alive_30, kp_L03_alive_30, none, []⟩
noncomputable def pr_L03_alive_30 : List (Nat × Proc) := (30, procR E_L03_alive_30 57 [.tmp 4, .tmp 5] (bodyOf Try.f30)) :: pr_L03_alive_84
theorem pr_L03_alive_30_ok : PrsOk Go.Proofs.Try.prog pr_L03_alive_30 :=
  PrsOk.cons (proc_conR (E := E_L03_alive_30) (EnvC.sub (off := 0) (nt := 0) (ords := od_L03_alive_30) (keep := kp_L03_alive_30) (yl := none) tt_ok et_ok fns_L03_alive_ok (pr_L03_alive_84_ok) (ItsOk.nil _) tt_L03_alive_ok et_L03_alive_ok) (PrOk.of mixed_ok) Go.Proofs.Try.func30 rfl (by decide) rfl rfl) (pr_L03_alive_84_ok)
def L03_alive_S1 (u0 : AV) (u1 : AV) (B2 : Blk) (x2 : Int × (List (Int × Int × Unit)) × Int × Int × Int) : St :=
  ⟨[(6, u0), (45, u1), (46, .int .i64 x2.1)], [(13335, .row 165 (.pair (.int .i64) (.pair (.int .i64) .unit)) x2.2.1 false), (13338, .var (.pair (.sl (.pair (.int .i64) (.pair (.int .i64) .unit))) (.pair (.sl (.pair (.int .i64) (.pair (.int .i64) (.pair (.int .i64) .unit)))) (.pair (.pair (.int .i64) (.pair (.int .i64) (.pair (.int .i64) .unit))) .unit))) (.agg [.own 13335, .own 13349, .agg [.int .i64 x2.2.2.1, .int .i64 x2.2.2.2.1, .int .i64 x2.2.2.2.2]]) false), (13349, B2)], (some ([13348, 13349], 0))⟩
def L03_alive_M1 : Msk := ⟨[6, 45, 46], [13335, 13338, 13349], [], [], [13348, 13349], [], [], [], []⟩
def L03_alive_S2 (u0 : AV) (u1 : AV) (B2 : Blk) (B4 : Blk) (x3 : Int × (List (Int × Int × Int × Unit))) : St :=
  ⟨[(6, u0), (27, u1), (28, .int .i64 x3.1)], [(13335, B2), (13338, B4), (13349, .row 79 (.pair (.int .i64) (.pair (.int .i64) (.pair (.int .i64) .unit))) x3.2 false)], (some ([13348, 13349], 0))⟩
def L03_alive_M2 : Msk := ⟨[6, 27, 28], [13335, 13338, 13349], [], [(13338, [1], 13349, 77)], [13348, 13349], [], [], [], []⟩
def L03_alive_Q1 (x1 : (List (Int × Int × Unit)) × Int × Int × Int × (List (Int × Int × Int × Unit))) : St :=
  ⟨[(1, .dead), (2, .dead), (11, .dead), (12, .tup [.ptr 13338 [], .int .i64 0]), (13, .dead), (14, .dead)], [(13335, .row 165 (.pair (.int .i64) (.pair (.int .i64) .unit)) x1.1 false), (13338, .var (.pair (.sl (.pair (.int .i64) (.pair (.int .i64) .unit))) (.pair (.sl (.pair (.int .i64) (.pair (.int .i64) (.pair (.int .i64) .unit)))) (.pair (.pair (.int .i64) (.pair (.int .i64) (.pair (.int .i64) .unit))) .unit))) (.agg [.own 13335, .own 13349, .agg [.int .i64 x1.2.1, .int .i64 x1.2.2.1, .int .i64 x1.2.2.2.1]]) false), (13349, .row 79 (.pair (.int .i64) (.pair (.int .i64) (.pair (.int .i64) .unit))) x1.2.2.2.2 false)], none⟩
def L03_alive_Q2 (x4 : Bool) : St :=
  ⟨[(0, .bool x4)], [], none⟩
def kp_L03_alive : List (Nat × List Nat) := [(0, []), (1, [1, 2]), (2, [1, 20]), (3, [0]), (4, [1, 3, 4, 5, 6]), (5, [1, 3, 4, 5, 6, 7, 8]), (6, [1, 3, 4, 5, 6, 7, 8, 9, 10]), (7, [0]), (5000007, []), (25000012, []), (20000012, [1, 2, 11, 12, 13, 14]), (4000007, []), (6000007, []), (24000012, [13335, 13338, 13349]), (26000012, []), (4000000, []), (4000001, [13335, 13338, 13349]), (4000002, [13335, 13338, 13349]), (4000004, [13335, 13338, 13349]), (4000005, [13335, 13338, 13349]), (4000006, [13335, 13338, 13349])]
def od_L03_alive : List (Nat × Ord) := []
noncomputable def E_L03_alive : Env := ⟨0, 0, et_L03_alive, tt_L03_alive, fns_L03_alive, pr_L03_alive_30, od_L03_alive, kp_L03_alive, none, []⟩
set_option maxRecDepth 100000 in
set_option maxHeartbeats 40000000 in
theorem c_L03_alive : PCon Go.Proofs.Try.prog 29 lf_L03_alive := by
  rw [lq_L03_alive]
  refine lift_conR (E := E_L03_alive) (c := bodyOf Try.f29) (nt := 89) (rs := [.tmp 0]) (ts := [4]) (EnvC.sub (off := 0) (nt := 0) (ords := od_L03_alive) (keep := kp_L03_alive) (yl := none) tt_ok et_ok fns_L03_alive_ok (pr_L03_alive_30_ok) (ItsOk.nil _) tt_L03_alive_ok et_L03_alive_ok) (PrOk.of mixed_ok) Go.Proofs.Try.func29 rfl (by decide) rfl rfl rfl (pureR_one (e := .bool) rfl) ?_
  intro x r hw hs
  repeat'
    (try (conv => whnf)
     first
       | (with_reducible have hs := letv_out hs)
       | (refine draw_and (by kernel_rfl) ?_)
       | (refine both_mk ?_ ?_)
       | (refine br_bool (fun h => ?_) (fun h => ?_) <;> first | have hs := cT h hs | have hs := cF h hs)
       | (refine bind_elim hs fun v hb hs => ?_; first | refine cm_queue_Pool_Remove rfl hb ?_ | refine cm_queue_Pool_Pop rfl hb ?_ | refine cm_queue_Pool_Push rfl hb ?_ | refine cm_queue_Pool_Free rfl hb ?_ | refine cm_queue_Pool_First rfl hb ?_ | refine cm_queue_Pool_List rfl hb ?_ | refine cm_queue_Pool_Len rfl hb ?_)
       | refine chk_elim hs fun hs => ?_
       | (have hs := letv_out hs)
       | exact fin_some hs rfl
       | (intro b hb; first | have hs := nilq_elim hs b hb | have hs := nilqn_elim hs b hb)
       | exact hJ1 _ hs
       | exact hJ2 _ hs
       | exact hC1 _ hs
       | exact hC2 _ hs
       | (refine cut_out 1 L03_alive_Q1 hs (fun Jc1 kc1 hC1 hs => ?_) (fun xc1 hs => ?_))
       | (refine cut_out 2 L03_alive_Q2 hs (fun Jc2 kc2 hC2 hs => ?_) (fun xc2 hs => ?_))
       | (have hs := cT rfl hs)
       | (have hs := cF rfl hs)
       | (refine vc_loopR (L03_alive_S1 _ _ _) L03_alive_M1 hs rfl ?_; intro J1 k1 x1 hJ1 hs)
       | (refine vc_loopR (L03_alive_S2 _ _ _ _) L03_alive_M2 hs rfl ?_; intro J2 k2 x2 hJ2 hs)
       | exact (none_ne hs).elim)
theorem cq_L03_alive : PCon Go.Proofs.Try.prog 29 (liftF .unit (unpack .bool) (fun x => L03_alive)) := lq_L03_alive ▸ c_L03_alive
def fs_L03_as : List FK := [.row 165 (.pair (.int .i64) (.pair (.int .i64) .unit)), .row 79 (.pair (.int .i64) (.pair (.int .i64) (.pair (.int .i64) .unit))), .dat (.pair (.int .i64) (.pair (.int .i64) (.pair (.int .i64) .unit)))]
def rk_L03_as : List FK := [.dat .bool]
def gm_L03_as : (stT fs_L03_as).den → List AV → Option ((stT fs_L03_as).den × (stT rk_L03_as).den) := liftM (.pair (.pair (.int .i64) (.pair (.sl (.sl (.int .i64))) .unit)) (.pair (.int .i64) .unit)) (fun x a => L03_as x a.1 a.2.1)
theorem cm_L03_as {x : (stT fs_L03_as).den} {vs : List AV} {a : ((.pair (.pair (.int .i64) (.pair (.sl (.sl (.int .i64))) .unit)) (.pair (.int .i64) .unit)) : Ty).den} {k : (stT fs_L03_as).den → (stT rk_L03_as).den → Prop} {r : (stT fs_L03_as).den × (stT rk_L03_as).den} (h1 : pks (.pair (.pair (.int .i64) (.pair (.sl (.sl (.int .i64))) .unit)) (.pair (.int .i64) .unit)) vs = some a) (h2 : L03_as x a.1 a.2.1 = some r) (h3 : k r.1 r.2) : callS (gm_L03_as x vs) k := callM_mk h1 h2 h3
def tt_L03_as : List (Nat × Ty) := [(3, .int .i64), (4, .bool), (36, .sl (.int .i64)), (56, .opq 0), (61, .pair (.int .i64) (.pair (.sl (.sl (.int .i64))) .unit))]
def et_L03_as : List (Nat × Nat) := [(36, 3)]
theorem tt_L03_as_ok : subT tt tt_L03_as = true := by kernel_rfl
theorem et_L03_as_ok : subE et et_L03_as = true := by kernel_rfl
noncomputable def fns_L03_as : List (Nat × (List AV → Option AV)) := [(48, lf_R02_Same), (89, lf_R03_First), (90, lf_R03_Free), (91, lf_R03_List)]
theorem fns_L03_as_ok : FnsOk Go.Proofs.Try.prog fns_L03_as := FnsOk.cons c_R02_Same (FnsOk.cons c_R03_First (FnsOk.cons c_R03_Free (FnsOk.cons c_R03_List (FnsOk.nil _))))
noncomputable def pm_L03_as_39 : List (Nat × Proc) := (39, sumOr fs_queue_Pool_Free rk_queue_Pool_Free gm_queue_Pool_Free noP) :: []
theorem pm_L03_as_39_ok : PrsOk Go.Proofs.Try.prog pm_L03_as_39 := PrsOk.cons (sumOr_con ms_queue_Pool_Free no_con) (PrsOk.nil _)
noncomputable def pm_L03_as_40 : List (Nat × Proc) := (40, sumOr fs_queue_Pool_First rk_queue_Pool_First gm_queue_Pool_First noP) :: pm_L03_as_39
theorem pm_L03_as_40_ok : PrsOk Go.Proofs.Try.prog pm_L03_as_40 := PrsOk.cons (sumOr_con ms_queue_Pool_First no_con) (pm_L03_as_39_ok)
noncomputable def pm_L03_as_41 : List (Nat × Proc) := (41, sumOr fs_queue_Pool_List rk_queue_Pool_List gm_queue_Pool_List noP) :: pm_L03_as_40
theorem pm_L03_as_41_ok : PrsOk Go.Proofs.Try.prog pm_L03_as_41 := PrsOk.cons (sumOr_con ms_queue_Pool_List no_con) (pm_L03_as_40_ok)
noncomputable def pm_L03_as_42 : List (Nat × Proc) := (42, sumOr fs_queue_Pool_Len rk_queue_Pool_Len gm_queue_Pool_Len noP) :: pm_L03_as_41
theorem pm_L03_as_42_ok : PrsOk Go.Proofs.Try.prog pm_L03_as_42 := PrsOk.cons (sumOr_con ms_queue_Pool_Len no_con) (pm_L03_as_41_ok)
def L03_as_Q1 (x1 : Bool × Int × Int × Int × (List (Int × Int × Unit)) × (List (Int × Int × Int × Unit))) : St :=
  ⟨[(6, .bool x1.1)], [(0, .var (.pair (.sl (.pair (.int .i64) (.pair (.int .i64) .unit))) (.pair (.sl (.pair (.int .i64) (.pair (.int .i64) (.pair (.int .i64) .unit)))) (.pair (.pair (.int .i64) (.pair (.int .i64) (.pair (.int .i64) .unit))) .unit))) (.agg [.own 1, .own 2, .agg [.int .i64 x1.2.1, .int .i64 x1.2.2.1, .int .i64 x1.2.2.2.1]]) false), (1, .row 165 (.pair (.int .i64) (.pair (.int .i64) .unit)) x1.2.2.2.2.1 false), (2, .row 79 (.pair (.int .i64) (.pair (.int .i64) (.pair (.int .i64) .unit))) x1.2.2.2.2.2 false)], (some ([1028, 1084417, 1, 2], 0))⟩
def kp_L03_as : List (Nat × List Nat) := [(0, [0, 2, 4]), (1, [0, 2, 4, 7, 8]), (2, [0, 2, 4, 7, 8, 9, 10]), (3, [6]), (5000003, []), (102404000003, [0, 1, 2]), (102406000003, [1028, 1084417, 1, 2])]
def od_L03_as : List (Nat × Ord) := [(3, (.one 0 (.one 1 (.one 2 (.one 3 (.one 4 (.one 5 (.one 6 (.one 7 (.one 8 (.one 9 (.one 10 (.one 13 (.alt (.cons 11 (.one 200012 (.one 200014 (.one 200015 (.one 16 (.one 17 (.one 18 (.one 19 (.one 22 (.alt (.cons 20 (.one 200021 (.one 200023 (.one 24 (.one 25 (.one 26 (.one 27 (.one 28 (.alt (.cons 29 (.one 200030 (.one 200031 (.one 32 (.one 33 (.one 34 .nil))))) (.cons 30 (.one 200029 (.one 200031 (.one 32 (.one 33 (.one 34 .nil))))) .nil)))))))))) (.cons 21 (.one 200020 (.one 200023 (.one 24 (.one 25 (.one 26 (.one 27 (.one 28 (.alt (.cons 29 (.one 200030 (.one 200031 (.one 32 (.one 33 (.one 34 .nil))))) (.cons 30 (.one 200029 (.one 200031 (.one 32 (.one 33 (.one 34 .nil))))) .nil)))))))))) .nil))))))))))) (.cons 12 (.one 200011 (.one 200014 (.one 200015 (.one 16 (.one 17 (.one 18 (.one 19 (.one 22 (.alt (.cons 20 (.one 200021 (.one 200023 (.one 24 (.one 25 (.one 26 (.one 27 (.one 28 (.alt (.cons 29 (.one 200030 (.one 200031 (.one 32 (.one 33 (.one 34 .nil))))) (.cons 30 (.one 200029 (.one 200031 (.one 32 (.one 33 (.one 34 .nil))))) .nil)))))))))) (.cons 21 (.one 200020 (.one 200023 (.one 24 (.one 25 (.one 26 (.one 27 (.one 28 (.alt (.cons 29 (.one 200030 (.one 200031 (.one 32 (.one 33 (.one 34 .nil))))) (.cons 30 (.one 200029 (.one 200031 (.one 32 (.one 33 (.one 34 .nil))))) .nil)))))))))) .nil))))))))))) .nil))))))))))))))))]
noncomputable def E_L03_as : Env := ⟨0, 0, et_L03_as, tt_L03_as, fns_L03_as, pm_L03_as_42, od_L03_as, kp_L03_as, none, []⟩
set_option maxRecDepth 100000 in
set_option maxHeartbeats 40000000 in
theorem ms_L03_as : SCon Go.Proofs.Try.prog 38 (sumT fs_L03_as rk_L03_as gm_L03_as) := by
  refine meth_con (T0 := procR E_L03_as 57 [.tmp 6] (bodyOf Try.f38)) rfl rfl rfl (proc_conR (E := E_L03_as) (EnvC.sub (off := 0) (nt := 0) (ords := od_L03_as) (keep := kp_L03_as) (yl := none) tt_ok et_ok fns_L03_as_ok (pm_L03_as_42_ok) (ItsOk.nil _) tt_L03_as_ok et_L03_as_ok) (PrOk.of mixed_ok) Go.Proofs.Try.func38 rfl (by decide) rfl rfl) ?_
  intro x a x' y hs
  have hks := True.intro
  have hbs := True.intro
  repeat'
    (try (conv => whnf)
     first
       | (with_reducible have hs := letv_out hs)
       | (refine draw_and (by kernel_rfl) ?_)
       | (refine both_mk ?_ ?_)
       | (refine br_bool (fun h => ?_) (fun h => ?_) <;> first | have hs := cT h hs | have hs := cF h hs)
       | (refine bind_elim hs fun v hb hs => ?_; first | refine ck_R02_Same rfl hb ?_ | refine ck_R03_First rfl hb ?_ | refine ck_R03_Free rfl hb ?_ | refine ck_R03_List rfl hb ?_ | refine cm_queue_Pool_Free rfl hb ?_ | refine cm_queue_Pool_First rfl hb ?_ | refine cm_queue_Pool_List rfl hb ?_ | refine cm_queue_Pool_Len rfl hb ?_)
       | refine chk_elim hs fun hs => ?_
       | (have hs := letv_out hs)
       | exact fin_m hs rfl rfl rfl rfl rfl rfl rfl rfl
       | (intro b hb; first | have hs := nilq_elim hs b hb | have hs := nilqn_elim hs b hb)
       | exact hC1 _ hs
       | (refine cut_out 1 L03_as_Q1 hs (fun Jc1 kc1 hC1 hs => ?_) (fun xc1 hs => ?_))
       | (have hs := cT rfl hs)
       | (have hs := cF rfl hs)
       | (refine And.intro (by first | exact hks.1 | exact hks.2.1 | exact hks.2.2.1 | exact hks.2.2.2.1 | exact hks.2.2.2.2.1 | exact hks.2.2.2.2.2.1 | exact hks.2.2.2.2.2.2.1 | exact hks.2.2.2.2.2.2.2.1) ?_)
       | (first | refine ck_R02_Same rfl hbs.1 ?_ | refine ck_R03_First rfl hbs.1 ?_ | refine ck_R03_Free rfl hbs.1 ?_ | refine ck_R03_List rfl hbs.1 ?_ | refine ck_R02_Same rfl hbs.2.1 ?_ | refine ck_R03_First rfl hbs.2.1 ?_ | refine ck_R03_Free rfl hbs.2.1 ?_ | refine ck_R03_List rfl hbs.2.1 ?_ | refine ck_R02_Same rfl hbs.2.2.1 ?_ | refine ck_R03_First rfl hbs.2.2.1 ?_ | refine ck_R03_Free rfl hbs.2.2.1 ?_ | refine ck_R03_List rfl hbs.2.2.1 ?_)
       | (obtain ⟨hk, hs⟩ := chk_some hs; have hks := And.intro hk hks)
       | (obtain ⟨vb, hb, hs⟩ := bind_some hs; have hbs := And.intro hb hbs)
       | exact (none_ne hs).elim)
end Go.Proofs.YtiicmhholjpcbaaV
