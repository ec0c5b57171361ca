/- What becket/becketlaw07.RingsPlay answers. -/
import Derived.Test.YtoihmfgkmndjfaaVcTab
import Derived.Test.YtoihmfgkmndjfaaDRingsPlay
import Derived.Test.YtoihmfgkmndjfaaCL07
import Derived.Test.YtoihmfgkmndjfaaCR02
import Derived.Test.YtoihmfgkmndjfaaCR07
import Derived.Test.YtoihmfgkmndjfaaCrings
namespace Go.Proofs.YtoihmfgkmndjfaaV
open Go.Proofs
set_option linter.unusedVariables false
noncomputable def lf_L07_RingsPlay : List AV → Option AV := liftF (.pair (.int .i64) (.pair (.sl (.pair (.int .u8) (.pair (.int .i64) .unit))) .unit)) (unpack .bool) (fun x => L07_RingsPlay x.1 x.2.1)
theorem lq_L07_RingsPlay : lf_L07_RingsPlay = liftF (.pair (.int .i64) (.pair (.sl (.pair (.int .u8) (.pair (.int .i64) .unit))) .unit)) (unpack .bool) (fun x => L07_RingsPlay x.1 x.2.1) := rfl
attribute [irreducible] lf_L07_RingsPlay
theorem ck_L07_RingsPlay {vs : List AV} {k : AV → Prop} {x : ((.pair (.int .i64) (.pair (.sl (.pair (.int .u8) (.pair (.int .i64) .unit))) .unit)) : Ty).den} {v : Bool} (h1 : pks (.pair (.int .i64) (.pair (.sl (.pair (.int .u8) (.pair (.int .i64) .unit))) .unit)) vs = some x) (h2 : L07_RingsPlay x.1 x.2.1 = some v) (h3 : k ((unpack .bool) v)) : callK (lf_L07_RingsPlay vs) k := by
  rw [lq_L07_RingsPlay]; exact callK_lift h1 h2 h3
def tt_L07_RingsPlay : List (Nat × Ty) := [(3, .int .i64), (4, .bool), (5, .int .u8), (22, .sl (.int .i64)), (27, .int .i64), (42, .opq 0), (49, .sl (.pair (.int .u8) (.pair (.int .i64) .unit))), (51, .pair (.int .i64) (.pair (.sl (.int .i64)) .unit)), (55, .pair (.int .u8) (.pair (.int .i64) .unit)), (65, .pair .bool (.pair (.sl (.int .i64)) (.pair (.int .i64) (.pair (.int .i64) .unit))))]
def et_L07_RingsPlay : List (Nat × Nat) := [(22, 3), (49, 55)]
theorem tt_L07_RingsPlay_ok : subT tt tt_L07_RingsPlay = true := by kernel_rfl
theorem et_L07_RingsPlay_ok : subE et et_L07_RingsPlay = true := by kernel_rfl
noncomputable def fns_L07_RingsPlay : List (Nat × (List AV → Option AV)) := [(24, lf_L07_alive), (29, lf_R07_New), (31, lf_R07_Pop), (32, lf_R07_Push), (34, lf_R07_At), (35, lf_R02_Same)]
theorem fns_L07_RingsPlay_ok : FnsOk Go.Proofs.Try.prog fns_L07_RingsPlay := FnsOk.cons c_L07_alive (FnsOk.cons c_R07_New (FnsOk.cons c_R07_Pop (FnsOk.cons c_R07_Push (FnsOk.cons c_R07_At (FnsOk.cons c_R02_Same (FnsOk.nil _))))))
noncomputable def pm_L07_RingsPlay_25 : List (Nat × Proc) := (25, sumOr fs_rings_Ring_int_Push rk_rings_Ring_int_Push gm_rings_Ring_int_Push noP) :: []
theorem pm_L07_RingsPlay_25_ok : PrsOk Go.Proofs.Try.prog pm_L07_RingsPlay_25 := PrsOk.cons (sumOr_con ms_rings_Ring_int_Push no_con) (PrsOk.nil _)
noncomputable def pm_L07_RingsPlay_26 : List (Nat × Proc) := (26, sumOr fs_rings_Ring_int_Pop rk_rings_Ring_int_Pop gm_rings_Ring_int_Pop noP) :: pm_L07_RingsPlay_25
theorem pm_L07_RingsPlay_26_ok : PrsOk Go.Proofs.Try.prog pm_L07_RingsPlay_26 := PrsOk.cons (sumOr_con ms_rings_Ring_int_Pop no_con) (pm_L07_RingsPlay_25_ok)
noncomputable def pm_L07_RingsPlay_27 : List (Nat × Proc) := (27, sumOr fs_rings_Ring_int_Len rk_rings_Ring_int_Len gm_rings_Ring_int_Len noP) :: pm_L07_RingsPlay_26
theorem pm_L07_RingsPlay_27_ok : PrsOk Go.Proofs.Try.prog pm_L07_RingsPlay_27 := PrsOk.cons (sumOr_con ms_rings_Ring_int_Len no_con) (pm_L07_RingsPlay_26_ok)
noncomputable def pm_L07_RingsPlay_28 : List (Nat × Proc) := (28, sumOr fs_rings_Ring_int_Room rk_rings_Ring_int_Room gm_rings_Ring_int_Room noP) :: pm_L07_RingsPlay_27
theorem pm_L07_RingsPlay_28_ok : PrsOk Go.Proofs.Try.prog pm_L07_RingsPlay_28 := PrsOk.cons (sumOr_con ms_rings_Ring_int_Room no_con) (pm_L07_RingsPlay_27_ok)
noncomputable def pm_L07_RingsPlay_30 : List (Nat × Proc) := (30, sumOr fs_rings_Ring_int_Clear rk_rings_Ring_int_Clear gm_rings_Ring_int_Clear noP) :: pm_L07_RingsPlay_28
theorem pm_L07_RingsPlay_30_ok : PrsOk Go.Proofs.Try.prog pm_L07_RingsPlay_30 := PrsOk.cons (sumOr_con ms_rings_Ring_int_Clear no_con) (pm_L07_RingsPlay_28_ok)
noncomputable def pm_L07_RingsPlay_33 : List (Nat × Proc) := (33, sumOr fs_rings_Ring_int_At rk_rings_Ring_int_At gm_rings_Ring_int_At noP) :: pm_L07_RingsPlay_30
theorem pm_L07_RingsPlay_33_ok : PrsOk Go.Proofs.Try.prog pm_L07_RingsPlay_33 := PrsOk.cons (sumOr_con ms_rings_Ring_int_At no_con) (pm_L07_RingsPlay_30_ok)
noncomputable def pm_L07_RingsPlay_36 : List (Nat × Proc) := (36, sumOr fs_rings_Ring_int_List rk_rings_Ring_int_List gm_rings_Ring_int_List noP) :: pm_L07_RingsPlay_33
theorem pm_L07_RingsPlay_36_ok : PrsOk Go.Proofs.Try.prog pm_L07_RingsPlay_36 := PrsOk.cons (sumOr_con ms_rings_Ring_int_List no_con) (pm_L07_RingsPlay_33_ok)
def kp_L07_RingsPlay_23 : List (Nat × List Nat) := [(0, [0]), (1, [0, 9]), (2, [2, 3]), (3, [2, 3])]
def od_L07_RingsPlay_23 : List (Nat × Ord) := []
noncomputable def E_L07_RingsPlay_23 : Env := ⟨0, 0, et_L07_RingsPlay, tt_L07_RingsPlay, fns_L07_RingsPlay, pm_L07_RingsPlay_36, od_L07_RingsPlay_23, kp_L07_RingsPlay_23, none, []⟩
noncomputable def pr_L07_RingsPlay_23 : List (Nat × Proc) := (23, procR E_L07_RingsPlay_23 14 [.tmp 2, .tmp 3] (bodyOf Try.f23)) :: pm_L07_RingsPlay_36
theorem pr_L07_RingsPlay_23_ok : PrsOk Go.Proofs.Try.prog pr_L07_RingsPlay_23 :=
  PrsOk.cons (proc_conR (E := E_L07_RingsPlay_23) (EnvC.sub (off := 0) (nt := 0) (ords := od_L07_RingsPlay_23) (keep := kp_L07_RingsPlay_23) (yl := none) tt_ok et_ok fns_L07_RingsPlay_ok (pm_L07_RingsPlay_36_ok) (ItsOk.nil _) tt_L07_RingsPlay_ok et_L07_RingsPlay_ok) (PrOk.of mixed_ok) Go.Proofs.Try.func23 rfl (by decide) rfl rfl) (pm_L07_RingsPlay_36_ok)
def L07_RingsPlay_S1 (u0 : AV) (u1 : AV) (x1 : Int × (List (Int × Int × Unit)) × Int × Int × Int × List Int × List Int × Bool × Int × Int) : St :=
  ⟨[(0, .int .i64 x1.1), (5, u0), (7, u1), (54, .ro (.pair (.int .u8) (.pair (.int .i64) .unit)) x1.2.1), (55, .int .i64 x1.2.2.1), (56, .int .i64 x1.2.2.2.1)], [(7, .var (.pair (.int .i64) (.pair (.sl (.int .i64)) .unit)) (.agg [.int .i64 x1.2.2.2.2.1, .ro (.int .i64) x1.2.2.2.2.2.1]) false), (29707, .row 3 (.int .i64) x1.2.2.2.2.2.2.1 false), (29709, .var (.pair .bool (.pair (.sl (.int .i64)) (.pair (.int .i64) (.pair (.int .i64) .unit)))) (.agg [.bool x1.2.2.2.2.2.2.2.1, .own 29707, .int .i64 x1.2.2.2.2.2.2.2.2.1, .int .i64 x1.2.2.2.2.2.2.2.2.2]) false)], none⟩
def L07_RingsPlay_M1 : Msk := ⟨[0, 5, 7, 54, 55, 56], [7, 29707, 29709], [], [], [], [], [7], [], [], [], []⟩
def L07_RingsPlay_Q1 (x2 : Int × (List (Int × Int × Unit)) × Int × Int × Bool × Int × List Int × Bool × Int × Int) : St :=
  ⟨[(0, .int .i64 x2.1), (5, .ptr 29709 []), (7, .ptr 7 []), (54, .ro (.pair (.int .u8) (.pair (.int .i64) .unit)) x2.2.1), (55, .int .i64 x2.2.2.1), (56, .int .i64 x2.2.2.2.1), (149, .bool x2.2.2.2.2.1)], [(7, .var (.pair (.int .i64) (.pair (.sl (.int .i64)) .unit)) (.agg [.int .i64 x2.2.2.2.2.2.1, .con (.slice none 0 0)]) false), (29707, .row 3 (.int .i64) x2.2.2.2.2.2.2.1 false), (29709, .var (.pair .bool (.pair (.sl (.int .i64)) (.pair (.int .i64) (.pair (.int .i64) .unit)))) (.agg [.bool x2.2.2.2.2.2.2.2.1, .own 29707, .int .i64 x2.2.2.2.2.2.2.2.2.1, .int .i64 x2.2.2.2.2.2.2.2.2.2]) false)], none⟩
def L07_RingsPlay_Q2 (x3 : Int × (List (Int × Int × Unit)) × Int × Int × Bool × Int × List Int × List Int × Bool × Int × Int) : St :=
  ⟨[(0, .int .i64 x3.1), (5, .ptr 29709 []), (7, .ptr 7 []), (54, .ro (.pair (.int .u8) (.pair (.int .i64) .unit)) x3.2.1), (55, .int .i64 x3.2.2.1), (56, .int .i64 x3.2.2.2.1), (149, .bool x3.2.2.2.2.1)], [(7, .var (.pair (.int .i64) (.pair (.sl (.int .i64)) .unit)) (.agg [.int .i64 x3.2.2.2.2.2.1, .ro (.int .i64) x3.2.2.2.2.2.2.1]) false), (29707, .row 3 (.int .i64) x3.2.2.2.2.2.2.2.1 false), (29709, .var (.pair .bool (.pair (.sl (.int .i64)) (.pair (.int .i64) (.pair (.int .i64) .unit)))) (.agg [.bool x3.2.2.2.2.2.2.2.2.1, .own 29707, .int .i64 x3.2.2.2.2.2.2.2.2.2.1, .int .i64 x3.2.2.2.2.2.2.2.2.2.2]) false)], none⟩
def L07_RingsPlay_Q3 (x4 : Int × (List (Int × Int × Unit)) × Int × Int × Bool × Int × List Int × List Int × Bool × Int × Int) : St :=
  ⟨[(0, .int .i64 x4.1), (5, .ptr 29709 []), (7, .ptr 7 []), (54, .ro (.pair (.int .u8) (.pair (.int .i64) .unit)) x4.2.1), (55, .int .i64 x4.2.2.1), (56, .int .i64 x4.2.2.2.1), (149, .bool x4.2.2.2.2.1)], [(7, .var (.pair (.int .i64) (.pair (.sl (.int .i64)) .unit)) (.agg [.int .i64 x4.2.2.2.2.2.1, .ro (.int .i64) x4.2.2.2.2.2.2.1]) false), (29707, .row 3 (.int .i64) x4.2.2.2.2.2.2.2.1 false), (29709, .var (.pair .bool (.pair (.sl (.int .i64)) (.pair (.int .i64) (.pair (.int .i64) .unit)))) (.agg [.bool x4.2.2.2.2.2.2.2.2.1, .own 29707, .int .i64 x4.2.2.2.2.2.2.2.2.2.1, .int .i64 x4.2.2.2.2.2.2.2.2.2.2]) false)], none⟩
def kp_L07_RingsPlay : List (Nat × List Nat) := [(0, [0, 1]), (1, [0, 1, 24]), (2, [4]), (3, [0, 1, 5, 6]), (4, [0, 1, 5, 6, 7, 8]), (5, [0, 1, 5, 6, 7, 8, 37]), (6, [4]), (7, [0, 1, 5, 7, 53]), (8, [4]), (9, [0, 5, 7, 54, 55, 56]), (10, [0, 5, 7, 54, 55, 56, 57]), (11, [0, 5, 7, 10, 54, 55, 56]), (12, [0, 5, 7, 10, 16, 54, 55, 56]), (13, [0, 5, 7, 10, 16, 17, 54, 55, 56]), (14, [0, 5, 7, 10, 54, 55, 56, 73]), (15, [4]), (16, [0, 5, 7, 10, 54, 55, 56, 74]), (17, [0, 5, 7, 10, 54, 55, 56]), (18, [0, 5, 7, 10, 54, 55, 56]), (19, [0, 5, 7, 10, 54, 55, 56, 81]), (20, [0, 5, 7, 10, 11, 12, 54, 55, 56]), (21, [0, 5, 7, 10, 11, 12, 13, 14, 15, 54, 55, 56]), (22, [0, 5, 7, 10, 11, 12, 14, 15, 54, 55, 56]), (23, [0, 5, 7, 10, 54, 55, 56, 105]), (24, [4]), (25, [0, 5, 7, 10, 18, 19, 54, 55, 56]), (26, [0, 5, 7, 18, 19, 20, 21, 54, 55, 56]), (27, [0, 5, 7, 54, 55, 56, 149]), (28, [4]), (29, [0, 5, 7, 54, 55, 56]), (30, [4]), (5000027, []), (4000027, [7, 29707, 29709]), (6000027, []), (4000000, []), (4000001, []), (4000002, []), (4000003, [29707, 29709]), (4000004, [7, 29707, 29709]), (4000005, [7, 29707, 29709]), (4000006, []), (4000007, [7, 29707, 29709]), (4000008, []), (4000009, [7, 29707, 29709]), (4000010, [7, 29707, 29709]), (4000011, [7, 10, 29707, 29709]), (4000012, [7, 10, 29707, 29709]), (4000013, [7, 10, 29707, 29709]), (4000014, [7, 10, 29707, 29709]), (4000015, []), (4000016, [7, 10, 29707, 29709]), (4000017, [7, 10, 29707, 29709]), (4000018, [7, 10, 29707, 29709]), (4000019, [7, 10, 29707, 29709]), (4000020, [7, 10, 29707, 29709]), (4000021, [7, 10, 13, 29707, 29709]), (4000022, [7, 10, 29707, 29709]), (4000023, [7, 10, 29707, 29709]), (4000024, []), (4000025, [7, 10, 29707, 29709]), (4000026, [7, 29707, 29709]), (4000028, []), (4000029, [7, 29707, 29709]), (4000030, [])]
def od_L07_RingsPlay : List (Nat × Ord) := [(27, (.one 0 (.one 1 (.one 2 (.one 3 (.one 4 (.one 5 (.one 6 (.one 7 (.one 8 (.one 9 (.one 11 (.alt (.cons 10 (.one 200012 (.one 200013 (.one 14 (.one 15 (.one 16 (.one 17 (.one 19 (.alt (.cons 18 (.one 200020 (.one 21 (.one 22 (.one 23 (.one 24 (.one 25 (.one 27 (.one 200026 (.one 28 (.one 29 .nil)))))))))) (.cons 20 (.one 21 (.one 200018 (.one 22 (.one 23 (.one 24 (.one 25 (.one 27 (.one 200026 (.one 28 (.one 29 .nil)))))))))) .nil)))))))))) (.cons 12 (.one 200010 (.one 200013 (.one 14 (.one 15 (.one 16 (.one 17 (.one 19 (.alt (.cons 18 (.one 200020 (.one 21 (.one 22 (.one 23 (.one 24 (.one 25 (.one 27 (.one 200026 (.one 28 (.one 29 .nil)))))))))) (.cons 20 (.one 21 (.one 200018 (.one 22 (.one 23 (.one 24 (.one 25 (.one 27 (.one 200026 (.one 28 (.one 29 .nil)))))))))) .nil)))))))))) .nil)))))))))))))))]
noncomputable def E_L07_RingsPlay : Env := ⟨0, 0, et_L07_RingsPlay, tt_L07_RingsPlay, fns_L07_RingsPlay, pr_L07_RingsPlay_23, od_L07_RingsPlay, kp_L07_RingsPlay, none, []⟩
set_option maxRecDepth 100000 in
set_option maxHeartbeats 40000000 in
theorem c_L07_RingsPlay : PCon Go.Proofs.Try.prog 7 lf_L07_RingsPlay := by
  rw [lq_L07_RingsPlay]
  refine lift_conR (E := E_L07_RingsPlay) (c := bodyOf Try.f7) (nt := 152) (rs := [.tmp 4]) (ts := [4]) (EnvC.sub (off := 0) (nt := 0) (ords := od_L07_RingsPlay) (keep := kp_L07_RingsPlay) (yl := none) tt_ok et_ok fns_L07_RingsPlay_ok (pr_L07_RingsPlay_23_ok) (ItsOk.nil _) tt_L07_RingsPlay_ok et_L07_RingsPlay_ok) (PrOk.of mixed_ok) Go.Proofs.Try.func7 rfl (by decide) rfl rfl rfl (pureR_one (e := .bool) rfl) ?_
  intro x r hw hs
  have hks := True.intro
  have hbs := True.intro
  repeat'
    (try (conv => whnf)
     first
       | (with_reducible have hs := letv_out hs)
       | (refine draw_and (by kernel_rfl) ?_)
       | (refine both_mk ?_ ?_)
       | (refine br_bool (fun h => ?_) (fun h => ?_) <;> first | have hs := cT h hs | have hs := cF h hs)
       | (refine bind_elim hs fun v hb hs => ?_; first | ((with_reducible show callK (lf_L07_alive _) _); refine ck_L07_alive rfl hb ?_) | ((with_reducible show callK (lf_R07_New _) _); refine ck_R07_New rfl hb ?_) | ((with_reducible show callK (lf_R07_Pop _) _); refine ck_R07_Pop rfl hb ?_) | ((with_reducible show callK (lf_R07_Push _) _); refine ck_R07_Push rfl hb ?_) | ((with_reducible show callK (lf_R07_At _) _); refine ck_R07_At rfl hb ?_) | ((with_reducible show callK (lf_R02_Same _) _); refine ck_R02_Same rfl hb ?_) | (show callS (gm_rings_Ring_int_Push _ _) _; refine cm_rings_Ring_int_Push rfl hb ?_) | (show callS (gm_rings_Ring_int_Pop _ _) _; refine cm_rings_Ring_int_Pop rfl hb ?_) | (show callS (gm_rings_Ring_int_Len _ _) _; refine cm_rings_Ring_int_Len rfl hb ?_) | (show callS (gm_rings_Ring_int_Room _ _) _; refine cm_rings_Ring_int_Room rfl hb ?_) | (show callS (gm_rings_Ring_int_Clear _ _) _; refine cm_rings_Ring_int_Clear rfl hb ?_) | (show callS (gm_rings_Ring_int_At _ _) _; refine cm_rings_Ring_int_At rfl hb ?_) | (show callS (gm_rings_Ring_int_List _ _) _; refine cm_rings_Ring_int_List rfl hb ?_))
       | refine chk_elimI hs fun hs => ?_
       | (have hs := letv_out hs)
       | exact fin_some hs rfl
       | (intro b hb; first | have hs := nilq_elim hs b hb | have hs := nilqn_elim hs b hb)
       | exact hJ1 _ hs
       | exact hC1 _ hs
       | exact hC2 _ hs
       | exact hC3 _ hs
       | (refine cut_out 1 L07_RingsPlay_Q1 hs (fun Jc1 kc1 hC1 hs => ?_) (fun xc1 hs => ?_))
       | (refine cut_out 2 L07_RingsPlay_Q2 hs (fun Jc2 kc2 hC2 hs => ?_) (fun xc2 hs => ?_))
       | (refine cut_out 3 L07_RingsPlay_Q3 hs (fun Jc3 kc3 hC3 hs => ?_) (fun xc3 hs => ?_))
       | (have hs := cT rfl hs)
       | (have hs := cF rfl hs)
       | ((with_reducible have hs : loop L07_RingsPlay_L1 _ = some _ := hs); refine vc_loopR (L07_RingsPlay_S1 _ _) L07_RingsPlay_M1 hs rfl ?_; intro J1 k1 x1 hJ1 hs)
       | (refine vc_loopR (L07_RingsPlay_S1 _ _) L07_RingsPlay_M1 hs rfl ?_; intro J1 k1 x1 hJ1 hs)
       | (refine And.intro (by first | exact hks.1 | exact hks.2.1 | exact hks.2.2.1 | exact hks.2.2.2.1 | exact hks.2.2.2.2.1 | exact hks.2.2.2.2.2.1 | exact hks.2.2.2.2.2.2.1 | exact hks.2.2.2.2.2.2.2.1) ?_)
       | (first | ((with_reducible show callK (lf_L07_alive _) _); refine ck_L07_alive rfl hbs.1 ?_) | ((with_reducible show callK (lf_L07_alive _) _); refine ck_L07_alive rfl hbs.2.1 ?_) | ((with_reducible show callK (lf_L07_alive _) _); refine ck_L07_alive rfl hbs.2.2.1 ?_) | ((with_reducible show callK (lf_R07_New _) _); refine ck_R07_New rfl hbs.1 ?_) | ((with_reducible show callK (lf_R07_New _) _); refine ck_R07_New rfl hbs.2.1 ?_) | ((with_reducible show callK (lf_R07_New _) _); refine ck_R07_New rfl hbs.2.2.1 ?_) | ((with_reducible show callK (lf_R07_Pop _) _); refine ck_R07_Pop rfl hbs.1 ?_) | ((with_reducible show callK (lf_R07_Pop _) _); refine ck_R07_Pop rfl hbs.2.1 ?_) | ((with_reducible show callK (lf_R07_Pop _) _); refine ck_R07_Pop rfl hbs.2.2.1 ?_) | ((with_reducible show callK (lf_R07_Push _) _); refine ck_R07_Push rfl hbs.1 ?_) | ((with_reducible show callK (lf_R07_Push _) _); refine ck_R07_Push rfl hbs.2.1 ?_) | ((with_reducible show callK (lf_R07_Push _) _); refine ck_R07_Push rfl hbs.2.2.1 ?_) | ((with_reducible show callK (lf_R07_At _) _); refine ck_R07_At rfl hbs.1 ?_) | ((with_reducible show callK (lf_R07_At _) _); refine ck_R07_At rfl hbs.2.1 ?_) | ((with_reducible show callK (lf_R07_At _) _); refine ck_R07_At rfl hbs.2.2.1 ?_) | ((with_reducible show callK (lf_R02_Same _) _); refine ck_R02_Same rfl hbs.1 ?_) | ((with_reducible show callK (lf_R02_Same _) _); refine ck_R02_Same rfl hbs.2.1 ?_) | ((with_reducible show callK (lf_R02_Same _) _); refine ck_R02_Same rfl hbs.2.2.1 ?_))
       | (obtain ⟨hk, hs⟩ := chk_someI hs; have hks := And.intro hk hks)
       | (obtain ⟨vb, hb, hs⟩ := bind_some hs; have hbs := And.intro hb hbs)
       | exact (none_ne hs).elim)
theorem cq_L07_RingsPlay : PCon Go.Proofs.Try.prog 7 (liftF (.pair (.int .i64) (.pair (.sl (.pair (.int .u8) (.pair (.int .i64) .unit))) .unit)) (unpack .bool) (fun x => L07_RingsPlay x.1 x.2.1)) := lq_L07_RingsPlay ▸ c_L07_RingsPlay
end Go.Proofs.YtoihmfgkmndjfaaV
