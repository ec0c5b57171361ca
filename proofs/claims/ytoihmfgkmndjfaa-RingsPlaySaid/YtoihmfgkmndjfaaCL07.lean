import Derived.Test.YtoihmfgkmndjfaaVcTab
import Derived.Test.YtoihmfgkmndjfaaDL07
import Derived.Test.YtoihmfgkmndjfaaCR02
import Derived.Test.YtoihmfgkmndjfaaCR07
import Derived.Test.YtoihmfgkmndjfaaCrings
namespace Go.Proofs.YtoihmfgkmndjfaaV
open Go.Proofs
set_option linter.unusedVariables false
noncomputable def lf_L07_alive : List AV → Option AV := liftF .unit (unpack .bool) (fun x => L07_alive)
theorem lq_L07_alive : lf_L07_alive = liftF .unit (unpack .bool) (fun x => L07_alive) := rfl
attribute [irreducible] lf_L07_alive
theorem ck_L07_alive {vs : List AV} {k : AV → Prop} {x : (.unit : Ty).den} {v : Bool} (h1 : pks .unit vs = some x) (h2 : L07_alive = some v) (h3 : k ((unpack .bool) v)) : callK (lf_L07_alive vs) k := by
  rw [lq_L07_alive]; exact callK_lift h1 h2 h3
def tt_L07_alive : List (Nat × Ty) := [(3, .int .i64), (4, .bool), (22, .sl (.int .i64)), (27, .int .i64), (42, .opq 0), (65, .pair .bool (.pair (.sl (.int .i64)) (.pair (.int .i64) (.pair (.int .i64) .unit))))]
def et_L07_alive : List (Nat × Nat) := [(22, 3)]
theorem tt_L07_alive_ok : subT tt tt_L07_alive = true := by kernel_rfl
theorem et_L07_alive_ok : subE et et_L07_alive = true := by kernel_rfl
noncomputable def fns_L07_alive : List (Nat × (List AV → Option AV)) := []
theorem fns_L07_alive_ok : FnsOk Go.Proofs.Try.prog fns_L07_alive := FnsOk.nil _
noncomputable def pm_L07_alive_25 : List (Nat × Proc) := (25, sumOr fs_rings_Ring_int_Push rk_rings_Ring_int_Push gm_rings_Ring_int_Push noP) :: []
theorem pm_L07_alive_25_ok : PrsOk Go.Proofs.Try.prog pm_L07_alive_25 := PrsOk.cons (sumOr_con ms_rings_Ring_int_Push no_con) (PrsOk.nil _)
noncomputable def pm_L07_alive_26 : List (Nat × Proc) := (26, sumOr fs_rings_Ring_int_Pop rk_rings_Ring_int_Pop gm_rings_Ring_int_Pop noP) :: pm_L07_alive_25
theorem pm_L07_alive_26_ok : PrsOk Go.Proofs.Try.prog pm_L07_alive_26 := PrsOk.cons (sumOr_con ms_rings_Ring_int_Pop no_con) (pm_L07_alive_25_ok)
noncomputable def pm_L07_alive_27 : List (Nat × Proc) := (27, sumOr fs_rings_Ring_int_Len rk_rings_Ring_int_Len gm_rings_Ring_int_Len noP) :: pm_L07_alive_26
theorem pm_L07_alive_27_ok : PrsOk Go.Proofs.Try.prog pm_L07_alive_27 := PrsOk.cons (sumOr_con ms_rings_Ring_int_Len no_con) (pm_L07_alive_26_ok)
noncomputable def pm_L07_alive_28 : List (Nat × Proc) := (28, sumOr fs_rings_Ring_int_Room rk_rings_Ring_int_Room gm_rings_Ring_int_Room noP) :: pm_L07_alive_27
theorem pm_L07_alive_28_ok : PrsOk Go.Proofs.Try.prog pm_L07_alive_28 := PrsOk.cons (sumOr_con ms_rings_Ring_int_Room no_con) (pm_L07_alive_27_ok)
noncomputable def pm_L07_alive_33 : List (Nat × Proc) := (33, sumOr fs_rings_Ring_int_At rk_rings_Ring_int_At gm_rings_Ring_int_At noP) :: pm_L07_alive_28
theorem pm_L07_alive_33_ok : PrsOk Go.Proofs.Try.prog pm_L07_alive_33 := PrsOk.cons (sumOr_con ms_rings_Ring_int_At no_con) (pm_L07_alive_28_ok)
noncomputable def pm_L07_alive_36 : List (Nat × Proc) := (36, sumOr fs_rings_Ring_int_List rk_rings_Ring_int_List gm_rings_Ring_int_List noP) :: pm_L07_alive_33
theorem pm_L07_alive_36_ok : PrsOk Go.Proofs.Try.prog pm_L07_alive_36 := PrsOk.cons (sumOr_con ms_rings_Ring_int_List no_con) (pm_L07_alive_33_ok)
def kp_L07_alive_23 : List (Nat × List Nat) := [(0, [0]), (1, [0, 9]), (2, [2, 3]), (3, [2, 3])]
def od_L07_alive_23 : List (Nat × Ord) := []
noncomputable def E_L07_alive_23 : Env := ⟨0, 0, et_L07_alive, tt_L07_alive, fns_L07_alive, pm_L07_alive_36, od_L07_alive_23, kp_L07_alive_23, none, []⟩
noncomputable def pr_L07_alive_23 : List (Nat × Proc) := (23, procR E_L07_alive_23 14 [.tmp 2, .tmp 3] (bodyOf Try.f23)) :: pm_L07_alive_36
theorem pr_L07_alive_23_ok : PrsOk Go.Proofs.Try.prog pr_L07_alive_23 :=
  PrsOk.cons (proc_conR (E := E_L07_alive_23) (EnvC.sub (off := 0) (nt := 0) (ords := od_L07_alive_23) (keep := kp_L07_alive_23) (yl := none) tt_ok et_ok fns_L07_alive_ok (pm_L07_alive_36_ok) (ItsOk.nil _) tt_L07_alive_ok et_L07_alive_ok) (PrOk.of mixed_ok) Go.Proofs.Try.func23 rfl (by decide) rfl rfl) (pm_L07_alive_36_ok)
def L07_alive_Q1 (x1 : List Int) : St :=
  ⟨[(1, .dead), (2, .dead), (11, .dead), (12, .tup [.ptr 13325 [], .int .i64 0]), (13, .dead), (14, .dead)], [(13323, .row 3 (.int .i64) x1 false), (13325, .var (.pair .bool (.pair (.sl (.int .i64)) (.pair (.int .i64) (.pair (.int .i64) .unit)))) (.agg [.bool true, .own 13323, .int .i64 0, .int .i64 0]) false)], none⟩
def L07_alive_Q2 (x2 : Bool) : St :=
  ⟨[(0, .bool x2)], [], none⟩
def kp_L07_alive : List (Nat × List Nat) := [(0, []), (1, [1, 2]), (2, [1, 20]), (3, [0]), (4, [1, 3, 4]), (5, [1, 3, 4, 5, 6]), (6, [1, 3, 4, 5, 6, 7, 8]), (7, [1, 3, 4, 5, 6, 7, 8, 10]), (8, [0]), (5000008, []), (25000012, []), (20000012, [1, 2, 11, 12, 13, 14]), (4000008, []), (6000008, []), (24000012, [13323, 13325]), (26000012, []), (4000000, []), (4000001, [13323, 13325]), (4000002, [13323, 13325]), (4000004, [13323, 13325]), (4000005, [13323, 13325]), (4000006, [13323, 13325]), (4000007, [13323, 13325])]
def od_L07_alive : List (Nat × Ord) := []
noncomputable def E_L07_alive : Env := ⟨0, 0, et_L07_alive, tt_L07_alive, fns_L07_alive, pr_L07_alive_23, od_L07_alive, kp_L07_alive, none, []⟩
set_option maxRecDepth 100000 in
set_option maxHeartbeats 40000000 in
theorem c_L07_alive : PCon Go.Proofs.Try.prog 24 lf_L07_alive := by
  rw [lq_L07_alive]
  refine lift_conR (E := E_L07_alive) (c := bodyOf Try.f24) (nt := 82) (rs := [.tmp 0]) (ts := [4]) (EnvC.sub (off := 0) (nt := 0) (ords := od_L07_alive) (keep := kp_L07_alive) (yl := none) tt_ok et_ok fns_L07_alive_ok (pr_L07_alive_23_ok) (ItsOk.nil _) tt_L07_alive_ok et_L07_alive_ok) (PrOk.of mixed_ok) Go.Proofs.Try.func24 rfl (by decide) rfl rfl rfl (pureR_one (e := .bool) rfl) ?_
  intro x r hw hs
  repeat'
    (try (conv => whnf)
     first
       | (with_reducible have hs := letv_out hs)
       | (refine draw_and (by kernel_rfl) ?_)
       | (refine both_mk ?_ ?_)
       | (refine br_bool (fun h => ?_) (fun h => ?_) <;> first | have hs := cT h hs | have hs := cF h hs)
       | (refine bind_elim hs fun v hb hs => ?_; first | (show callS (gm_rings_Ring_int_Push _ _) _; refine cm_rings_Ring_int_Push rfl hb ?_) | (show callS (gm_rings_Ring_int_Pop _ _) _; refine cm_rings_Ring_int_Pop rfl hb ?_) | (show callS (gm_rings_Ring_int_Len _ _) _; refine cm_rings_Ring_int_Len rfl hb ?_) | (show callS (gm_rings_Ring_int_Room _ _) _; refine cm_rings_Ring_int_Room rfl hb ?_) | (show callS (gm_rings_Ring_int_At _ _) _; refine cm_rings_Ring_int_At rfl hb ?_) | (show callS (gm_rings_Ring_int_List _ _) _; refine cm_rings_Ring_int_List rfl hb ?_))
       | refine chk_elimI hs fun hs => ?_
       | (have hs := letv_out hs)
       | exact fin_some hs rfl
       | (intro b hb; first | have hs := nilq_elim hs b hb | have hs := nilqn_elim hs b hb)
       | exact hC1 _ hs
       | exact hC2 _ hs
       | (refine cut_out 1 L07_alive_Q1 hs (fun Jc1 kc1 hC1 hs => ?_) (fun xc1 hs => ?_))
       | (refine cut_out 2 L07_alive_Q2 hs (fun Jc2 kc2 hC2 hs => ?_) (fun xc2 hs => ?_))
       | (have hs := cT rfl hs)
       | (have hs := cF rfl hs)
       | exact (none_ne hs).elim)
theorem cq_L07_alive : PCon Go.Proofs.Try.prog 24 (liftF .unit (unpack .bool) (fun x => L07_alive)) := lq_L07_alive ▸ c_L07_alive
end Go.Proofs.YtoihmfgkmndjfaaV
