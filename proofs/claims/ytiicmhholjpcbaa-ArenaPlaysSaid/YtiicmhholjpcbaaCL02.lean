import Derived.Test.YtiicmhholjpcbaaVcTab
import Derived.Test.YtiicmhholjpcbaaDL02
import Derived.Test.YtiicmhholjpcbaaCR02
import Derived.Test.YtiicmhholjpcbaaCarena
namespace Go.Proofs.YtiicmhholjpcbaaV
open Go.Proofs
set_option linter.unusedVariables false
noncomputable def lf_L02_alive : List AV → Option AV := liftF .unit (unpack .bool) (fun x => L02_alive)
theorem lq_L02_alive : lf_L02_alive = liftF .unit (unpack .bool) (fun x => L02_alive) := rfl
attribute [irreducible] lf_L02_alive
theorem ck_L02_alive {vs : List AV} {k : AV → Prop} {x : (.unit : Ty).den} {v : Bool} (h1 : pks .unit vs = some x) (h2 : L02_alive = some v) (h3 : k ((unpack .bool) v)) : callK (lf_L02_alive vs) k := by
  rw [lq_L02_alive]; exact callK_lift h1 h2 h3
def tt_L02_alive : List (Nat × Ty) := [(3, .int .i64), (4, .bool), (23, .opq 0), (24, .int .i64), (36, .sl (.int .i64)), (49, .sl (.pair (.int .i64) (.pair .bool (.pair (.int .i64) .unit)))), (51, .pair (.int .i64) (.pair (.int .i64) (.pair (.sl (.pair (.int .i64) (.pair .bool (.pair (.int .i64) .unit)))) .unit)))]
def et_L02_alive : List (Nat × Nat) := [(36, 3), (49, 149)]
theorem tt_L02_alive_ok : subT tt tt_L02_alive = true := by kernel_rfl
theorem et_L02_alive_ok : subE et et_L02_alive = true := by kernel_rfl
noncomputable def fns_L02_alive : List (Nat × (List AV → Option AV)) := []
theorem fns_L02_alive_ok : FnsOk Go.Proofs.Try.prog fns_L02_alive := FnsOk.nil _
noncomputable def pm_L02_alive_17 : List (Nat × Proc) := (17, sumOr fs_arena_Table_int_Drop rk_arena_Table_int_Drop gm_arena_Table_int_Drop noP) :: []
theorem pm_L02_alive_17_ok : PrsOk Go.Proofs.Try.prog pm_L02_alive_17 := PrsOk.cons (sumOr_con ms_arena_Table_int_Drop no_con) (PrsOk.nil _)
noncomputable def pm_L02_alive_18 : List (Nat × Proc) := (18, sumOr fs_arena_Table_int_Add rk_arena_Table_int_Add gm_arena_Table_int_Add noP) :: pm_L02_alive_17
theorem pm_L02_alive_18_ok : PrsOk Go.Proofs.Try.prog pm_L02_alive_18 := PrsOk.cons (sumOr_con ms_arena_Table_int_Add no_con) (pm_L02_alive_17_ok)
noncomputable def pm_L02_alive_19 : List (Nat × Proc) := (19, sumOr fs_arena_Table_int_Get rk_arena_Table_int_Get gm_arena_Table_int_Get noP) :: pm_L02_alive_18
theorem pm_L02_alive_19_ok : PrsOk Go.Proofs.Try.prog pm_L02_alive_19 := PrsOk.cons (sumOr_con ms_arena_Table_int_Get no_con) (pm_L02_alive_18_ok)
noncomputable def pm_L02_alive_20 : List (Nat × Proc) := (20, sumOr fs_arena_Table_int_Len rk_arena_Table_int_Len gm_arena_Table_int_Len noP) :: pm_L02_alive_19
theorem pm_L02_alive_20_ok : PrsOk Go.Proofs.Try.prog pm_L02_alive_20 := PrsOk.cons (sumOr_con ms_arena_Table_int_Len no_con) (pm_L02_alive_19_ok)
noncomputable def pm_L02_alive_27 : List (Nat × Proc) := (27, sumOr fs_arena_Table_int_Free rk_arena_Table_int_Free gm_arena_Table_int_Free noP) :: pm_L02_alive_20
theorem pm_L02_alive_27_ok : PrsOk Go.Proofs.Try.prog pm_L02_alive_27 := PrsOk.cons (sumOr_con ms_arena_Table_int_Free no_con) (pm_L02_alive_20_ok)
noncomputable def pm_L02_alive_28 : List (Nat × Proc) := (28, sumOr fs_arena_Table_int_Handles rk_arena_Table_int_Handles gm_arena_Table_int_Handles noP) :: pm_L02_alive_27
theorem pm_L02_alive_28_ok : PrsOk Go.Proofs.Try.prog pm_L02_alive_28 := PrsOk.cons (sumOr_con ms_arena_Table_int_Handles no_con) (pm_L02_alive_27_ok)
def kp_L02_alive_15 : List (Nat × List Nat) := [(0, [0, 1]), (1, [0, 1, 19]), (2, [4, 5]), (3, [4, 5])]
def od_L02_alive_15 : List (Nat × Ord) := []
noncomputable def E_L02_alive_15 : Env := ⟨0, 0, et_L02_alive, tt_L02_alive, fns_L02_alive, pm_L02_alive_28, od_L02_alive_15, kp_L02_alive_15, none, []⟩
noncomputable def pr_L02_alive_15 : List (Nat × Proc) := (15, procR E_L02_alive_15 25 [.tmp 4, .tmp 5] (bodyOf Try.f15)) :: pm_L02_alive_28
theorem pr_L02_alive_15_ok : PrsOk Go.Proofs.Try.prog pr_L02_alive_15 :=
  PrsOk.cons (proc_conR (E := E_L02_alive_15) (EnvC.sub (off := 0) (nt := 0) (ords := od_L02_alive_15) (keep := kp_L02_alive_15) (yl := none) tt_ok et_ok fns_L02_alive_ok (pm_L02_alive_28_ok) (ItsOk.nil _) tt_L02_alive_ok et_L02_alive_ok) (PrOk.of mixed_ok) Go.Proofs.Try.func15 rfl (by decide) rfl rfl) (pm_L02_alive_28_ok)
def L02_alive_Q1 (x1 : (List (Int × Bool × Int × Unit))) : St :=
  ⟨[(1, .dead), (2, .dead), (14, .dead), (15, .tup [.ptr 16408 [], .int .i64 0]), (16, .dead), (17, .dead)], [(16406, .row 149 (.pair (.int .i64) (.pair .bool (.pair (.int .i64) .unit))) x1 false), (16408, .var (.pair (.int .i64) (.pair (.int .i64) (.pair (.sl (.pair (.int .i64) (.pair .bool (.pair (.int .i64) .unit)))) .unit))) (.agg [.int .i64 2, .int .i64 0, .own 16406]) false)], none⟩
def L02_alive_Q2 (x2 : Bool) : St :=
  ⟨[(0, .bool x2)], [], none⟩
def kp_L02_alive : List (Nat × List Nat) := [(0, []), (1, [1, 2]), (2, [1, 23]), (3, [0]), (4, [1, 3, 4]), (5, [1, 3, 4, 5]), (6, [1, 3, 4, 5, 6, 7]), (7, [1, 3, 4, 5, 6, 7, 8, 9]), (8, [1, 3, 4, 5, 6, 7, 8, 9, 11]), (9, [1, 3, 4, 5, 6, 7, 8, 9, 11]), (10, [1, 3, 4, 5, 6, 7, 8, 9, 11, 13]), (11, [0]), (5000011, []), (25000015, []), (20000015, [1, 2, 14, 15, 16, 17]), (4000011, []), (6000011, []), (24000015, [16406, 16408]), (26000015, []), (4000000, []), (4000001, [16406, 16408]), (4000002, [16406, 16408]), (4000004, [16406, 16408]), (4000005, [16406, 16408]), (4000006, [16406, 16408]), (4000007, [16406, 16408]), (4000008, [16406, 16408]), (4000009, [16406, 16408]), (4000010, [16406, 16408])]
def od_L02_alive : List (Nat × Ord) := []
noncomputable def E_L02_alive : Env := ⟨0, 0, et_L02_alive, tt_L02_alive, fns_L02_alive, pr_L02_alive_15, od_L02_alive, kp_L02_alive, none, []⟩
set_option maxRecDepth 100000 in
set_option maxHeartbeats 40000000 in
theorem c_L02_alive : PCon Go.Proofs.Try.prog 16 lf_L02_alive := by
  rw [lq_L02_alive]
  refine lift_conR (E := E_L02_alive) (c := bodyOf Try.f16) (nt := 107) (rs := [.tmp 0]) (ts := [4]) (EnvC.sub (off := 0) (nt := 0) (ords := od_L02_alive) (keep := kp_L02_alive) (yl := none) tt_ok et_ok fns_L02_alive_ok (pr_L02_alive_15_ok) (ItsOk.nil _) tt_L02_alive_ok et_L02_alive_ok) (PrOk.of mixed_ok) Go.Proofs.Try.func16 rfl (by decide) rfl rfl rfl (pureR_one (e := .bool) rfl) ?_
  intro x r hw hs
  repeat'
    (try (conv => whnf)
     first
       | (with_reducible have hs := letv_out hs)
       | (refine draw_and (by kernel_rfl) ?_)
       | (refine both_mk ?_ ?_)
       | (refine br_bool (fun h => ?_) (fun h => ?_) <;> first | have hs := cT h hs | have hs := cF h hs)
       | (refine bind_elim hs fun v hb hs => ?_; first | refine cm_arena_Table_int_Drop rfl hb ?_ | refine cm_arena_Table_int_Add rfl hb ?_ | refine cm_arena_Table_int_Get rfl hb ?_ | refine cm_arena_Table_int_Len rfl hb ?_ | refine cm_arena_Table_int_Free rfl hb ?_ | refine cm_arena_Table_int_Handles rfl hb ?_)
       | refine chk_elim hs fun hs => ?_
       | (have hs := letv_out hs)
       | exact fin_some hs rfl
       | (intro b hb; first | have hs := nilq_elim hs b hb | have hs := nilqn_elim hs b hb)
       | exact hC1 _ hs
       | exact hC2 _ hs
       | (refine cut_out 1 L02_alive_Q1 hs (fun Jc1 kc1 hC1 hs => ?_) (fun xc1 hs => ?_))
       | (refine cut_out 2 L02_alive_Q2 hs (fun Jc2 kc2 hC2 hs => ?_) (fun xc2 hs => ?_))
       | (have hs := cT rfl hs)
       | (have hs := cF rfl hs)
       | exact (none_ne hs).elim)
theorem cq_L02_alive : PCon Go.Proofs.Try.prog 16 (liftF .unit (unpack .bool) (fun x => L02_alive)) := lq_L02_alive ▸ c_L02_alive
def fs_L02_as : List FK := [.dat (.int .i64), .dat (.int .i64), .row 149 (.pair (.int .i64) (.pair .bool (.pair (.int .i64) .unit)))]
def rk_L02_as : List FK := [.dat .bool]
def gm_L02_as : (stT fs_L02_as).den → List AV → Option ((stT fs_L02_as).den × (stT rk_L02_as).den) := liftM (.pair (.pair (.int .i64) (.pair (.sl (.int .i64)) (.pair (.sl (.pair (.int .i64) (.pair (.int .i64) .unit))) .unit))) (.pair (.int .i64) .unit)) (fun x a => L02_as x a.1 a.2.1)
theorem cm_L02_as {x : (stT fs_L02_as).den} {vs : List AV} {a : ((.pair (.pair (.int .i64) (.pair (.sl (.int .i64)) (.pair (.sl (.pair (.int .i64) (.pair (.int .i64) .unit))) .unit))) (.pair (.int .i64) .unit)) : Ty).den} {k : (stT fs_L02_as).den → (stT rk_L02_as).den → Prop} {r : (stT fs_L02_as).den × (stT rk_L02_as).den} (h1 : pks (.pair (.pair (.int .i64) (.pair (.sl (.int .i64)) (.pair (.sl (.pair (.int .i64) (.pair (.int .i64) .unit))) .unit))) (.pair (.int .i64) .unit)) vs = some a) (h2 : L02_as x a.1 a.2.1 = some r) (h3 : k r.1 r.2) : callS (gm_L02_as x vs) k := callM_mk h1 h2 h3
def tt_L02_as : List (Nat × Ty) := [(3, .int .i64), (4, .bool), (23, .opq 0), (36, .sl (.int .i64)), (37, .sl (.pair (.int .i64) (.pair (.int .i64) .unit))), (39, .pair (.int .i64) (.pair (.sl (.int .i64)) (.pair (.sl (.pair (.int .i64) (.pair (.int .i64) .unit))) .unit)))]
def et_L02_as : List (Nat × Nat) := [(36, 3), (37, 155)]
theorem tt_L02_as_ok : subT tt tt_L02_as = true := by kernel_rfl
theorem et_L02_as_ok : subE et et_L02_as = true := by kernel_rfl
noncomputable def fns_L02_as : List (Nat × (List AV → Option AV)) := [(48, lf_R02_Same), (81, lf_R02_Get), (82, lf_R02_Handles), (83, lf_R02_Free)]
theorem fns_L02_as_ok : FnsOk Go.Proofs.Try.prog fns_L02_as := FnsOk.cons c_R02_Same (FnsOk.cons c_R02_Get (FnsOk.cons c_R02_Handles (FnsOk.cons c_R02_Free (FnsOk.nil _))))
noncomputable def pm_L02_as_19 : List (Nat × Proc) := (19, sumOr fs_arena_Table_int_Get rk_arena_Table_int_Get gm_arena_Table_int_Get noP) :: []
theorem pm_L02_as_19_ok : PrsOk Go.Proofs.Try.prog pm_L02_as_19 := PrsOk.cons (sumOr_con ms_arena_Table_int_Get no_con) (PrsOk.nil _)
noncomputable def pm_L02_as_20 : List (Nat × Proc) := (20, sumOr fs_arena_Table_int_Len rk_arena_Table_int_Len gm_arena_Table_int_Len noP) :: pm_L02_as_19
theorem pm_L02_as_20_ok : PrsOk Go.Proofs.Try.prog pm_L02_as_20 := PrsOk.cons (sumOr_con ms_arena_Table_int_Len no_con) (pm_L02_as_19_ok)
noncomputable def pm_L02_as_27 : List (Nat × Proc) := (27, sumOr fs_arena_Table_int_Free rk_arena_Table_int_Free gm_arena_Table_int_Free noP) :: pm_L02_as_20
theorem pm_L02_as_27_ok : PrsOk Go.Proofs.Try.prog pm_L02_as_27 := PrsOk.cons (sumOr_con ms_arena_Table_int_Free no_con) (pm_L02_as_20_ok)
noncomputable def pm_L02_as_28 : List (Nat × Proc) := (28, sumOr fs_arena_Table_int_Handles rk_arena_Table_int_Handles gm_arena_Table_int_Handles noP) :: pm_L02_as_27
theorem pm_L02_as_28_ok : PrsOk Go.Proofs.Try.prog pm_L02_as_28 := PrsOk.cons (sumOr_con ms_arena_Table_int_Handles no_con) (pm_L02_as_27_ok)
def L02_as_Q1 (x1 : Bool × Int × Int × (List (Int × Bool × Int × Unit))) : St :=
  ⟨[(6, .bool x1.1)], [(0, .var (.pair (.int .i64) (.pair (.int .i64) (.pair (.sl (.pair (.int .i64) (.pair .bool (.pair (.int .i64) .unit)))) .unit))) (.agg [.int .i64 x1.2.1, .int .i64 x1.2.2.1, .own 1]) false), (1, .row 149 (.pair (.int .i64) (.pair .bool (.pair (.int .i64) .unit))) x1.2.2.2 false)], (some ([1028, 1083393, 1], 0))⟩
def kp_L02_as : List (Nat × List Nat) := [(0, [0, 2, 4]), (1, [0, 2, 4, 7, 8]), (2, [0, 4, 7, 8, 9, 10]), (3, [6]), (5000003, []), (102404000003, [0, 1]), (102406000003, [1028, 1083393, 1])]
def od_L02_as : List (Nat × Ord) := [(3, (.one 0 (.one 1 (.one 2 (.one 3 (.one 4 (.one 5 (.one 6 (.one 7 (.one 8 (.one 9 (.alt (.cons 10 (.one 200011 (.one 200012 (.one 200013 (.one 14 (.one 15 (.one 16 (.one 18 (.alt (.cons 17 (.one 200019 (.one 20 (.one 21 (.one 22 (.one 23 (.one 24 (.alt (.cons 25 (.one 200026 (.one 200027 (.one 28 (.one 29 (.one 30 .nil))))) (.cons 26 (.one 200025 (.one 200027 (.one 28 (.one 29 (.one 30 .nil))))) .nil))))))))) (.cons 19 (.one 20 (.one 200017 (.one 21 (.one 22 (.one 23 (.one 24 (.alt (.cons 25 (.one 200026 (.one 200027 (.one 28 (.one 29 (.one 30 .nil))))) (.cons 26 (.one 200025 (.one 200027 (.one 28 (.one 29 (.one 30 .nil))))) .nil))))))))) .nil)))))))))) (.cons 11 (.one 200010 (.one 200012 (.one 200013 (.one 14 (.one 15 (.one 16 (.one 18 (.alt (.cons 17 (.one 200019 (.one 20 (.one 21 (.one 22 (.one 23 (.one 24 (.alt (.cons 25 (.one 200026 (.one 200027 (.one 28 (.one 29 (.one 30 .nil))))) (.cons 26 (.one 200025 (.one 200027 (.one 28 (.one 29 (.one 30 .nil))))) .nil))))))))) (.cons 19 (.one 20 (.one 200017 (.one 21 (.one 22 (.one 23 (.one 24 (.alt (.cons 25 (.one 200026 (.one 200027 (.one 28 (.one 29 (.one 30 .nil))))) (.cons 26 (.one 200025 (.one 200027 (.one 28 (.one 29 (.one 30 .nil))))) .nil))))))))) .nil)))))))))) .nil))))))))))))))]
noncomputable def E_L02_as : Env := ⟨0, 0, et_L02_as, tt_L02_as, fns_L02_as, pm_L02_as_28, od_L02_as, kp_L02_as, none, []⟩
set_option maxRecDepth 100000 in
set_option maxHeartbeats 40000000 in
theorem ms_L02_as : SCon Go.Proofs.Try.prog 26 (sumT fs_L02_as rk_L02_as gm_L02_as) := by
  refine meth_con (T0 := procR E_L02_as 53 [.tmp 6] (bodyOf Try.f26)) rfl rfl rfl (proc_conR (E := E_L02_as) (EnvC.sub (off := 0) (nt := 0) (ords := od_L02_as) (keep := kp_L02_as) (yl := none) tt_ok et_ok fns_L02_as_ok (pm_L02_as_28_ok) (ItsOk.nil _) tt_L02_as_ok et_L02_as_ok) (PrOk.of mixed_ok) Go.Proofs.Try.func26 rfl (by decide) rfl rfl) ?_
  intro x a x' y hs
  have hks := True.intro
  have hbs := True.intro
  repeat'
    (try (conv => whnf)
     first
       | (with_reducible have hs := letv_out hs)
       | (refine draw_and (by kernel_rfl) ?_)
       | (refine both_mk ?_ ?_)
       | (refine br_bool (fun h => ?_) (fun h => ?_) <;> first | have hs := cT h hs | have hs := cF h hs)
       | (refine bind_elim hs fun v hb hs => ?_; first | refine ck_R02_Same rfl hb ?_ | refine ck_R02_Get rfl hb ?_ | refine ck_R02_Handles rfl hb ?_ | refine ck_R02_Free rfl hb ?_ | refine cm_arena_Table_int_Get rfl hb ?_ | refine cm_arena_Table_int_Len rfl hb ?_ | refine cm_arena_Table_int_Free rfl hb ?_ | refine cm_arena_Table_int_Handles rfl hb ?_)
       | refine chk_elim hs fun hs => ?_
       | (have hs := letv_out hs)
       | exact fin_m hs rfl rfl rfl rfl rfl rfl rfl rfl
       | (intro b hb; first | have hs := nilq_elim hs b hb | have hs := nilqn_elim hs b hb)
       | exact hC1 _ hs
       | (refine cut_out 1 L02_as_Q1 hs (fun Jc1 kc1 hC1 hs => ?_) (fun xc1 hs => ?_))
       | (have hs := cT rfl hs)
       | (have hs := cF rfl hs)
       | (refine And.intro (by first | exact hks.1 | exact hks.2.1 | exact hks.2.2.1 | exact hks.2.2.2.1 | exact hks.2.2.2.2.1 | exact hks.2.2.2.2.2.1 | exact hks.2.2.2.2.2.2.1 | exact hks.2.2.2.2.2.2.2.1) ?_)
       | (first | refine ck_R02_Same rfl hbs.1 ?_ | refine ck_R02_Get rfl hbs.1 ?_ | refine ck_R02_Handles rfl hbs.1 ?_ | refine ck_R02_Free rfl hbs.1 ?_ | refine ck_R02_Same rfl hbs.2.1 ?_ | refine ck_R02_Get rfl hbs.2.1 ?_ | refine ck_R02_Handles rfl hbs.2.1 ?_ | refine ck_R02_Free rfl hbs.2.1 ?_ | refine ck_R02_Same rfl hbs.2.2.1 ?_ | refine ck_R02_Get rfl hbs.2.2.1 ?_ | refine ck_R02_Handles rfl hbs.2.2.1 ?_ | refine ck_R02_Free rfl hbs.2.2.1 ?_)
       | (obtain ⟨hk, hs⟩ := chk_some hs; have hks := And.intro hk hks)
       | (obtain ⟨vb, hb, hs⟩ := bind_some hs; have hbs := And.intro hb hbs)
       | exact (none_ne hs).elim)
end Go.Proofs.YtiicmhholjpcbaaV
