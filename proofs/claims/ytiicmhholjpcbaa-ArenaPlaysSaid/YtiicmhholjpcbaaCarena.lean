import Derived.Test.YtiicmhholjpcbaaVcTab
import Derived.Test.YtiicmhholjpcbaaDarena
import Derived.Test.YtiicmhholjpcbaaChandle
namespace Go.Proofs.YtiicmhholjpcbaaV
open Go.Proofs
set_option linter.unusedVariables false
def fs_arena_Table_int_ok : List FK := [.dat (.int .i64), .dat (.int .i64), .row 149 (.pair (.int .i64) (.pair .bool (.pair (.int .i64) .unit)))]
def rk_arena_Table_int_ok : List FK := [.dat .bool]
def gm_arena_Table_int_ok : (stT fs_arena_Table_int_ok).den → List AV → Option ((stT fs_arena_Table_int_ok).den × (stT rk_arena_Table_int_ok).den) := liftM .unit (fun x a => arena_Table_int_ok x)
theorem cm_arena_Table_int_ok {x : (stT fs_arena_Table_int_ok).den} {vs : List AV} {a : (.unit : Ty).den} {k : (stT fs_arena_Table_int_ok).den → (stT rk_arena_Table_int_ok).den → Prop} {r : (stT fs_arena_Table_int_ok).den × (stT rk_arena_Table_int_ok).den} (h1 : pks .unit vs = some a) (h2 : arena_Table_int_ok x = some r) (h3 : k r.1 r.2) : callS (gm_arena_Table_int_ok x vs) k := callM_mk h1 h2 h3
def tt_arena_Table_int_ok : List (Nat × Ty) := [(3, .int .i64), (4, .bool), (23, .opq 0), (49, .sl (.pair (.int .i64) (.pair .bool (.pair (.int .i64) .unit)))), (51, .pair (.int .i64) (.pair (.int .i64) (.pair (.sl (.pair (.int .i64) (.pair .bool (.pair (.int .i64) .unit)))) .unit)))]
def et_arena_Table_int_ok : List (Nat × Nat) := [(49, 149)]
theorem tt_arena_Table_int_ok_ok : subT tt tt_arena_Table_int_ok = true := by kernel_rfl
theorem et_arena_Table_int_ok_ok : subE et et_arena_Table_int_ok = true := by kernel_rfl
noncomputable def fns_arena_Table_int_ok : List (Nat × (List AV → Option AV)) := []
theorem fns_arena_Table_int_ok_ok : FnsOk Go.Proofs.Try.prog fns_arena_Table_int_ok := FnsOk.nil _
def kp_arena_Table_int_ok : List (Nat × List Nat) := [(0, [0]), (1, [2])]
def od_arena_Table_int_ok : List (Nat × Ord) := []
noncomputable def E_arena_Table_int_ok : Env := ⟨0, 0, et_arena_Table_int_ok, tt_arena_Table_int_ok, fns_arena_Table_int_ok, [], od_arena_Table_int_ok, kp_arena_Table_int_ok, none, []⟩
set_option maxRecDepth 100000 in
set_option maxHeartbeats 40000000 in
theorem ms_arena_Table_int_ok : SCon Go.Proofs.Try.prog 75 (sumT fs_arena_Table_int_ok rk_arena_Table_int_ok gm_arena_Table_int_ok) := by
  refine meth_con (T0 := procR E_arena_Table_int_ok 13 [.tmp 2] (bodyOf Try.f75)) rfl rfl rfl (proc_conR (E := E_arena_Table_int_ok) (EnvC.sub (off := 0) (nt := 0) (ords := od_arena_Table_int_ok) (keep := kp_arena_Table_int_ok) (yl := none) tt_ok et_ok fns_arena_Table_int_ok_ok (PrsOk.nil _) (ItsOk.nil _) tt_arena_Table_int_ok_ok et_arena_Table_int_ok_ok) (PrOk.of mixed_ok) Go.Proofs.Try.func75 rfl (by decide) rfl rfl) ?_
  intro x a x' y hs
  repeat'
    (try (conv => whnf)
     first
       | (with_reducible have hs := letv_out hs)
       | (refine draw_and (by kernel_rfl) ?_)
       | (refine both_mk ?_ ?_)
       | (refine br_bool (fun h => ?_) (fun h => ?_) <;> first | have hs := cT h hs | have hs := cF h hs)
       | refine chk_elim hs fun hs => ?_
       | (have hs := letv_out hs)
       | exact fin_m hs rfl rfl rfl rfl rfl rfl rfl rfl
       | (intro b hb; first | have hs := nilq_elim hs b hb | have hs := nilqn_elim hs b hb)
       | (have hs := cT rfl hs)
       | (have hs := cF rfl hs)
       | exact (none_ne hs).elim)
def fs_arena_Table_int_Drop : List FK := [.dat (.int .i64), .dat (.int .i64), .row 149 (.pair (.int .i64) (.pair .bool (.pair (.int .i64) .unit)))]
def rk_arena_Table_int_Drop : List FK := [.dat (.int .i64)]
def gm_arena_Table_int_Drop : (stT fs_arena_Table_int_Drop).den → List AV → Option ((stT fs_arena_Table_int_Drop).den × (stT rk_arena_Table_int_Drop).den) := liftM (.pair (.int .i64) .unit) (fun x a => arena_Table_int_Drop x a.1)
theorem cm_arena_Table_int_Drop {x : (stT fs_arena_Table_int_Drop).den} {vs : List AV} {a : ((.pair (.int .i64) .unit) : Ty).den} {k : (stT fs_arena_Table_int_Drop).den → (stT rk_arena_Table_int_Drop).den → Prop} {r : (stT fs_arena_Table_int_Drop).den × (stT rk_arena_Table_int_Drop).den} (h1 : pks (.pair (.int .i64) .unit) vs = some a) (h2 : arena_Table_int_Drop x a.1 = some r) (h3 : k r.1 r.2) : callS (gm_arena_Table_int_Drop x vs) k := callM_mk h1 h2 h3
def tt_arena_Table_int_Drop : List (Nat × Ty) := [(3, .int .i64), (4, .bool), (23, .opq 0), (24, .int .i64), (49, .sl (.pair (.int .i64) (.pair .bool (.pair (.int .i64) .unit)))), (51, .pair (.int .i64) (.pair (.int .i64) (.pair (.sl (.pair (.int .i64) (.pair .bool (.pair (.int .i64) .unit)))) .unit))), (145, .opq 0), (149, .pair (.int .i64) (.pair .bool (.pair (.int .i64) .unit)))]
def et_arena_Table_int_Drop : List (Nat × Nat) := [(49, 149)]
theorem tt_arena_Table_int_Drop_ok : subT tt tt_arena_Table_int_Drop = true := by kernel_rfl
theorem et_arena_Table_int_Drop_ok : subE et et_arena_Table_int_Drop = true := by kernel_rfl
noncomputable def fns_arena_Table_int_Drop : List (Nat × (List AV → Option AV)) := [(107, lf_handle_Slot), (108, lf_handle_Gen)]
theorem fns_arena_Table_int_Drop_ok : FnsOk Go.Proofs.Try.prog fns_arena_Table_int_Drop := FnsOk.cons c_handle_Slot (FnsOk.cons c_handle_Gen (FnsOk.nil _))
noncomputable def pm_arena_Table_int_Drop_75 : List (Nat × Proc) := (75, sumOr fs_arena_Table_int_ok rk_arena_Table_int_ok gm_arena_Table_int_ok noP) :: []
theorem pm_arena_Table_int_Drop_75_ok : PrsOk Go.Proofs.Try.prog pm_arena_Table_int_Drop_75 := PrsOk.cons (sumOr_con ms_arena_Table_int_ok no_con) (PrsOk.nil _)
def kp_arena_Table_int_Drop_74 : List (Nat × List Nat) := [(0, [0, 1]), (1, [0, 1, 10]), (2, [4, 5]), (3, [0, 1, 6]), (4, [0, 1, 6, 23]), (5, [4, 5]), (6, [1, 7]), (7, [7, 43]), (8, [4, 5]), (9, [4, 5])]
def od_arena_Table_int_Drop_74 : List (Nat × Ord) := [(7, (.one 0 (.one 1 (.one 2 (.one 3 (.one 4 (.one 5 (.one 6 (.one 7 (.one 8 (.one 9 (.one 10 (.one 11 (.one 12 (.one 13 .nil)))))))))))))))]
noncomputable def E_arena_Table_int_Drop_74 : Env := ⟨0, 0, et_arena_Table_int_Drop, tt_arena_Table_int_Drop, fns_arena_Table_int_Drop, pm_arena_Table_int_Drop_75, od_arena_Table_int_Drop_74, kp_arena_Table_int_Drop_74, none, []⟩
noncomputable def pr_arena_Table_int_Drop_74 : List (Nat × Proc) := (74, procR E_arena_Table_int_Drop_74 45 [.tmp 4, .tmp 5] (bodyOf Try.f74)) :: pm_arena_Table_int_Drop_75
theorem pr_arena_Table_int_Drop_74_ok : PrsOk Go.Proofs.Try.prog pr_arena_Table_int_Drop_74 :=
  PrsOk.cons (proc_conR (E := E_arena_Table_int_Drop_74) (EnvC.sub (off := 0) (nt := 0) (ords := od_arena_Table_int_Drop_74) (keep := kp_arena_Table_int_Drop_74) (yl := none) tt_ok et_ok fns_arena_Table_int_Drop_ok (pm_arena_Table_int_Drop_75_ok) (ItsOk.nil _) tt_arena_Table_int_Drop_ok et_arena_Table_int_Drop_ok) (PrOk.of mixed_ok) Go.Proofs.Try.func74 rfl (by decide) rfl rfl) (pm_arena_Table_int_Drop_75_ok)
def kp_arena_Table_int_Drop : List (Nat × List Nat) := [(0, [0, 1]), (1, [0, 5, 6]), (2, [0, 5, 6, 15]), (3, [0, 5, 6, 7]), (4, [0, 6]), (5, [6]), (6, [4])]
def od_arena_Table_int_Drop : List (Nat × Ord) := []
noncomputable def E_arena_Table_int_Drop : Env := ⟨0, 0, et_arena_Table_int_Drop, tt_arena_Table_int_Drop, fns_arena_Table_int_Drop, pr_arena_Table_int_Drop_74, od_arena_Table_int_Drop, kp_arena_Table_int_Drop, none, []⟩
set_option maxRecDepth 100000 in
set_option maxHeartbeats 40000000 in
theorem ms_arena_Table_int_Drop : SCon Go.Proofs.Try.prog 17 (sumT fs_arena_Table_int_Drop rk_arena_Table_int_Drop gm_arena_Table_int_Drop) := by
  refine meth_con (T0 := procR E_arena_Table_int_Drop 31 [.tmp 4] (bodyOf Try.f17)) rfl rfl rfl (proc_conR (E := E_arena_Table_int_Drop) (EnvC.sub (off := 0) (nt := 0) (ords := od_arena_Table_int_Drop) (keep := kp_arena_Table_int_Drop) (yl := none) tt_ok et_ok fns_arena_Table_int_Drop_ok (pr_arena_Table_int_Drop_74_ok) (ItsOk.nil _) tt_arena_Table_int_Drop_ok et_arena_Table_int_Drop_ok) (PrOk.of mixed_ok) Go.Proofs.Try.func17 rfl (by decide) rfl rfl) ?_
  intro x a x' y hs
  repeat'
    (try (conv => whnf)
     first
       | (with_reducible have hs := letv_out hs)
       | (refine draw_and (by kernel_rfl) ?_)
       | (refine both_mk ?_ ?_)
       | (refine br_bool (fun h => ?_) (fun h => ?_) <;> first | have hs := cT h hs | have hs := cF h hs)
       | (refine bind_elim hs fun v hb hs => ?_; first | refine ck_handle_Slot rfl hb ?_ | refine ck_handle_Gen rfl hb ?_ | refine cm_arena_Table_int_ok rfl hb ?_)
       | refine chk_elim hs fun hs => ?_
       | (have hs := letv_out hs)
       | exact fin_m hs rfl rfl rfl rfl rfl rfl rfl rfl
       | (intro b hb; first | have hs := nilq_elim hs b hb | have hs := nilqn_elim hs b hb)
       | (have hs := cT rfl hs)
       | (have hs := cF rfl hs)
       | exact (none_ne hs).elim)
def fs_arena_Table_int_open : List FK := [.dat (.int .i64), .dat (.int .i64), .row 149 (.pair (.int .i64) (.pair .bool (.pair (.int .i64) .unit)))]
def rk_arena_Table_int_open : List FK := [.dat .bool]
def gm_arena_Table_int_open : (stT fs_arena_Table_int_open).den → List AV → Option ((stT fs_arena_Table_int_open).den × (stT rk_arena_Table_int_open).den) := liftM (.pair (.int .i64) .unit) (fun x a => arena_Table_int_open x a.1)
theorem cm_arena_Table_int_open {x : (stT fs_arena_Table_int_open).den} {vs : List AV} {a : ((.pair (.int .i64) .unit) : Ty).den} {k : (stT fs_arena_Table_int_open).den → (stT rk_arena_Table_int_open).den → Prop} {r : (stT fs_arena_Table_int_open).den × (stT rk_arena_Table_int_open).den} (h1 : pks (.pair (.int .i64) .unit) vs = some a) (h2 : arena_Table_int_open x a.1 = some r) (h3 : k r.1 r.2) : callS (gm_arena_Table_int_open x vs) k := callM_mk h1 h2 h3
def tt_arena_Table_int_open : List (Nat × Ty) := [(3, .int .i64), (4, .bool), (49, .sl (.pair (.int .i64) (.pair .bool (.pair (.int .i64) .unit)))), (51, .pair (.int .i64) (.pair (.int .i64) (.pair (.sl (.pair (.int .i64) (.pair .bool (.pair (.int .i64) .unit)))) .unit))), (149, .pair (.int .i64) (.pair .bool (.pair (.int .i64) .unit)))]
def et_arena_Table_int_open : List (Nat × Nat) := [(49, 149)]
theorem tt_arena_Table_int_open_ok : subT tt tt_arena_Table_int_open = true := by kernel_rfl
theorem et_arena_Table_int_open_ok : subE et et_arena_Table_int_open = true := by kernel_rfl
noncomputable def fns_arena_Table_int_open : List (Nat × (List AV → Option AV)) := []
theorem fns_arena_Table_int_open_ok : FnsOk Go.Proofs.Try.prog fns_arena_Table_int_open := FnsOk.nil _
def kp_arena_Table_int_open : List (Nat × List Nat) := [(0, [0, 1]), (1, [4])]
def od_arena_Table_int_open : List (Nat × Ord) := [(1, (.one 0 (.one 1 (.one 2 (.one 3 (.one 4 (.one 5 (.one 6 (.one 7 (.one 8 (.one 9 (.one 10 (.one 11 (.one 12 (.one 13 (.one 14 (.one 15 (.one 16 (.one 17 (.one 18 (.one 19 (.one 20 (.one 21 (.one 22 (.one 23 (.one 24 .nil))))))))))))))))))))))))))]
noncomputable def E_arena_Table_int_open : Env := ⟨0, 0, et_arena_Table_int_open, tt_arena_Table_int_open, fns_arena_Table_int_open, [], od_arena_Table_int_open, kp_arena_Table_int_open, none, []⟩
set_option maxRecDepth 100000 in
set_option maxHeartbeats 40000000 in
theorem ms_arena_Table_int_open : SCon Go.Proofs.Try.prog 76 (sumT fs_arena_Table_int_open rk_arena_Table_int_open gm_arena_Table_int_open) := by
  refine meth_con (T0 := procR E_arena_Table_int_open 29 [.tmp 4] (bodyOf Try.f76)) rfl rfl rfl (proc_conR (E := E_arena_Table_int_open) (EnvC.sub (off := 0) (nt := 0) (ords := od_arena_Table_int_open) (keep := kp_arena_Table_int_open) (yl := none) tt_ok et_ok fns_arena_Table_int_open_ok (PrsOk.nil _) (ItsOk.nil _) tt_arena_Table_int_open_ok et_arena_Table_int_open_ok) (PrOk.of mixed_ok) Go.Proofs.Try.func76 rfl (by decide) rfl rfl) ?_
  intro x a x' y hs
  repeat'
    (try (conv => whnf)
     first
       | (with_reducible have hs := letv_out hs)
       | (refine draw_and (by kernel_rfl) ?_)
       | (refine both_mk ?_ ?_)
       | (refine br_bool (fun h => ?_) (fun h => ?_) <;> first | have hs := cT h hs | have hs := cF h hs)
       | refine chk_elim hs fun hs => ?_
       | (have hs := letv_out hs)
       | exact fin_m hs rfl rfl rfl rfl rfl rfl rfl rfl
       | (intro b hb; first | have hs := nilq_elim hs b hb | have hs := nilqn_elim hs b hb)
       | (have hs := cT rfl hs)
       | (have hs := cF rfl hs)
       | exact (none_ne hs).elim)
def fs_arena_Table_int_Add : List FK := [.dat (.int .i64), .dat (.int .i64), .row 149 (.pair (.int .i64) (.pair .bool (.pair (.int .i64) .unit)))]
def rk_arena_Table_int_Add : List FK := [.dat (.int .i64), .dat (.int .i64)]
def gm_arena_Table_int_Add : (stT fs_arena_Table_int_Add).den → List AV → Option ((stT fs_arena_Table_int_Add).den × (stT rk_arena_Table_int_Add).den) := liftM (.pair (.int .i64) .unit) (fun x a => arena_Table_int_Add x a.1)
theorem cm_arena_Table_int_Add {x : (stT fs_arena_Table_int_Add).den} {vs : List AV} {a : ((.pair (.int .i64) .unit) : Ty).den} {k : (stT fs_arena_Table_int_Add).den → (stT rk_arena_Table_int_Add).den → Prop} {r : (stT fs_arena_Table_int_Add).den × (stT rk_arena_Table_int_Add).den} (h1 : pks (.pair (.int .i64) .unit) vs = some a) (h2 : arena_Table_int_Add x a.1 = some r) (h3 : k r.1 r.2) : callS (gm_arena_Table_int_Add x vs) k := callM_mk h1 h2 h3
def tt_arena_Table_int_Add : List (Nat × Ty) := [(3, .int .i64), (4, .bool), (23, .opq 0), (24, .int .i64), (49, .sl (.pair (.int .i64) (.pair .bool (.pair (.int .i64) .unit)))), (51, .pair (.int .i64) (.pair (.int .i64) (.pair (.sl (.pair (.int .i64) (.pair .bool (.pair (.int .i64) .unit)))) .unit))), (149, .pair (.int .i64) (.pair .bool (.pair (.int .i64) .unit)))]
def et_arena_Table_int_Add : List (Nat × Nat) := [(49, 149)]
theorem tt_arena_Table_int_Add_ok : subT tt tt_arena_Table_int_Add = true := by kernel_rfl
theorem et_arena_Table_int_Add_ok : subE et et_arena_Table_int_Add = true := by kernel_rfl
noncomputable def fns_arena_Table_int_Add : List (Nat × (List AV → Option AV)) := [(77, lf_handle_Make)]
theorem fns_arena_Table_int_Add_ok : FnsOk Go.Proofs.Try.prog fns_arena_Table_int_Add := FnsOk.cons c_handle_Make (FnsOk.nil _)
noncomputable def pm_arena_Table_int_Add_75 : List (Nat × Proc) := (75, sumOr fs_arena_Table_int_ok rk_arena_Table_int_ok gm_arena_Table_int_ok noP) :: []
theorem pm_arena_Table_int_Add_75_ok : PrsOk Go.Proofs.Try.prog pm_arena_Table_int_Add_75 := PrsOk.cons (sumOr_con ms_arena_Table_int_ok no_con) (PrsOk.nil _)
noncomputable def pm_arena_Table_int_Add_76 : List (Nat × Proc) := (76, sumOr fs_arena_Table_int_open rk_arena_Table_int_open gm_arena_Table_int_open noP) :: pm_arena_Table_int_Add_75
theorem pm_arena_Table_int_Add_76_ok : PrsOk Go.Proofs.Try.prog pm_arena_Table_int_Add_76 := PrsOk.cons (sumOr_con ms_arena_Table_int_open no_con) (pm_arena_Table_int_Add_75_ok)
def arena_Table_int_Add_S1 (u0 : AV) (u1 : AV) (u2 : AV) (x1 : Int × Int × Int × (List (Int × Bool × Int × Unit))) : St :=
  ⟨[(0, u0), (1, u1), (15, u2), (16, .int .i64 x1.1)], [(0, .var (.pair (.int .i64) (.pair (.int .i64) (.pair (.sl (.pair (.int .i64) (.pair .bool (.pair (.int .i64) .unit)))) .unit))) (.agg [.int .i64 x1.2.1, .int .i64 x1.2.2.1, .own 1]) false), (1, .row 149 (.pair (.int .i64) (.pair .bool (.pair (.int .i64) .unit))) x1.2.2.2 false)], (some ([1], 0))⟩
def arena_Table_int_Add_M1 : Msk := ⟨[0, 1, 15, 16], [0, 1], [], [], [1], [], [], [], []⟩
def kp_arena_Table_int_Add : List (Nat × List Nat) := [(0, [0, 1]), (1, [0, 1, 10]), (2, [4, 5]), (3, [0, 1, 15, 16]), (4, [0, 1, 15, 16, 17]), (5, [0, 1, 6, 15, 16]), (6, [0, 1, 6, 15, 16, 21]), (7, [0, 1, 6, 7]), (8, [0, 6, 7]), (9, [6, 7]), (10, [4, 5]), (11, [0, 1, 15, 16]), (12, [4, 5])]
def od_arena_Table_int_Add : List (Nat × Ord) := []
noncomputable def E_arena_Table_int_Add : Env := ⟨0, 0, et_arena_Table_int_Add, tt_arena_Table_int_Add, fns_arena_Table_int_Add, pm_arena_Table_int_Add_76, od_arena_Table_int_Add, kp_arena_Table_int_Add, none, []⟩
set_option maxRecDepth 100000 in
set_option maxHeartbeats 40000000 in
theorem ms_arena_Table_int_Add : SCon Go.Proofs.Try.prog 18 (sumT fs_arena_Table_int_Add rk_arena_Table_int_Add gm_arena_Table_int_Add) := by
  refine meth_con (T0 := procR E_arena_Table_int_Add 59 [.tmp 4, .tmp 5] (bodyOf Try.f18)) rfl rfl rfl (proc_conR (E := E_arena_Table_int_Add) (EnvC.sub (off := 0) (nt := 0) (ords := od_arena_Table_int_Add) (keep := kp_arena_Table_int_Add) (yl := none) tt_ok et_ok fns_arena_Table_int_Add_ok (pm_arena_Table_int_Add_76_ok) (ItsOk.nil _) tt_arena_Table_int_Add_ok et_arena_Table_int_Add_ok) (PrOk.of mixed_ok) Go.Proofs.Try.func18 rfl (by decide) rfl rfl) ?_
  intro x a x' y hs
  repeat'
    (try (conv => whnf)
     first
       | (with_reducible have hs := letv_out hs)
       | (refine draw_and (by kernel_rfl) ?_)
       | (refine both_mk ?_ ?_)
       | (refine br_bool (fun h => ?_) (fun h => ?_) <;> first | have hs := cT h hs | have hs := cF h hs)
       | (refine bind_elim hs fun v hb hs => ?_; first | refine ck_handle_Make rfl hb ?_ | refine cm_arena_Table_int_ok rfl hb ?_ | refine cm_arena_Table_int_open rfl hb ?_)
       | refine chk_elim hs fun hs => ?_
       | (have hs := letv_out hs)
       | exact fin_m hs rfl rfl rfl rfl rfl rfl rfl rfl
       | (intro b hb; first | have hs := nilq_elim hs b hb | have hs := nilqn_elim hs b hb)
       | exact hJ1 _ hs
       | (have hs := cT rfl hs)
       | (have hs := cF rfl hs)
       | (refine vc_loopR (arena_Table_int_Add_S1 _ _ _) arena_Table_int_Add_M1 hs rfl ?_; intro J1 k1 x1 hJ1 hs)
       | exact (none_ne hs).elim)
def fs_arena_Table_int_Get : List FK := [.dat (.int .i64), .dat (.int .i64), .row 149 (.pair (.int .i64) (.pair .bool (.pair (.int .i64) .unit)))]
def rk_arena_Table_int_Get : List FK := [.dat (.int .i64), .dat (.int .i64)]
def gm_arena_Table_int_Get : (stT fs_arena_Table_int_Get).den → List AV → Option ((stT fs_arena_Table_int_Get).den × (stT rk_arena_Table_int_Get).den) := liftM (.pair (.int .i64) .unit) (fun x a => arena_Table_int_Get x a.1)
theorem cm_arena_Table_int_Get {x : (stT fs_arena_Table_int_Get).den} {vs : List AV} {a : ((.pair (.int .i64) .unit) : Ty).den} {k : (stT fs_arena_Table_int_Get).den → (stT rk_arena_Table_int_Get).den → Prop} {r : (stT fs_arena_Table_int_Get).den × (stT rk_arena_Table_int_Get).den} (h1 : pks (.pair (.int .i64) .unit) vs = some a) (h2 : arena_Table_int_Get x a.1 = some r) (h3 : k r.1 r.2) : callS (gm_arena_Table_int_Get x vs) k := callM_mk h1 h2 h3
def tt_arena_Table_int_Get : List (Nat × Ty) := [(3, .int .i64), (4, .bool), (23, .opq 0), (24, .int .i64), (49, .sl (.pair (.int .i64) (.pair .bool (.pair (.int .i64) .unit)))), (51, .pair (.int .i64) (.pair (.int .i64) (.pair (.sl (.pair (.int .i64) (.pair .bool (.pair (.int .i64) .unit)))) .unit))), (145, .opq 0), (149, .pair (.int .i64) (.pair .bool (.pair (.int .i64) .unit)))]
def et_arena_Table_int_Get : List (Nat × Nat) := [(49, 149)]
theorem tt_arena_Table_int_Get_ok : subT tt tt_arena_Table_int_Get = true := by kernel_rfl
theorem et_arena_Table_int_Get_ok : subE et et_arena_Table_int_Get = true := by kernel_rfl
noncomputable def fns_arena_Table_int_Get : List (Nat × (List AV → Option AV)) := [(107, lf_handle_Slot), (108, lf_handle_Gen)]
theorem fns_arena_Table_int_Get_ok : FnsOk Go.Proofs.Try.prog fns_arena_Table_int_Get := FnsOk.cons c_handle_Slot (FnsOk.cons c_handle_Gen (FnsOk.nil _))
noncomputable def pm_arena_Table_int_Get_75 : List (Nat × Proc) := (75, sumOr fs_arena_Table_int_ok rk_arena_Table_int_ok gm_arena_Table_int_ok noP) :: []
theorem pm_arena_Table_int_Get_75_ok : PrsOk Go.Proofs.Try.prog pm_arena_Table_int_Get_75 := PrsOk.cons (sumOr_con ms_arena_Table_int_ok no_con) (PrsOk.nil _)
def kp_arena_Table_int_Get_74 : List (Nat × List Nat) := [(0, [0, 1]), (1, [0, 1, 10]), (2, [4, 5]), (3, [0, 1, 6]), (4, [0, 1, 6, 23]), (5, [4, 5]), (6, [1, 7]), (7, [7, 43]), (8, [4, 5]), (9, [4, 5])]
def od_arena_Table_int_Get_74 : List (Nat × Ord) := [(7, (.one 0 (.one 1 (.one 2 (.one 3 (.one 4 (.one 5 (.one 6 (.one 7 (.one 8 (.one 9 (.one 10 (.one 11 (.one 12 (.one 13 .nil)))))))))))))))]
noncomputable def E_arena_Table_int_Get_74 : Env := ⟨0, 0, et_arena_Table_int_Get, tt_arena_Table_int_Get, fns_arena_Table_int_Get, pm_arena_Table_int_Get_75, od_arena_Table_int_Get_74, kp_arena_Table_int_Get_74, none, []⟩
noncomputable def pr_arena_Table_int_Get_74 : List (Nat × Proc) := (74, procR E_arena_Table_int_Get_74 45 [.tmp 4, .tmp 5] (bodyOf Try.f74)) :: pm_arena_Table_int_Get_75
theorem pr_arena_Table_int_Get_74_ok : PrsOk Go.Proofs.Try.prog pr_arena_Table_int_Get_74 :=
  PrsOk.cons (proc_conR (E := E_arena_Table_int_Get_74) (EnvC.sub (off := 0) (nt := 0) (ords := od_arena_Table_int_Get_74) (keep := kp_arena_Table_int_Get_74) (yl := none) tt_ok et_ok fns_arena_Table_int_Get_ok (pm_arena_Table_int_Get_75_ok) (ItsOk.nil _) tt_arena_Table_int_Get_ok et_arena_Table_int_Get_ok) (PrOk.of mixed_ok) Go.Proofs.Try.func74 rfl (by decide) rfl rfl) (pm_arena_Table_int_Get_75_ok)
def kp_arena_Table_int_Get : List (Nat × List Nat) := [(0, [0, 1]), (1, [6, 7]), (2, [6, 7, 16]), (3, [7, 8]), (4, [4, 5]), (5, [4, 5])]
def od_arena_Table_int_Get : List (Nat × Ord) := []
noncomputable def E_arena_Table_int_Get : Env := ⟨0, 0, et_arena_Table_int_Get, tt_arena_Table_int_Get, fns_arena_Table_int_Get, pr_arena_Table_int_Get_74, od_arena_Table_int_Get, kp_arena_Table_int_Get, none, []⟩
set_option maxRecDepth 100000 in
set_option maxHeartbeats 40000000 in
theorem ms_arena_Table_int_Get : SCon Go.Proofs.Try.prog 19 (sumT fs_arena_Table_int_Get rk_arena_Table_int_Get gm_arena_Table_int_Get) := by
  refine meth_con (T0 := procR E_arena_Table_int_Get 23 [.tmp 4, .tmp 5] (bodyOf Try.f19)) rfl rfl rfl (proc_conR (E := E_arena_Table_int_Get) (EnvC.sub (off := 0) (nt := 0) (ords := od_arena_Table_int_Get) (keep := kp_arena_Table_int_Get) (yl := none) tt_ok et_ok fns_arena_Table_int_Get_ok (pr_arena_Table_int_Get_74_ok) (ItsOk.nil _) tt_arena_Table_int_Get_ok et_arena_Table_int_Get_ok) (PrOk.of mixed_ok) Go.Proofs.Try.func19 rfl (by decide) rfl rfl) ?_
  intro x a x' y hs
  repeat'
    (try (conv => whnf)
     first
       | (with_reducible have hs := letv_out hs)
       | (refine draw_and (by kernel_rfl) ?_)
       | (refine both_mk ?_ ?_)
       | (refine br_bool (fun h => ?_) (fun h => ?_) <;> first | have hs := cT h hs | have hs := cF h hs)
       | (refine bind_elim hs fun v hb hs => ?_; first | refine ck_handle_Slot rfl hb ?_ | refine ck_handle_Gen rfl hb ?_ | refine cm_arena_Table_int_ok rfl hb ?_)
       | refine chk_elim hs fun hs => ?_
       | (have hs := letv_out hs)
       | exact fin_m hs rfl rfl rfl rfl rfl rfl rfl rfl
       | (intro b hb; first | have hs := nilq_elim hs b hb | have hs := nilqn_elim hs b hb)
       | (have hs := cT rfl hs)
       | (have hs := cF rfl hs)
       | exact (none_ne hs).elim)
def fs_arena_Table_int_Len : List FK := [.dat (.int .i64), .dat (.int .i64), .row 149 (.pair (.int .i64) (.pair .bool (.pair (.int .i64) .unit)))]
def rk_arena_Table_int_Len : List FK := [.dat (.int .i64)]
def gm_arena_Table_int_Len : (stT fs_arena_Table_int_Len).den → List AV → Option ((stT fs_arena_Table_int_Len).den × (stT rk_arena_Table_int_Len).den) := liftM .unit (fun x a => arena_Table_int_Len x)
theorem cm_arena_Table_int_Len {x : (stT fs_arena_Table_int_Len).den} {vs : List AV} {a : (.unit : Ty).den} {k : (stT fs_arena_Table_int_Len).den → (stT rk_arena_Table_int_Len).den → Prop} {r : (stT fs_arena_Table_int_Len).den × (stT rk_arena_Table_int_Len).den} (h1 : pks .unit vs = some a) (h2 : arena_Table_int_Len x = some r) (h3 : k r.1 r.2) : callS (gm_arena_Table_int_Len x vs) k := callM_mk h1 h2 h3
def tt_arena_Table_int_Len : List (Nat × Ty) := [(3, .int .i64), (4, .bool), (23, .opq 0), (51, .pair (.int .i64) (.pair (.int .i64) (.pair (.sl (.pair (.int .i64) (.pair .bool (.pair (.int .i64) .unit)))) .unit)))]
def et_arena_Table_int_Len : List (Nat × Nat) := []
theorem tt_arena_Table_int_Len_ok : subT tt tt_arena_Table_int_Len = true := by kernel_rfl
theorem et_arena_Table_int_Len_ok : subE et et_arena_Table_int_Len = true := by kernel_rfl
noncomputable def fns_arena_Table_int_Len : List (Nat × (List AV → Option AV)) := []
theorem fns_arena_Table_int_Len_ok : FnsOk Go.Proofs.Try.prog fns_arena_Table_int_Len := FnsOk.nil _
noncomputable def pm_arena_Table_int_Len_75 : List (Nat × Proc) := (75, sumOr fs_arena_Table_int_ok rk_arena_Table_int_ok gm_arena_Table_int_ok noP) :: []
theorem pm_arena_Table_int_Len_75_ok : PrsOk Go.Proofs.Try.prog pm_arena_Table_int_Len_75 := PrsOk.cons (sumOr_con ms_arena_Table_int_ok no_con) (PrsOk.nil _)
def kp_arena_Table_int_Len : List (Nat × List Nat) := [(0, [0]), (1, [0, 5]), (2, [2]), (3, [2])]
def od_arena_Table_int_Len : List (Nat × Ord) := []
noncomputable def E_arena_Table_int_Len : Env := ⟨0, 0, et_arena_Table_int_Len, tt_arena_Table_int_Len, fns_arena_Table_int_Len, pm_arena_Table_int_Len_75, od_arena_Table_int_Len, kp_arena_Table_int_Len, none, []⟩
set_option maxRecDepth 100000 in
set_option maxHeartbeats 40000000 in
theorem ms_arena_Table_int_Len : SCon Go.Proofs.Try.prog 20 (sumT fs_arena_Table_int_Len rk_arena_Table_int_Len gm_arena_Table_int_Len) := by
  refine meth_con (T0 := procR E_arena_Table_int_Len 10 [.tmp 2] (bodyOf Try.f20)) rfl rfl rfl (proc_conR (E := E_arena_Table_int_Len) (EnvC.sub (off := 0) (nt := 0) (ords := od_arena_Table_int_Len) (keep := kp_arena_Table_int_Len) (yl := none) tt_ok et_ok fns_arena_Table_int_Len_ok (pm_arena_Table_int_Len_75_ok) (ItsOk.nil _) tt_arena_Table_int_Len_ok et_arena_Table_int_Len_ok) (PrOk.of mixed_ok) Go.Proofs.Try.func20 rfl (by decide) rfl rfl) ?_
  intro x a x' y hs
  repeat'
    (try (conv => whnf)
     first
       | (with_reducible have hs := letv_out hs)
       | (refine draw_and (by kernel_rfl) ?_)
       | (refine both_mk ?_ ?_)
       | (refine br_bool (fun h => ?_) (fun h => ?_) <;> first | have hs := cT h hs | have hs := cF h hs)
       | (refine bind_elim hs fun v hb hs => ?_; first | refine cm_arena_Table_int_ok rfl hb ?_)
       | refine chk_elim hs fun hs => ?_
       | (have hs := letv_out hs)
       | exact fin_m hs rfl rfl rfl rfl rfl rfl rfl rfl
       | (intro b hb; first | have hs := nilq_elim hs b hb | have hs := nilqn_elim hs b hb)
       | (have hs := cT rfl hs)
       | (have hs := cF rfl hs)
       | exact (none_ne hs).elim)
def fs_arena_Table_int_Free : List FK := [.dat (.int .i64), .dat (.int .i64), .row 149 (.pair (.int .i64) (.pair .bool (.pair (.int .i64) .unit)))]
def rk_arena_Table_int_Free : List FK := [.dat (.int .i64)]
def gm_arena_Table_int_Free : (stT fs_arena_Table_int_Free).den → List AV → Option ((stT fs_arena_Table_int_Free).den × (stT rk_arena_Table_int_Free).den) := liftM .unit (fun x a => arena_Table_int_Free x)
theorem cm_arena_Table_int_Free {x : (stT fs_arena_Table_int_Free).den} {vs : List AV} {a : (.unit : Ty).den} {k : (stT fs_arena_Table_int_Free).den → (stT rk_arena_Table_int_Free).den → Prop} {r : (stT fs_arena_Table_int_Free).den × (stT rk_arena_Table_int_Free).den} (h1 : pks .unit vs = some a) (h2 : arena_Table_int_Free x = some r) (h3 : k r.1 r.2) : callS (gm_arena_Table_int_Free x vs) k := callM_mk h1 h2 h3
def tt_arena_Table_int_Free : List (Nat × Ty) := [(3, .int .i64), (4, .bool), (23, .opq 0), (49, .sl (.pair (.int .i64) (.pair .bool (.pair (.int .i64) .unit)))), (51, .pair (.int .i64) (.pair (.int .i64) (.pair (.sl (.pair (.int .i64) (.pair .bool (.pair (.int .i64) .unit)))) .unit)))]
def et_arena_Table_int_Free : List (Nat × Nat) := [(49, 149)]
theorem tt_arena_Table_int_Free_ok : subT tt tt_arena_Table_int_Free = true := by kernel_rfl
theorem et_arena_Table_int_Free_ok : subE et et_arena_Table_int_Free = true := by kernel_rfl
noncomputable def fns_arena_Table_int_Free : List (Nat × (List AV → Option AV)) := []
theorem fns_arena_Table_int_Free_ok : FnsOk Go.Proofs.Try.prog fns_arena_Table_int_Free := FnsOk.nil _
noncomputable def pm_arena_Table_int_Free_75 : List (Nat × Proc) := (75, sumOr fs_arena_Table_int_ok rk_arena_Table_int_ok gm_arena_Table_int_ok noP) :: []
theorem pm_arena_Table_int_Free_75_ok : PrsOk Go.Proofs.Try.prog pm_arena_Table_int_Free_75 := PrsOk.cons (sumOr_con ms_arena_Table_int_ok no_con) (PrsOk.nil _)
noncomputable def pm_arena_Table_int_Free_76 : List (Nat × Proc) := (76, sumOr fs_arena_Table_int_open rk_arena_Table_int_open gm_arena_Table_int_open noP) :: pm_arena_Table_int_Free_75
theorem pm_arena_Table_int_Free_76_ok : PrsOk Go.Proofs.Try.prog pm_arena_Table_int_Free_76 := PrsOk.cons (sumOr_con ms_arena_Table_int_open no_con) (pm_arena_Table_int_Free_75_ok)
def arena_Table_int_Free_S1 (u0 : AV) (u1 : AV) (x1 : Int × Int × Int × Int × (List (Int × Bool × Int × Unit))) : St :=
  ⟨[(0, u0), (3, .int .i64 x1.1), (12, u1), (13, .int .i64 x1.2.1)], [(0, .var (.pair (.int .i64) (.pair (.int .i64) (.pair (.sl (.pair (.int .i64) (.pair .bool (.pair (.int .i64) .unit)))) .unit))) (.agg [.int .i64 x1.2.2.1, .int .i64 x1.2.2.2.1, .own 1]) false), (1, .row 149 (.pair (.int .i64) (.pair .bool (.pair (.int .i64) .unit))) x1.2.2.2.2 false)], (some ([1], 0))⟩
def arena_Table_int_Free_M1 : Msk := ⟨[0, 3, 12, 13], [0, 1], [], [], [1], [], [], [], []⟩
def kp_arena_Table_int_Free : List (Nat × List Nat) := [(0, [0]), (1, [0, 7]), (2, [2]), (3, [0, 3]), (4, [0, 3, 12, 13]), (5, [0, 3, 12, 13, 14]), (6, [0, 3, 4, 12, 13]), (7, [0, 3, 12, 13, 18]), (8, [0, 3, 12, 13]), (9, [0, 3, 12, 13]), (10, [2])]
def od_arena_Table_int_Free : List (Nat × Ord) := []
noncomputable def E_arena_Table_int_Free : Env := ⟨0, 0, et_arena_Table_int_Free, tt_arena_Table_int_Free, fns_arena_Table_int_Free, pm_arena_Table_int_Free_76, od_arena_Table_int_Free, kp_arena_Table_int_Free, none, []⟩
set_option maxRecDepth 100000 in
set_option maxHeartbeats 40000000 in
theorem ms_arena_Table_int_Free : SCon Go.Proofs.Try.prog 27 (sumT fs_arena_Table_int_Free rk_arena_Table_int_Free gm_arena_Table_int_Free) := by
  refine meth_con (T0 := procR E_arena_Table_int_Free 23 [.tmp 2] (bodyOf Try.f27)) rfl rfl rfl (proc_conR (E := E_arena_Table_int_Free) (EnvC.sub (off := 0) (nt := 0) (ords := od_arena_Table_int_Free) (keep := kp_arena_Table_int_Free) (yl := none) tt_ok et_ok fns_arena_Table_int_Free_ok (pm_arena_Table_int_Free_76_ok) (ItsOk.nil _) tt_arena_Table_int_Free_ok et_arena_Table_int_Free_ok) (PrOk.of mixed_ok) Go.Proofs.Try.func27 rfl (by decide) rfl rfl) ?_
  intro x a x' y hs
  repeat'
    (try (conv => whnf)
     first
       | (with_reducible have hs := letv_out hs)
       | (refine draw_and (by kernel_rfl) ?_)
       | (refine both_mk ?_ ?_)
       | (refine br_bool (fun h => ?_) (fun h => ?_) <;> first | have hs := cT h hs | have hs := cF h hs)
       | (refine bind_elim hs fun v hb hs => ?_; first | refine cm_arena_Table_int_ok rfl hb ?_ | refine cm_arena_Table_int_open rfl hb ?_)
       | refine chk_elim hs fun hs => ?_
       | (have hs := letv_out hs)
       | exact fin_m hs rfl rfl rfl rfl rfl rfl rfl rfl
       | (intro b hb; first | have hs := nilq_elim hs b hb | have hs := nilqn_elim hs b hb)
       | exact hJ1 _ hs
       | (have hs := cT rfl hs)
       | (have hs := cF rfl hs)
       | (refine vc_loopR (arena_Table_int_Free_S1 _ _) arena_Table_int_Free_M1 hs rfl ?_; intro J1 k1 x1 hJ1 hs)
       | exact (none_ne hs).elim)
def fs_arena_Table_int_Handles : List FK := [.dat (.int .i64), .dat (.int .i64), .row 149 (.pair (.int .i64) (.pair .bool (.pair (.int .i64) .unit)))]
def rk_arena_Table_int_Handles : List FK := [.row 3 (.int .i64)]
def gm_arena_Table_int_Handles : (stT fs_arena_Table_int_Handles).den → List AV → Option ((stT fs_arena_Table_int_Handles).den × (stT rk_arena_Table_int_Handles).den) := liftM .unit (fun x a => arena_Table_int_Handles x)
theorem cm_arena_Table_int_Handles {x : (stT fs_arena_Table_int_Handles).den} {vs : List AV} {a : (.unit : Ty).den} {k : (stT fs_arena_Table_int_Handles).den → (stT rk_arena_Table_int_Handles).den → Prop} {r : (stT fs_arena_Table_int_Handles).den × (stT rk_arena_Table_int_Handles).den} (h1 : pks .unit vs = some a) (h2 : arena_Table_int_Handles x = some r) (h3 : k r.1 r.2) : callS (gm_arena_Table_int_Handles x vs) k := callM_mk h1 h2 h3
def tt_arena_Table_int_Handles : List (Nat × Ty) := [(3, .int .i64), (4, .bool), (23, .opq 0), (36, .sl (.int .i64)), (49, .sl (.pair (.int .i64) (.pair .bool (.pair (.int .i64) .unit)))), (51, .pair (.int .i64) (.pair (.int .i64) (.pair (.sl (.pair (.int .i64) (.pair .bool (.pair (.int .i64) .unit)))) .unit))), (149, .pair (.int .i64) (.pair .bool (.pair (.int .i64) .unit)))]
def et_arena_Table_int_Handles : List (Nat × Nat) := [(36, 3), (49, 149)]
theorem tt_arena_Table_int_Handles_ok : subT tt tt_arena_Table_int_Handles = true := by kernel_rfl
theorem et_arena_Table_int_Handles_ok : subE et et_arena_Table_int_Handles = true := by kernel_rfl
noncomputable def fns_arena_Table_int_Handles : List (Nat × (List AV → Option AV)) := [(77, lf_handle_Make)]
theorem fns_arena_Table_int_Handles_ok : FnsOk Go.Proofs.Try.prog fns_arena_Table_int_Handles := FnsOk.cons c_handle_Make (FnsOk.nil _)
noncomputable def pm_arena_Table_int_Handles_75 : List (Nat × Proc) := (75, sumOr fs_arena_Table_int_ok rk_arena_Table_int_ok gm_arena_Table_int_ok noP) :: []
theorem pm_arena_Table_int_Handles_75_ok : PrsOk Go.Proofs.Try.prog pm_arena_Table_int_Handles_75 := PrsOk.cons (sumOr_con ms_arena_Table_int_ok no_con) (PrsOk.nil _)
def arena_Table_int_Handles_S1 (u0 : AV) (u1 : AV) (u2 : AV) (B4 : Blk) (B5 : Blk) (x1 : Int × List Int) : St :=
  ⟨[(3, u0), (14, u1), (15, u2), (16, .int .i64 x1.1)], [(0, B4), (1, B5), (1057, .row 3 (.int .i64) x1.2 false)], (some ([1, 1029, 1056, 1057], 0))⟩
def arena_Table_int_Handles_M1 : Msk := ⟨[3, 14, 15, 16], [0, 1, 1057], [(3, 1057, 36)], [], [1, 1029, 1056, 1057], [], [], [], []⟩
def kp_arena_Table_int_Handles : List (Nat × List Nat) := [(0, [0]), (1, [0, 10]), (2, [2]), (3, [0, 3]), (4, [3, 14, 15, 16]), (5, [3, 14, 15, 16, 17]), (6, [3, 4, 5, 14, 15, 16]), (7, [3, 4, 5, 14, 15, 16, 22]), (8, [3, 6, 14, 15, 16]), (9, [3, 14, 15, 16]), (10, [3, 14, 15, 16]), (11, [2])]
def od_arena_Table_int_Handles : List (Nat × Ord) := []
noncomputable def E_arena_Table_int_Handles : Env := ⟨0, 0, et_arena_Table_int_Handles, tt_arena_Table_int_Handles, fns_arena_Table_int_Handles, pm_arena_Table_int_Handles_75, od_arena_Table_int_Handles, kp_arena_Table_int_Handles, none, []⟩
set_option maxRecDepth 100000 in
set_option maxHeartbeats 40000000 in
theorem ms_arena_Table_int_Handles : SCon Go.Proofs.Try.prog 28 (sumT fs_arena_Table_int_Handles rk_arena_Table_int_Handles gm_arena_Table_int_Handles) := by
  refine meth_con (T0 := procR E_arena_Table_int_Handles 36 [.tmp 2] (bodyOf Try.f28)) rfl rfl rfl (proc_conR (E := E_arena_Table_int_Handles) (EnvC.sub (off := 0) (nt := 0) (ords := od_arena_Table_int_Handles) (keep := kp_arena_Table_int_Handles) (yl := none) tt_ok et_ok fns_arena_Table_int_Handles_ok (pm_arena_Table_int_Handles_75_ok) (ItsOk.nil _) tt_arena_Table_int_Handles_ok et_arena_Table_int_Handles_ok) (PrOk.of mixed_ok) Go.Proofs.Try.func28 rfl (by decide) rfl rfl) ?_
  intro x a x' y hs
  repeat'
    (try (conv => whnf)
     first
       | (with_reducible have hs := letv_out hs)
       | (refine draw_and (by kernel_rfl) ?_)
       | (refine both_mk ?_ ?_)
       | (refine br_bool (fun h => ?_) (fun h => ?_) <;> first | have hs := cT h hs | have hs := cF h hs)
       | (refine bind_elim hs fun v hb hs => ?_; first | refine ck_handle_Make rfl hb ?_ | refine cm_arena_Table_int_ok rfl hb ?_)
       | refine chk_elim hs fun hs => ?_
       | (have hs := letv_out hs)
       | exact fin_m hs rfl rfl rfl rfl rfl rfl rfl rfl
       | (intro b hb; first | have hs := nilq_elim hs b hb | have hs := nilqn_elim hs b hb)
       | exact hJ1 _ hs
       | (have hs := cT rfl hs)
       | (have hs := cF rfl hs)
       | (refine vc_loopR (arena_Table_int_Handles_S1 _ _ _ _ _) arena_Table_int_Handles_M1 hs rfl ?_; intro J1 k1 x1 hJ1 hs)
       | exact (none_ne hs).elim)
def fs_arena_Table_int_Set : List FK := [.dat (.int .i64), .dat (.int .i64), .row 149 (.pair (.int .i64) (.pair .bool (.pair (.int .i64) .unit)))]
def rk_arena_Table_int_Set : List FK := [.dat (.int .i64)]
def gm_arena_Table_int_Set : (stT fs_arena_Table_int_Set).den → List AV → Option ((stT fs_arena_Table_int_Set).den × (stT rk_arena_Table_int_Set).den) := liftM (.pair (.int .i64) (.pair (.int .i64) .unit)) (fun x a => arena_Table_int_Set x a.1 a.2.1)
theorem cm_arena_Table_int_Set {x : (stT fs_arena_Table_int_Set).den} {vs : List AV} {a : ((.pair (.int .i64) (.pair (.int .i64) .unit)) : Ty).den} {k : (stT fs_arena_Table_int_Set).den → (stT rk_arena_Table_int_Set).den → Prop} {r : (stT fs_arena_Table_int_Set).den × (stT rk_arena_Table_int_Set).den} (h1 : pks (.pair (.int .i64) (.pair (.int .i64) .unit)) vs = some a) (h2 : arena_Table_int_Set x a.1 a.2.1 = some r) (h3 : k r.1 r.2) : callS (gm_arena_Table_int_Set x vs) k := callM_mk h1 h2 h3
def tt_arena_Table_int_Set : List (Nat × Ty) := [(3, .int .i64), (4, .bool), (23, .opq 0), (24, .int .i64), (49, .sl (.pair (.int .i64) (.pair .bool (.pair (.int .i64) .unit)))), (51, .pair (.int .i64) (.pair (.int .i64) (.pair (.sl (.pair (.int .i64) (.pair .bool (.pair (.int .i64) .unit)))) .unit))), (145, .opq 0), (149, .pair (.int .i64) (.pair .bool (.pair (.int .i64) .unit)))]
def et_arena_Table_int_Set : List (Nat × Nat) := [(49, 149)]
theorem tt_arena_Table_int_Set_ok : subT tt tt_arena_Table_int_Set = true := by kernel_rfl
theorem et_arena_Table_int_Set_ok : subE et et_arena_Table_int_Set = true := by kernel_rfl
noncomputable def fns_arena_Table_int_Set : List (Nat × (List AV → Option AV)) := [(107, lf_handle_Slot), (108, lf_handle_Gen)]
theorem fns_arena_Table_int_Set_ok : FnsOk Go.Proofs.Try.prog fns_arena_Table_int_Set := FnsOk.cons c_handle_Slot (FnsOk.cons c_handle_Gen (FnsOk.nil _))
noncomputable def pm_arena_Table_int_Set_75 : List (Nat × Proc) := (75, sumOr fs_arena_Table_int_ok rk_arena_Table_int_ok gm_arena_Table_int_ok noP) :: []
theorem pm_arena_Table_int_Set_75_ok : PrsOk Go.Proofs.Try.prog pm_arena_Table_int_Set_75 := PrsOk.cons (sumOr_con ms_arena_Table_int_ok no_con) (PrsOk.nil _)
def kp_arena_Table_int_Set_74 : List (Nat × List Nat) := [(0, [0, 1]), (1, [0, 1, 10]), (2, [4, 5]), (3, [0, 1, 6]), (4, [0, 1, 6, 23]), (5, [4, 5]), (6, [1, 7]), (7, [7, 43]), (8, [4, 5]), (9, [4, 5])]
def od_arena_Table_int_Set_74 : List (Nat × Ord) := [(7, (.one 0 (.one 1 (.one 2 (.one 3 (.one 4 (.one 5 (.one 6 (.one 7 (.one 8 (.one 9 (.one 10 (.one 11 (.one 12 (.one 13 .nil)))))))))))))))]
noncomputable def E_arena_Table_int_Set_74 : Env := ⟨0, 0, et_arena_Table_int_Set, tt_arena_Table_int_Set, fns_arena_Table_int_Set, pm_arena_Table_int_Set_75, od_arena_Table_int_Set_74, kp_arena_Table_int_Set_74, none, []⟩
noncomputable def pr_arena_Table_int_Set_74 : List (Nat × Proc) := (74, procR E_arena_Table_int_Set_74 45 [.tmp 4, .tmp 5] (bodyOf Try.f74)) :: pm_arena_Table_int_Set_75
theorem pr_arena_Table_int_Set_74_ok : PrsOk Go.Proofs.Try.prog pr_arena_Table_int_Set_74 :=
  PrsOk.cons (proc_conR (E := E_arena_Table_int_Set_74) (EnvC.sub (off := 0) (nt := 0) (ords := od_arena_Table_int_Set_74) (keep := kp_arena_Table_int_Set_74) (yl := none) tt_ok et_ok fns_arena_Table_int_Set_ok (pm_arena_Table_int_Set_75_ok) (ItsOk.nil _) tt_arena_Table_int_Set_ok et_arena_Table_int_Set_ok) (PrOk.of mixed_ok) Go.Proofs.Try.func74 rfl (by decide) rfl rfl) (pm_arena_Table_int_Set_75_ok)
def kp_arena_Table_int_Set : List (Nat × List Nat) := [(0, [0, 1, 2]), (1, [2, 7, 8]), (2, [2, 7, 8, 16]), (3, [8]), (4, [6])]
def od_arena_Table_int_Set : List (Nat × Ord) := []
noncomputable def E_arena_Table_int_Set : Env := ⟨0, 0, et_arena_Table_int_Set, tt_arena_Table_int_Set, fns_arena_Table_int_Set, pr_arena_Table_int_Set_74, od_arena_Table_int_Set, kp_arena_Table_int_Set, none, []⟩
set_option maxRecDepth 100000 in
set_option maxHeartbeats 40000000 in
theorem ms_arena_Table_int_Set : SCon Go.Proofs.Try.prog 22 (sumT fs_arena_Table_int_Set rk_arena_Table_int_Set gm_arena_Table_int_Set) := by
  refine meth_con (T0 := procR E_arena_Table_int_Set 22 [.tmp 6] (bodyOf Try.f22)) rfl rfl rfl (proc_conR (E := E_arena_Table_int_Set) (EnvC.sub (off := 0) (nt := 0) (ords := od_arena_Table_int_Set) (keep := kp_arena_Table_int_Set) (yl := none) tt_ok et_ok fns_arena_Table_int_Set_ok (pr_arena_Table_int_Set_74_ok) (ItsOk.nil _) tt_arena_Table_int_Set_ok et_arena_Table_int_Set_ok) (PrOk.of mixed_ok) Go.Proofs.Try.func22 rfl (by decide) rfl rfl) ?_
  intro x a x' y hs
  repeat'
    (try (conv => whnf)
     first
       | (with_reducible have hs := letv_out hs)
       | (refine draw_and (by kernel_rfl) ?_)
       | (refine both_mk ?_ ?_)
       | (refine br_bool (fun h => ?_) (fun h => ?_) <;> first | have hs := cT h hs | have hs := cF h hs)
       | (refine bind_elim hs fun v hb hs => ?_; first | refine ck_handle_Slot rfl hb ?_ | refine ck_handle_Gen rfl hb ?_ | refine cm_arena_Table_int_ok rfl hb ?_)
       | refine chk_elim hs fun hs => ?_
       | (have hs := letv_out hs)
       | exact fin_m hs rfl rfl rfl rfl rfl rfl rfl rfl
       | (intro b hb; first | have hs := nilq_elim hs b hb | have hs := nilqn_elim hs b hb)
       | (have hs := cT rfl hs)
       | (have hs := cF rfl hs)
       | exact (none_ne hs).elim)
end Go.Proofs.YtiicmhholjpcbaaV
