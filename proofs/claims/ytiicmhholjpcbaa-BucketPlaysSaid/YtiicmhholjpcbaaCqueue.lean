import Derived.Test.YtiicmhholjpcbaaVcTab
import Derived.Test.YtiicmhholjpcbaaDqueue
namespace Go.Proofs.YtiicmhholjpcbaaV
open Go.Proofs
set_option linter.unusedVariables false
def fs_queue_Pool_ok : List FK := [.row 165 (.pair (.int .i64) (.pair (.int .i64) .unit)), .row 79 (.pair (.int .i64) (.pair (.int .i64) (.pair (.int .i64) .unit))), .dat (.pair (.int .i64) (.pair (.int .i64) (.pair (.int .i64) .unit)))]
def rk_queue_Pool_ok : List FK := [.dat .bool]
def gm_queue_Pool_ok : (stT fs_queue_Pool_ok).den → List AV → Option ((stT fs_queue_Pool_ok).den × (stT rk_queue_Pool_ok).den) := liftM .unit (fun x a => queue_Pool_ok x)
theorem cm_queue_Pool_ok {x : (stT fs_queue_Pool_ok).den} {vs : List AV} {a : (.unit : Ty).den} {k : (stT fs_queue_Pool_ok).den → (stT rk_queue_Pool_ok).den → Prop} {r : (stT fs_queue_Pool_ok).den × (stT rk_queue_Pool_ok).den} (h1 : pks .unit vs = some a) (h2 : queue_Pool_ok x = some r) (h3 : k r.1 r.2) : callS (gm_queue_Pool_ok x vs) k := callM_mk h1 h2 h3
def tt_queue_Pool_ok : List (Nat × Ty) := [(3, .int .i64), (4, .bool), (56, .opq 0), (77, .sl (.pair (.int .i64) (.pair (.int .i64) (.pair (.int .i64) .unit)))), (81, .pair (.sl (.pair (.int .i64) (.pair (.int .i64) .unit))) (.pair (.sl (.pair (.int .i64) (.pair (.int .i64) (.pair (.int .i64) .unit)))) (.pair (.pair (.int .i64) (.pair (.int .i64) (.pair (.int .i64) .unit))) .unit)))]
def et_queue_Pool_ok : List (Nat × Nat) := [(77, 79)]
theorem tt_queue_Pool_ok_ok : subT tt tt_queue_Pool_ok = true := by kernel_rfl
theorem et_queue_Pool_ok_ok : subE et et_queue_Pool_ok = true := by kernel_rfl
noncomputable def fns_queue_Pool_ok : List (Nat × (List AV → Option AV)) := []
theorem fns_queue_Pool_ok_ok : FnsOk Go.Proofs.Try.prog fns_queue_Pool_ok := FnsOk.nil _
def kp_queue_Pool_ok : List (Nat × List Nat) := [(0, [0]), (1, [2])]
def od_queue_Pool_ok : List (Nat × Ord) := []
noncomputable def E_queue_Pool_ok : Env := ⟨0, 0, et_queue_Pool_ok, tt_queue_Pool_ok, fns_queue_Pool_ok, [], od_queue_Pool_ok, kp_queue_Pool_ok, none, []⟩
set_option maxRecDepth 100000 in
set_option maxHeartbeats 40000000 in
theorem ms_queue_Pool_ok : SCon Go.Proofs.Try.prog 92 (sumT fs_queue_Pool_ok rk_queue_Pool_ok gm_queue_Pool_ok) := by
  refine meth_con (T0 := procR E_queue_Pool_ok 13 [.tmp 2] (bodyOf Try.f92)) rfl rfl rfl (proc_conR (E := E_queue_Pool_ok) (EnvC.sub (off := 0) (nt := 0) (ords := od_queue_Pool_ok) (keep := kp_queue_Pool_ok) (yl := none) tt_ok et_ok fns_queue_Pool_ok_ok (PrsOk.nil _) (ItsOk.nil _) tt_queue_Pool_ok_ok et_queue_Pool_ok_ok) (PrOk.of mixed_ok) Go.Proofs.Try.func92 rfl (by decide) rfl rfl) ?_
  intro x a x' y hs
  repeat'
    (try (conv => whnf)
     first
       | (with_reducible have hs := letv_out hs)
       | (refine draw_and (by kernel_rfl) ?_)
       | (refine both_mk ?_ ?_)
       | (refine br_bool (fun h => ?_) (fun h => ?_) <;> first | have hs := cT h hs | have hs := cF h hs)
       | refine chk_elim hs fun hs => ?_
       | (have hs := letv_out hs)
       | exact fin_m hs rfl rfl rfl rfl rfl rfl rfl rfl
       | (intro b hb; first | have hs := nilq_elim hs b hb | have hs := nilqn_elim hs b hb)
       | (have hs := cT rfl hs)
       | (have hs := cF rfl hs)
       | exact (none_ne hs).elim)
def fs_queue_Pool_Remove : List FK := [.row 165 (.pair (.int .i64) (.pair (.int .i64) .unit)), .row 79 (.pair (.int .i64) (.pair (.int .i64) (.pair (.int .i64) .unit))), .dat (.pair (.int .i64) (.pair (.int .i64) (.pair (.int .i64) .unit)))]
def rk_queue_Pool_Remove : List FK := [.dat .bool]
def gm_queue_Pool_Remove : (stT fs_queue_Pool_Remove).den → List AV → Option ((stT fs_queue_Pool_Remove).den × (stT rk_queue_Pool_Remove).den) := liftM (.pair (.int .i64) (.pair (.int .i64) .unit)) (fun x a => queue_Pool_Remove x a.1 a.2.1)
theorem cm_queue_Pool_Remove {x : (stT fs_queue_Pool_Remove).den} {vs : List AV} {a : ((.pair (.int .i64) (.pair (.int .i64) .unit)) : Ty).den} {k : (stT fs_queue_Pool_Remove).den → (stT rk_queue_Pool_Remove).den → Prop} {r : (stT fs_queue_Pool_Remove).den × (stT rk_queue_Pool_Remove).den} (h1 : pks (.pair (.int .i64) (.pair (.int .i64) .unit)) vs = some a) (h2 : queue_Pool_Remove x a.1 a.2.1 = some r) (h3 : k r.1 r.2) : callS (gm_queue_Pool_Remove x vs) k := callM_mk h1 h2 h3
def tt_queue_Pool_Remove : List (Nat × Ty) := [(3, .int .i64), (4, .bool), (24, .int .i64), (56, .opq 0), (76, .sl (.pair (.int .i64) (.pair (.int .i64) .unit))), (77, .sl (.pair (.int .i64) (.pair (.int .i64) (.pair (.int .i64) .unit)))), (79, .pair (.int .i64) (.pair (.int .i64) (.pair (.int .i64) .unit))), (81, .pair (.sl (.pair (.int .i64) (.pair (.int .i64) .unit))) (.pair (.sl (.pair (.int .i64) (.pair (.int .i64) (.pair (.int .i64) .unit)))) (.pair (.pair (.int .i64) (.pair (.int .i64) (.pair (.int .i64) .unit))) .unit))), (161, .opq 0), (165, .pair (.int .i64) (.pair (.int .i64) .unit))]
def et_queue_Pool_Remove : List (Nat × Nat) := [(76, 165), (77, 79)]
theorem tt_queue_Pool_Remove_ok : subT tt tt_queue_Pool_Remove = true := by kernel_rfl
theorem et_queue_Pool_Remove_ok : subE et et_queue_Pool_Remove = true := by kernel_rfl
noncomputable def fns_queue_Pool_Remove : List (Nat × (List AV → Option AV)) := []
theorem fns_queue_Pool_Remove_ok : FnsOk Go.Proofs.Try.prog fns_queue_Pool_Remove := FnsOk.nil _
noncomputable def pm_queue_Pool_Remove_92 : List (Nat × Proc) := (92, sumOr fs_queue_Pool_ok rk_queue_Pool_ok gm_queue_Pool_ok noP) :: []
theorem pm_queue_Pool_Remove_92_ok : PrsOk Go.Proofs.Try.prog pm_queue_Pool_Remove_92 := PrsOk.cons (sumOr_con ms_queue_Pool_ok no_con) (PrsOk.nil _)
def kp_queue_Pool_Remove_84 : List (Nat × List Nat) := [(0, [0, 1, 2]), (1, [0, 1, 2, 17]), (2, [1, 2]), (3, [1, 2]), (4, [1]), (5, [])]
def od_queue_Pool_Remove_84 : List (Nat × Ord) := [(3, (.one 0 (.one 1 (.one 2 (.one 3 (.one 4 (.one 5 (.one 6 (.one 7 (.one 8 (.one 9 (.one 10 (.one 100011 .nil)))))))))))))]
noncomputable def E_queue_Pool_Remove_84 : Env := ⟨0, 0, et_queue_Pool_Remove, tt_queue_Pool_Remove, fns_queue_Pool_Remove, pm_queue_Pool_Remove_92, od_queue_Pool_Remove_84, kp_queue_Pool_Remove_84, none, []⟩
noncomputable def pr_queue_Pool_Remove_84 : List (Nat × Proc) := (84, procR E_queue_Pool_Remove_84 44 [] (bodyOf Try.f84)) :: pm_queue_Pool_Remove_92
theorem pr_queue_Pool_Remove_84_ok : PrsOk Go.Proofs.Try.prog pr_queue_Pool_Remove_84 :=
  PrsOk.cons (proc_conR (E := E_queue_Pool_Remove_84) (EnvC.sub (off := 0) (nt := 0) (ords := od_queue_Pool_Remove_84) (keep := kp_queue_Pool_Remove_84) (yl := none) tt_ok et_ok fns_queue_Pool_Remove_ok (pm_queue_Pool_Remove_92_ok) (ItsOk.nil _) tt_queue_Pool_Remove_ok et_queue_Pool_Remove_ok) (PrOk.of mixed_ok) Go.Proofs.Try.func84 rfl (by decide) rfl rfl) (pm_queue_Pool_Remove_92_ok)
def kp_queue_Pool_Remove_85 : List (Nat × List Nat) := [(0, [0, 1]), (1, [0, 1, 6]), (2, [4, 5]), (3, [0, 1, 10]), (4, [4, 5]), (5, [4, 5])]
def od_queue_Pool_Remove_85 : List (Nat × Ord) := []
noncomputable def E_queue_Pool_Remove_85 : Env := ⟨0, 0, et_queue_Pool_Remove, tt_queue_Pool_Remove, fns_queue_Pool_Remove, pr_queue_Pool_Remove_84, od_queue_Pool_Remove_85, kp_queue_Pool_Remove_85, none, []⟩
noncomputable def pr_queue_Pool_Remove_85 : List (Nat × Proc) := (85, procR E_queue_Pool_Remove_85 28 [.tmp 4, .tmp 5] (bodyOf Try.f85)) :: pr_queue_Pool_Remove_84
theorem pr_queue_Pool_Remove_85_ok : PrsOk Go.Proofs.Try.prog pr_queue_Pool_Remove_85 :=
  PrsOk.cons (proc_conR (E := E_queue_Pool_Remove_85) (EnvC.sub (off := 0) (nt := 0) (ords := od_queue_Pool_Remove_85) (keep := kp_queue_Pool_Remove_85) (yl := none) tt_ok et_ok fns_queue_Pool_Remove_ok (pr_queue_Pool_Remove_84_ok) (ItsOk.nil _) tt_queue_Pool_Remove_ok et_queue_Pool_Remove_ok) (PrOk.of mixed_ok) Go.Proofs.Try.func85 rfl (by decide) rfl rfl) (pr_queue_Pool_Remove_84_ok)
def kp_queue_Pool_Remove_86 : List (Nat × List Nat) := [(0, [0, 1, 2]), (1, [0, 1, 2, 7]), (2, [0, 1, 2, 7, 14]), (3, [0, 1, 2, 7]), (4, [0, 1, 2, 7, 8]), (5, [0, 1, 2, 7, 8, 32]), (6, [1, 2, 7]), (7, [1, 2, 7]), (8, [1, 2, 7, 50]), (9, [1, 7]), (10, [7]), (11, [6])]
def od_queue_Pool_Remove_86 : List (Nat × Ord) := []
noncomputable def E_queue_Pool_Remove_86 : Env := ⟨0, 0, et_queue_Pool_Remove, tt_queue_Pool_Remove, fns_queue_Pool_Remove, pr_queue_Pool_Remove_85, od_queue_Pool_Remove_86, kp_queue_Pool_Remove_86, none, []⟩
noncomputable def pr_queue_Pool_Remove_86 : List (Nat × Proc) := (86, procR E_queue_Pool_Remove_86 63 [.tmp 6] (bodyOf Try.f86)) :: pr_queue_Pool_Remove_85
theorem pr_queue_Pool_Remove_86_ok : PrsOk Go.Proofs.Try.prog pr_queue_Pool_Remove_86 :=
  PrsOk.cons (proc_conR (E := E_queue_Pool_Remove_86) (EnvC.sub (off := 0) (nt := 0) (ords := od_queue_Pool_Remove_86) (keep := kp_queue_Pool_Remove_86) (yl := none) tt_ok et_ok fns_queue_Pool_Remove_ok (pr_queue_Pool_Remove_85_ok) (ItsOk.nil _) tt_queue_Pool_Remove_ok et_queue_Pool_Remove_ok) (PrOk.of mixed_ok) Go.Proofs.Try.func86 rfl (by decide) rfl rfl) (pr_queue_Pool_Remove_85_ok)
def queue_Pool_Remove_S1 (u0 : AV) (u1 : AV) (u2 : AV) (B4 : Blk) (B5 : Blk) (B6 : Blk) (x1 : Int × Int) : St :=
  ⟨[(0, u0), (2, u1), (7, u2), (9, .int .i64 x1.1), (10, .int .i64 x1.2)], [(0, B4), (1, B5), (2, B6)], (some ([1, 2], 0))⟩
def queue_Pool_Remove_M1 : Msk := ⟨[0, 2, 7, 9, 10], [0, 1, 2], [], [], [1, 2], [], [], [], []⟩
def queue_Pool_Remove_Q1 (x2 : Int × Int × Int × (List (Int × Int × Unit)) × (List (Int × Int × Int × Unit))) : St :=
  ⟨[], [(0, .var (.pair (.sl (.pair (.int .i64) (.pair (.int .i64) .unit))) (.pair (.sl (.pair (.int .i64) (.pair (.int .i64) (.pair (.int .i64) .unit)))) (.pair (.pair (.int .i64) (.pair (.int .i64) (.pair (.int .i64) .unit))) .unit))) (.agg [.own 1, .own 2, .agg [.int .i64 x2.1, .int .i64 x2.2.1, .int .i64 x2.2.2.1]]) false), (1, .row 165 (.pair (.int .i64) (.pair (.int .i64) .unit)) x2.2.2.2.1 false), (2, .row 79 (.pair (.int .i64) (.pair (.int .i64) (.pair (.int .i64) .unit))) x2.2.2.2.2 false)], (some ([1, 2], 0))⟩
def kp_queue_Pool_Remove : List (Nat × List Nat) := [(0, [0, 1, 2]), (1, [0, 2, 7, 8]), (2, [0, 2, 7, 18]), (3, [6]), (4, [0, 2, 7, 9, 10]), (5, [0, 2, 7, 9, 10, 24]), (6, [6]), (7, [0, 2, 7, 9, 10, 34]), (8, [0, 2, 7, 9, 10]), (9, []), (10, [6]), (5000009, []), (102404000009, [0, 1, 2]), (102406000009, [1, 2])]
def od_queue_Pool_Remove : List (Nat × Ord) := [(4, (.one 0 (.one 1 (.one 2 (.one 3 (.one 4 (.one 5 .nil))))))), (8, (.one 0 (.one 1 (.one 2 (.one 3 (.one 4 (.one 5 (.one 6 (.one 7 (.one 8 (.one 9 (.one 10 .nil)))))))))))), (9, (.one 0 (.one 1 (.one 2 (.one 3 (.one 4 (.one 5 (.one 6 (.one 200007 (.one 200008 .nil))))))))))]
noncomputable def E_queue_Pool_Remove : Env := ⟨0, 0, et_queue_Pool_Remove, tt_queue_Pool_Remove, fns_queue_Pool_Remove, pr_queue_Pool_Remove_86, od_queue_Pool_Remove, kp_queue_Pool_Remove, none, []⟩
set_option maxRecDepth 100000 in
set_option maxHeartbeats 40000000 in
theorem ms_queue_Pool_Remove : SCon Go.Proofs.Try.prog 32 (sumT fs_queue_Pool_Remove rk_queue_Pool_Remove gm_queue_Pool_Remove) := by
  refine meth_con (T0 := procR E_queue_Pool_Remove 53 [.tmp 6] (bodyOf Try.f32)) rfl rfl rfl (proc_conR (E := E_queue_Pool_Remove) (EnvC.sub (off := 0) (nt := 0) (ords := od_queue_Pool_Remove) (keep := kp_queue_Pool_Remove) (yl := none) tt_ok et_ok fns_queue_Pool_Remove_ok (pr_queue_Pool_Remove_86_ok) (ItsOk.nil _) tt_queue_Pool_Remove_ok et_queue_Pool_Remove_ok) (PrOk.of mixed_ok) Go.Proofs.Try.func32 rfl (by decide) rfl rfl) ?_
  intro x a x' y hs
  have hks := True.intro
  have hbs := True.intro
  repeat'
    (try (conv => whnf)
     first
       | (with_reducible have hs := letv_out hs)
       | (refine draw_and (by kernel_rfl) ?_)
       | (refine both_mk ?_ ?_)
       | (refine br_bool (fun h => ?_) (fun h => ?_) <;> first | have hs := cT h hs | have hs := cF h hs)
       | (refine bind_elim hs fun v hb hs => ?_; first | refine cm_queue_Pool_ok rfl hb ?_)
       | refine chk_elim hs fun hs => ?_
       | (have hs := letv_out hs)
       | exact fin_m hs rfl rfl rfl rfl rfl rfl rfl rfl
       | (intro b hb; first | have hs := nilq_elim hs b hb | have hs := nilqn_elim hs b hb)
       | exact hJ1 _ hs
       | exact hC1 _ hs
       | (refine cut_out 1 queue_Pool_Remove_Q1 hs (fun Jc1 kc1 hC1 hs => ?_) (fun xc1 hs => ?_))
       | (have hs := cT rfl hs)
       | (have hs := cF rfl hs)
       | ((with_reducible have hs : loop (queue_Pool_Remove_L1 _ _ _) _ = some _ := hs); refine vc_loopR (queue_Pool_Remove_S1 _ _ _ _ _ _) queue_Pool_Remove_M1 hs rfl ?_; intro J1 k1 x1 hJ1 hs)
       | (refine vc_loopR (queue_Pool_Remove_S1 _ _ _ _ _ _) queue_Pool_Remove_M1 hs rfl ?_; intro J1 k1 x1 hJ1 hs)
       | (refine vc_loop (queue_Pool_Remove_S1 _ _ _ _ _ _) queue_Pool_Remove_M1 hs rfl ?_; intro J1 k1 x1 hJ1 hs)
       | (refine vc_jump (queue_Pool_Remove_S1 _ _ _ _ _ _) queue_Pool_Remove_M1 hs rfl ?_; intro J1 k1 x1 hJ1 hs)
       | (refine And.intro (by first | exact hks.1 | exact hks.2.1 | exact hks.2.2.1 | exact hks.2.2.2.1 | exact hks.2.2.2.2.1 | exact hks.2.2.2.2.2.1 | exact hks.2.2.2.2.2.2.1 | exact hks.2.2.2.2.2.2.2.1) ?_)
       | (obtain ⟨hk, hs⟩ := chk_some hs; have hks := And.intro hk hks)
       | (obtain ⟨vb, hb, hs⟩ := bind_some hs; have hbs := And.intro hb hbs)
       | exact (none_ne hs).elim)
def fs_queue_Pool_First : List FK := [.row 165 (.pair (.int .i64) (.pair (.int .i64) .unit)), .row 79 (.pair (.int .i64) (.pair (.int .i64) (.pair (.int .i64) .unit))), .dat (.pair (.int .i64) (.pair (.int .i64) (.pair (.int .i64) .unit)))]
def rk_queue_Pool_First : List FK := [.dat (.int .i64), .dat (.int .i64)]
def gm_queue_Pool_First : (stT fs_queue_Pool_First).den → List AV → Option ((stT fs_queue_Pool_First).den × (stT rk_queue_Pool_First).den) := liftM (.pair (.int .i64) .unit) (fun x a => queue_Pool_First x a.1)
theorem cm_queue_Pool_First {x : (stT fs_queue_Pool_First).den} {vs : List AV} {a : ((.pair (.int .i64) .unit) : Ty).den} {k : (stT fs_queue_Pool_First).den → (stT rk_queue_Pool_First).den → Prop} {r : (stT fs_queue_Pool_First).den × (stT rk_queue_Pool_First).den} (h1 : pks (.pair (.int .i64) .unit) vs = some a) (h2 : queue_Pool_First x a.1 = some r) (h3 : k r.1 r.2) : callS (gm_queue_Pool_First x vs) k := callM_mk h1 h2 h3
def tt_queue_Pool_First : List (Nat × Ty) := [(3, .int .i64), (4, .bool), (24, .int .i64), (56, .opq 0), (76, .sl (.pair (.int .i64) (.pair (.int .i64) .unit))), (77, .sl (.pair (.int .i64) (.pair (.int .i64) (.pair (.int .i64) .unit)))), (79, .pair (.int .i64) (.pair (.int .i64) (.pair (.int .i64) .unit))), (81, .pair (.sl (.pair (.int .i64) (.pair (.int .i64) .unit))) (.pair (.sl (.pair (.int .i64) (.pair (.int .i64) (.pair (.int .i64) .unit)))) (.pair (.pair (.int .i64) (.pair (.int .i64) (.pair (.int .i64) .unit))) .unit))), (161, .opq 0), (165, .pair (.int .i64) (.pair (.int .i64) .unit))]
def et_queue_Pool_First : List (Nat × Nat) := [(76, 165), (77, 79)]
theorem tt_queue_Pool_First_ok : subT tt tt_queue_Pool_First = true := by kernel_rfl
theorem et_queue_Pool_First_ok : subE et et_queue_Pool_First = true := by kernel_rfl
noncomputable def fns_queue_Pool_First : List (Nat × (List AV → Option AV)) := []
theorem fns_queue_Pool_First_ok : FnsOk Go.Proofs.Try.prog fns_queue_Pool_First := FnsOk.nil _
noncomputable def pm_queue_Pool_First_92 : List (Nat × Proc) := (92, sumOr fs_queue_Pool_ok rk_queue_Pool_ok gm_queue_Pool_ok noP) :: []
theorem pm_queue_Pool_First_92_ok : PrsOk Go.Proofs.Try.prog pm_queue_Pool_First_92 := PrsOk.cons (sumOr_con ms_queue_Pool_ok no_con) (PrsOk.nil _)
def kp_queue_Pool_First_85 : List (Nat × List Nat) := [(0, [0, 1]), (1, [0, 1, 6]), (2, [4, 5]), (3, [0, 1, 10]), (4, [4, 5]), (5, [4, 5])]
def od_queue_Pool_First_85 : List (Nat × Ord) := []
noncomputable def E_queue_Pool_First_85 : Env := ⟨0, 0, et_queue_Pool_First, tt_queue_Pool_First, fns_queue_Pool_First, pm_queue_Pool_First_92, od_queue_Pool_First_85, kp_queue_Pool_First_85, none, []⟩
noncomputable def pr_queue_Pool_First_85 : List (Nat × Proc) := (85, procR E_queue_Pool_First_85 28 [.tmp 4, .tmp 5] (bodyOf Try.f85)) :: pm_queue_Pool_First_92
theorem pr_queue_Pool_First_85_ok : PrsOk Go.Proofs.Try.prog pr_queue_Pool_First_85 :=
  PrsOk.cons (proc_conR (E := E_queue_Pool_First_85) (EnvC.sub (off := 0) (nt := 0) (ords := od_queue_Pool_First_85) (keep := kp_queue_Pool_First_85) (yl := none) tt_ok et_ok fns_queue_Pool_First_ok (pm_queue_Pool_First_92_ok) (ItsOk.nil _) tt_queue_Pool_First_ok et_queue_Pool_First_ok) (PrOk.of mixed_ok) Go.Proofs.Try.func85 rfl (by decide) rfl rfl) (pm_queue_Pool_First_92_ok)
def kp_queue_Pool_First : List (Nat × List Nat) := [(0, [0, 1]), (1, [0, 6, 7]), (2, [0, 6, 7, 14]), (3, [4, 5]), (4, [0, 6, 18]), (5, [4, 5]), (6, [4, 5])]
def od_queue_Pool_First : List (Nat × Ord) := [(6, (.one 0 (.one 1 (.one 2 (.one 3 (.one 4 (.one 5 (.one 6 (.one 7 (.one 8 (.one 9 (.one 10 (.one 11 (.one 12 .nil))))))))))))))]
noncomputable def E_queue_Pool_First : Env := ⟨0, 0, et_queue_Pool_First, tt_queue_Pool_First, fns_queue_Pool_First, pr_queue_Pool_First_85, od_queue_Pool_First, kp_queue_Pool_First, none, []⟩
set_option maxRecDepth 100000 in
set_option maxHeartbeats 40000000 in
theorem ms_queue_Pool_First : SCon Go.Proofs.Try.prog 40 (sumT fs_queue_Pool_First rk_queue_Pool_First gm_queue_Pool_First) := by
  refine meth_con (T0 := procR E_queue_Pool_First 35 [.tmp 4, .tmp 5] (bodyOf Try.f40)) rfl rfl rfl (proc_conR (E := E_queue_Pool_First) (EnvC.sub (off := 0) (nt := 0) (ords := od_queue_Pool_First) (keep := kp_queue_Pool_First) (yl := none) tt_ok et_ok fns_queue_Pool_First_ok (pr_queue_Pool_First_85_ok) (ItsOk.nil _) tt_queue_Pool_First_ok et_queue_Pool_First_ok) (PrOk.of mixed_ok) Go.Proofs.Try.func40 rfl (by decide) rfl rfl) ?_
  intro x a x' y hs
  repeat'
    (try (conv => whnf)
     first
       | (with_reducible have hs := letv_out hs)
       | (refine draw_and (by kernel_rfl) ?_)
       | (refine both_mk ?_ ?_)
       | (refine br_bool (fun h => ?_) (fun h => ?_) <;> first | have hs := cT h hs | have hs := cF h hs)
       | (refine bind_elim hs fun v hb hs => ?_; first | refine cm_queue_Pool_ok rfl hb ?_)
       | refine chk_elim hs fun hs => ?_
       | (have hs := letv_out hs)
       | exact fin_m hs rfl rfl rfl rfl rfl rfl rfl rfl
       | (intro b hb; first | have hs := nilq_elim hs b hb | have hs := nilqn_elim hs b hb)
       | (have hs := cT rfl hs)
       | (have hs := cF rfl hs)
       | exact (none_ne hs).elim)
def fs_queue_Pool_Pop : List FK := [.row 165 (.pair (.int .i64) (.pair (.int .i64) .unit)), .row 79 (.pair (.int .i64) (.pair (.int .i64) (.pair (.int .i64) .unit))), .dat (.pair (.int .i64) (.pair (.int .i64) (.pair (.int .i64) .unit)))]
def rk_queue_Pool_Pop : List FK := [.dat (.int .i64), .dat (.int .i64)]
def gm_queue_Pool_Pop : (stT fs_queue_Pool_Pop).den → List AV → Option ((stT fs_queue_Pool_Pop).den × (stT rk_queue_Pool_Pop).den) := liftM (.pair (.int .i64) .unit) (fun x a => queue_Pool_Pop x a.1)
theorem cm_queue_Pool_Pop {x : (stT fs_queue_Pool_Pop).den} {vs : List AV} {a : ((.pair (.int .i64) .unit) : Ty).den} {k : (stT fs_queue_Pool_Pop).den → (stT rk_queue_Pool_Pop).den → Prop} {r : (stT fs_queue_Pool_Pop).den × (stT rk_queue_Pool_Pop).den} (h1 : pks (.pair (.int .i64) .unit) vs = some a) (h2 : queue_Pool_Pop x a.1 = some r) (h3 : k r.1 r.2) : callS (gm_queue_Pool_Pop x vs) k := callM_mk h1 h2 h3
def tt_queue_Pool_Pop : List (Nat × Ty) := [(3, .int .i64), (24, .int .i64), (56, .opq 0), (76, .sl (.pair (.int .i64) (.pair (.int .i64) .unit))), (77, .sl (.pair (.int .i64) (.pair (.int .i64) (.pair (.int .i64) .unit)))), (79, .pair (.int .i64) (.pair (.int .i64) (.pair (.int .i64) .unit))), (81, .pair (.sl (.pair (.int .i64) (.pair (.int .i64) .unit))) (.pair (.sl (.pair (.int .i64) (.pair (.int .i64) (.pair (.int .i64) .unit)))) (.pair (.pair (.int .i64) (.pair (.int .i64) (.pair (.int .i64) .unit))) .unit))), (161, .opq 0), (165, .pair (.int .i64) (.pair (.int .i64) .unit))]
def et_queue_Pool_Pop : List (Nat × Nat) := [(76, 165), (77, 79)]
theorem tt_queue_Pool_Pop_ok : subT tt tt_queue_Pool_Pop = true := by kernel_rfl
theorem et_queue_Pool_Pop_ok : subE et et_queue_Pool_Pop = true := by kernel_rfl
noncomputable def fns_queue_Pool_Pop : List (Nat × (List AV → Option AV)) := []
theorem fns_queue_Pool_Pop_ok : FnsOk Go.Proofs.Try.prog fns_queue_Pool_Pop := FnsOk.nil _
noncomputable def pm_queue_Pool_Pop_40 : List (Nat × Proc) := (40, sumOr fs_queue_Pool_First rk_queue_Pool_First gm_queue_Pool_First noP) :: []
theorem pm_queue_Pool_Pop_40_ok : PrsOk Go.Proofs.Try.prog pm_queue_Pool_Pop_40 := PrsOk.cons (sumOr_con ms_queue_Pool_First no_con) (PrsOk.nil _)
def kp_queue_Pool_Pop_84 : List (Nat × List Nat) := [(0, [0, 1, 2]), (1, [0, 1, 2, 17]), (2, [1, 2]), (3, [1, 2]), (4, [1]), (5, [])]
def od_queue_Pool_Pop_84 : List (Nat × Ord) := [(3, (.one 0 (.one 1 (.one 2 (.one 3 (.one 4 (.one 5 (.one 6 (.one 7 (.one 8 (.one 9 (.one 10 (.one 100011 .nil)))))))))))))]
noncomputable def E_queue_Pool_Pop_84 : Env := ⟨0, 0, et_queue_Pool_Pop, tt_queue_Pool_Pop, fns_queue_Pool_Pop, pm_queue_Pool_Pop_40, od_queue_Pool_Pop_84, kp_queue_Pool_Pop_84, none, []⟩
noncomputable def pr_queue_Pool_Pop_84 : List (Nat × Proc) := (84, procR E_queue_Pool_Pop_84 44 [] (bodyOf Try.f84)) :: pm_queue_Pool_Pop_40
theorem pr_queue_Pool_Pop_84_ok : PrsOk Go.Proofs.Try.prog pr_queue_Pool_Pop_84 :=
  PrsOk.cons (proc_conR (E := E_queue_Pool_Pop_84) (EnvC.sub (off := 0) (nt := 0) (ords := od_queue_Pool_Pop_84) (keep := kp_queue_Pool_Pop_84) (yl := none) tt_ok et_ok fns_queue_Pool_Pop_ok (pm_queue_Pool_Pop_40_ok) (ItsOk.nil _) tt_queue_Pool_Pop_ok et_queue_Pool_Pop_ok) (PrOk.of mixed_ok) Go.Proofs.Try.func84 rfl (by decide) rfl rfl) (pm_queue_Pool_Pop_40_ok)
def kp_queue_Pool_Pop_86 : List (Nat × List Nat) := [(0, [0, 1, 2]), (1, [0, 1, 2, 7]), (2, [0, 1, 2, 7, 14]), (3, [0, 1, 2, 7]), (4, [0, 1, 2, 7, 8]), (5, [0, 1, 2, 7, 8, 32]), (6, [1, 2, 7]), (7, [1, 2, 7]), (8, [1, 2, 7, 50]), (9, [1, 7]), (10, [7]), (11, [6])]
def od_queue_Pool_Pop_86 : List (Nat × Ord) := []
noncomputable def E_queue_Pool_Pop_86 : Env := ⟨0, 0, et_queue_Pool_Pop, tt_queue_Pool_Pop, fns_queue_Pool_Pop, pr_queue_Pool_Pop_84, od_queue_Pool_Pop_86, kp_queue_Pool_Pop_86, none, []⟩
noncomputable def pr_queue_Pool_Pop_86 : List (Nat × Proc) := (86, procR E_queue_Pool_Pop_86 63 [.tmp 6] (bodyOf Try.f86)) :: pr_queue_Pool_Pop_84
theorem pr_queue_Pool_Pop_86_ok : PrsOk Go.Proofs.Try.prog pr_queue_Pool_Pop_86 :=
  PrsOk.cons (proc_conR (E := E_queue_Pool_Pop_86) (EnvC.sub (off := 0) (nt := 0) (ords := od_queue_Pool_Pop_86) (keep := kp_queue_Pool_Pop_86) (yl := none) tt_ok et_ok fns_queue_Pool_Pop_ok (pr_queue_Pool_Pop_84_ok) (ItsOk.nil _) tt_queue_Pool_Pop_ok et_queue_Pool_Pop_ok) (PrOk.of mixed_ok) Go.Proofs.Try.func86 rfl (by decide) rfl rfl) (pr_queue_Pool_Pop_84_ok)
def queue_Pool_Pop_Q1 (x1 : Int × Int × Int × Int × (List (Int × Int × Unit)) × (List (Int × Int × Int × Unit))) : St :=
  ⟨[(6, .int .i64 x1.1)], [(0, .var (.pair (.sl (.pair (.int .i64) (.pair (.int .i64) .unit))) (.pair (.sl (.pair (.int .i64) (.pair (.int .i64) (.pair (.int .i64) .unit)))) (.pair (.pair (.int .i64) (.pair (.int .i64) (.pair (.int .i64) .unit))) .unit))) (.agg [.own 1, .own 2, .agg [.int .i64 x1.2.1, .int .i64 x1.2.2.1, .int .i64 x1.2.2.2.1]]) false), (1, .row 165 (.pair (.int .i64) (.pair (.int .i64) .unit)) x1.2.2.2.2.1 false), (2, .row 79 (.pair (.int .i64) (.pair (.int .i64) (.pair (.int .i64) .unit))) x1.2.2.2.2.2 false)], (some ([1, 2], 0))⟩
def kp_queue_Pool_Pop : List (Nat × List Nat) := [(0, [0, 1]), (1, [0, 1, 6, 7]), (2, [0, 1, 6, 7, 15]), (3, [4, 5]), (4, [6]), (5, [4, 5]), (5000004, []), (102404000004, [0, 1, 2]), (102406000004, [1, 2])]
def od_queue_Pool_Pop : List (Nat × Ord) := [(4, (.one 0 (.one 1 (.one 2 (.one 3 (.one 4 (.one 5 (.one 6 (.one 7 (.one 9 (.one 200008 (.one 10 (.one 200011 (.one 200012 .nil))))))))))))))]
noncomputable def E_queue_Pool_Pop : Env := ⟨0, 0, et_queue_Pool_Pop, tt_queue_Pool_Pop, fns_queue_Pool_Pop, pr_queue_Pool_Pop_86, od_queue_Pool_Pop, kp_queue_Pool_Pop, none, []⟩
set_option maxRecDepth 100000 in
set_option maxHeartbeats 40000000 in
theorem ms_queue_Pool_Pop : SCon Go.Proofs.Try.prog 34 (sumT fs_queue_Pool_Pop rk_queue_Pool_Pop gm_queue_Pool_Pop) := by
  refine meth_con (T0 := procR E_queue_Pool_Pop 31 [.tmp 4, .tmp 5] (bodyOf Try.f34)) rfl rfl rfl (proc_conR (E := E_queue_Pool_Pop) (EnvC.sub (off := 0) (nt := 0) (ords := od_queue_Pool_Pop) (keep := kp_queue_Pool_Pop) (yl := none) tt_ok et_ok fns_queue_Pool_Pop_ok (pr_queue_Pool_Pop_86_ok) (ItsOk.nil _) tt_queue_Pool_Pop_ok et_queue_Pool_Pop_ok) (PrOk.of mixed_ok) Go.Proofs.Try.func34 rfl (by decide) rfl rfl) ?_
  intro x a x' y hs
  have hks := True.intro
  have hbs := True.intro
  repeat'
    (try (conv => whnf)
     first
       | (with_reducible have hs := letv_out hs)
       | (refine draw_and (by kernel_rfl) ?_)
       | (refine both_mk ?_ ?_)
       | (refine br_bool (fun h => ?_) (fun h => ?_) <;> first | have hs := cT h hs | have hs := cF h hs)
       | (refine bind_elim hs fun v hb hs => ?_; first | refine cm_queue_Pool_First rfl hb ?_)
       | refine chk_elim hs fun hs => ?_
       | (have hs := letv_out hs)
       | exact fin_m hs rfl rfl rfl rfl rfl rfl rfl rfl
       | (intro b hb; first | have hs := nilq_elim hs b hb | have hs := nilqn_elim hs b hb)
       | exact hC1 _ hs
       | (refine cut_out 1 queue_Pool_Pop_Q1 hs (fun Jc1 kc1 hC1 hs => ?_) (fun xc1 hs => ?_))
       | (have hs := cT rfl hs)
       | (have hs := cF rfl hs)
       | (refine And.intro (by first | exact hks.1 | exact hks.2.1 | exact hks.2.2.1 | exact hks.2.2.2.1 | exact hks.2.2.2.2.1 | exact hks.2.2.2.2.2.1 | exact hks.2.2.2.2.2.2.1 | exact hks.2.2.2.2.2.2.2.1) ?_)
       | (obtain ⟨hk, hs⟩ := chk_some hs; have hks := And.intro hk hks)
       | (obtain ⟨vb, hb, hs⟩ := bind_some hs; have hbs := And.intro hb hbs)
       | exact (none_ne hs).elim)
def fs_queue_Pool_Push : List FK := [.row 165 (.pair (.int .i64) (.pair (.int .i64) .unit)), .row 79 (.pair (.int .i64) (.pair (.int .i64) (.pair (.int .i64) .unit))), .dat (.pair (.int .i64) (.pair (.int .i64) (.pair (.int .i64) .unit)))]
def rk_queue_Pool_Push : List FK := [.dat (.int .i64)]
def gm_queue_Pool_Push : (stT fs_queue_Pool_Push).den → List AV → Option ((stT fs_queue_Pool_Push).den × (stT rk_queue_Pool_Push).den) := liftM (.pair (.int .i64) (.pair (.int .i64) .unit)) (fun x a => queue_Pool_Push x a.1 a.2.1)
theorem cm_queue_Pool_Push {x : (stT fs_queue_Pool_Push).den} {vs : List AV} {a : ((.pair (.int .i64) (.pair (.int .i64) .unit)) : Ty).den} {k : (stT fs_queue_Pool_Push).den → (stT rk_queue_Pool_Push).den → Prop} {r : (stT fs_queue_Pool_Push).den × (stT rk_queue_Pool_Push).den} (h1 : pks (.pair (.int .i64) (.pair (.int .i64) .unit)) vs = some a) (h2 : queue_Pool_Push x a.1 a.2.1 = some r) (h3 : k r.1 r.2) : callS (gm_queue_Pool_Push x vs) k := callM_mk h1 h2 h3
def tt_queue_Pool_Push : List (Nat × Ty) := [(3, .int .i64), (4, .bool), (24, .int .i64), (56, .opq 0), (76, .sl (.pair (.int .i64) (.pair (.int .i64) .unit))), (77, .sl (.pair (.int .i64) (.pair (.int .i64) (.pair (.int .i64) .unit)))), (79, .pair (.int .i64) (.pair (.int .i64) (.pair (.int .i64) .unit))), (81, .pair (.sl (.pair (.int .i64) (.pair (.int .i64) .unit))) (.pair (.sl (.pair (.int .i64) (.pair (.int .i64) (.pair (.int .i64) .unit)))) (.pair (.pair (.int .i64) (.pair (.int .i64) (.pair (.int .i64) .unit))) .unit))), (161, .opq 0), (165, .pair (.int .i64) (.pair (.int .i64) .unit))]
def et_queue_Pool_Push : List (Nat × Nat) := [(76, 165), (77, 79)]
theorem tt_queue_Pool_Push_ok : subT tt tt_queue_Pool_Push = true := by kernel_rfl
theorem et_queue_Pool_Push_ok : subE et et_queue_Pool_Push = true := by kernel_rfl
noncomputable def fns_queue_Pool_Push : List (Nat × (List AV → Option AV)) := []
theorem fns_queue_Pool_Push_ok : FnsOk Go.Proofs.Try.prog fns_queue_Pool_Push := FnsOk.nil _
noncomputable def pm_queue_Pool_Push_92 : List (Nat × Proc) := (92, sumOr fs_queue_Pool_ok rk_queue_Pool_ok gm_queue_Pool_ok noP) :: []
theorem pm_queue_Pool_Push_92_ok : PrsOk Go.Proofs.Try.prog pm_queue_Pool_Push_92 := PrsOk.cons (sumOr_con ms_queue_Pool_ok no_con) (PrsOk.nil _)
def kp_queue_Pool_Push_84 : List (Nat × List Nat) := [(0, [0, 1, 2]), (1, [0, 1, 2, 17]), (2, [1, 2]), (3, [1, 2]), (4, [1]), (5, [])]
def od_queue_Pool_Push_84 : List (Nat × Ord) := [(3, (.one 0 (.one 1 (.one 2 (.one 3 (.one 4 (.one 5 (.one 6 (.one 7 (.one 8 (.one 9 (.one 10 (.one 100011 .nil)))))))))))))]
noncomputable def E_queue_Pool_Push_84 : Env := ⟨0, 0, et_queue_Pool_Push, tt_queue_Pool_Push, fns_queue_Pool_Push, pm_queue_Pool_Push_92, od_queue_Pool_Push_84, kp_queue_Pool_Push_84, none, []⟩
noncomputable def pr_queue_Pool_Push_84 : List (Nat × Proc) := (84, procR E_queue_Pool_Push_84 44 [] (bodyOf Try.f84)) :: pm_queue_Pool_Push_92
theorem pr_queue_Pool_Push_84_ok : PrsOk Go.Proofs.Try.prog pr_queue_Pool_Push_84 :=
  PrsOk.cons (proc_conR (E := E_queue_Pool_Push_84) (EnvC.sub (off := 0) (nt := 0) (ords := od_queue_Pool_Push_84) (keep := kp_queue_Pool_Push_84) (yl := none) tt_ok et_ok fns_queue_Pool_Push_ok (pm_queue_Pool_Push_92_ok) (ItsOk.nil _) tt_queue_Pool_Push_ok et_queue_Pool_Push_ok) (PrOk.of mixed_ok) Go.Proofs.Try.func84 rfl (by decide) rfl rfl) (pm_queue_Pool_Push_92_ok)
def kp_queue_Pool_Push_85 : List (Nat × List Nat) := [(0, [0, 1]), (1, [0, 1, 6]), (2, [4, 5]), (3, [0, 1, 10]), (4, [4, 5]), (5, [4, 5])]
def od_queue_Pool_Push_85 : List (Nat × Ord) := []
noncomputable def E_queue_Pool_Push_85 : Env := ⟨0, 0, et_queue_Pool_Push, tt_queue_Pool_Push, fns_queue_Pool_Push, pr_queue_Pool_Push_84, od_queue_Pool_Push_85, kp_queue_Pool_Push_85, none, []⟩
noncomputable def pr_queue_Pool_Push_85 : List (Nat × Proc) := (85, procR E_queue_Pool_Push_85 28 [.tmp 4, .tmp 5] (bodyOf Try.f85)) :: pr_queue_Pool_Push_84
theorem pr_queue_Pool_Push_85_ok : PrsOk Go.Proofs.Try.prog pr_queue_Pool_Push_85 :=
  PrsOk.cons (proc_conR (E := E_queue_Pool_Push_85) (EnvC.sub (off := 0) (nt := 0) (ords := od_queue_Pool_Push_85) (keep := kp_queue_Pool_Push_85) (yl := none) tt_ok et_ok fns_queue_Pool_Push_ok (pr_queue_Pool_Push_84_ok) (ItsOk.nil _) tt_queue_Pool_Push_ok et_queue_Pool_Push_ok) (PrOk.of mixed_ok) Go.Proofs.Try.func85 rfl (by decide) rfl rfl) (pr_queue_Pool_Push_84_ok)
def kp_queue_Pool_Push_86 : List (Nat × List Nat) := [(0, [0, 1, 2]), (1, [0, 1, 2, 7]), (2, [0, 1, 2, 7, 14]), (3, [0, 1, 2, 7]), (4, [0, 1, 2, 7, 8]), (5, [0, 1, 2, 7, 8, 32]), (6, [1, 2, 7]), (7, [1, 2, 7]), (8, [1, 2, 7, 50]), (9, [1, 7]), (10, [7]), (11, [6])]
def od_queue_Pool_Push_86 : List (Nat × Ord) := []
noncomputable def E_queue_Pool_Push_86 : Env := ⟨0, 0, et_queue_Pool_Push, tt_queue_Pool_Push, fns_queue_Pool_Push, pr_queue_Pool_Push_85, od_queue_Pool_Push_86, kp_queue_Pool_Push_86, none, []⟩
noncomputable def pr_queue_Pool_Push_86 : List (Nat × Proc) := (86, procR E_queue_Pool_Push_86 63 [.tmp 6] (bodyOf Try.f86)) :: pr_queue_Pool_Push_85
theorem pr_queue_Pool_Push_86_ok : PrsOk Go.Proofs.Try.prog pr_queue_Pool_Push_86 :=
  PrsOk.cons (proc_conR (E := E_queue_Pool_Push_86) (EnvC.sub (off := 0) (nt := 0) (ords := od_queue_Pool_Push_86) (keep := kp_queue_Pool_Push_86) (yl := none) tt_ok et_ok fns_queue_Pool_Push_ok (pr_queue_Pool_Push_85_ok) (ItsOk.nil _) tt_queue_Pool_Push_ok et_queue_Pool_Push_ok) (PrOk.of mixed_ok) Go.Proofs.Try.func86 rfl (by decide) rfl rfl) (pr_queue_Pool_Push_85_ok)
def queue_Pool_Push_Q1 (x1 : Int × Int × Int × Int × Int × Int × (List (Int × Int × Unit)) × (List (Int × Int × Int × Unit))) : St :=
  ⟨[(0, .ptr 0 []), (2, .int .i64 x1.1), (7, .ptr 2 [.at x1.2.1]), (9, .dead), (31, .int .i64 x1.2.2.1)], [(0, .var (.pair (.sl (.pair (.int .i64) (.pair (.int .i64) .unit))) (.pair (.sl (.pair (.int .i64) (.pair (.int .i64) (.pair (.int .i64) .unit)))) (.pair (.pair (.int .i64) (.pair (.int .i64) (.pair (.int .i64) .unit))) .unit))) (.agg [.own 1, .own 2, .agg [.int .i64 x1.2.2.2.1, .int .i64 x1.2.2.2.2.1, .int .i64 x1.2.2.2.2.2.1]]) false), (1, .row 165 (.pair (.int .i64) (.pair (.int .i64) .unit)) x1.2.2.2.2.2.2.1 false), (2, .row 79 (.pair (.int .i64) (.pair (.int .i64) (.pair (.int .i64) .unit))) x1.2.2.2.2.2.2.2 false)], (some ([1, 2], 0))⟩
def queue_Pool_Push_Q2 (x2 : Int × Int × Int × (List (Int × Int × Unit)) × (List (Int × Int × Int × Unit))) : St :=
  ⟨[(43, .tup [])], [(0, .var (.pair (.sl (.pair (.int .i64) (.pair (.int .i64) .unit))) (.pair (.sl (.pair (.int .i64) (.pair (.int .i64) (.pair (.int .i64) .unit)))) (.pair (.pair (.int .i64) (.pair (.int .i64) (.pair (.int .i64) .unit))) .unit))) (.agg [.own 1, .own 2, .agg [.int .i64 x2.1, .int .i64 x2.2.1, .int .i64 x2.2.2.1]]) false), (1, .row 165 (.pair (.int .i64) (.pair (.int .i64) .unit)) x2.2.2.2.1 false), (2, .row 79 (.pair (.int .i64) (.pair (.int .i64) (.pair (.int .i64) .unit))) x2.2.2.2.2 false)], (some ([1, 2], 0))⟩
def kp_queue_Pool_Push : List (Nat × List Nat) := [(0, [0, 1, 2]), (1, [0, 2, 7, 8]), (2, [0, 2, 7, 8, 16]), (3, [6]), (4, [0, 2, 7, 20]), (5, [6]), (6, [0, 2, 7, 9]), (7, [0, 7, 9]), (8, []), (9, [6]), (25000031, []), (20000031, [0, 2, 7, 9, 31]), (25000043, []), (20000043, [43]), (102424000031, [0, 1, 2]), (102426000031, [1, 2]), (102424000043, [0, 1, 2]), (102426000043, [1, 2])]
def od_queue_Pool_Push : List (Nat × Ord) := []
noncomputable def E_queue_Pool_Push : Env := ⟨0, 0, et_queue_Pool_Push, tt_queue_Pool_Push, fns_queue_Pool_Push, pr_queue_Pool_Push_86, od_queue_Pool_Push, kp_queue_Pool_Push, none, []⟩
set_option maxRecDepth 100000 in
set_option maxHeartbeats 40000000 in
theorem ms_queue_Pool_Push : SCon Go.Proofs.Try.prog 36 (sumT fs_queue_Pool_Push rk_queue_Pool_Push gm_queue_Pool_Push) := by
  refine meth_con (T0 := procR E_queue_Pool_Push 44 [.tmp 6] (bodyOf Try.f36)) rfl rfl rfl (proc_conR (E := E_queue_Pool_Push) (EnvC.sub (off := 0) (nt := 0) (ords := od_queue_Pool_Push) (keep := kp_queue_Pool_Push) (yl := none) tt_ok et_ok fns_queue_Pool_Push_ok (pr_queue_Pool_Push_86_ok) (ItsOk.nil _) tt_queue_Pool_Push_ok et_queue_Pool_Push_ok) (PrOk.of mixed_ok) Go.Proofs.Try.func36 rfl (by decide) rfl rfl) ?_
  intro x a x' y hs
  repeat'
    (try (conv => whnf)
     first
       | (with_reducible have hs := letv_out hs)
       | (refine draw_and (by kernel_rfl) ?_)
       | (refine both_mk ?_ ?_)
       | (refine br_bool (fun h => ?_) (fun h => ?_) <;> first | have hs := cT h hs | have hs := cF h hs)
       | (refine bind_elim hs fun v hb hs => ?_; first | refine cm_queue_Pool_ok rfl hb ?_)
       | refine chk_elim hs fun hs => ?_
       | (have hs := letv_out hs)
       | exact fin_m hs rfl rfl rfl rfl rfl rfl rfl rfl
       | (intro b hb; first | have hs := nilq_elim hs b hb | have hs := nilqn_elim hs b hb)
       | exact hC1 _ hs
       | exact hC2 _ hs
       | (refine cut_out 1 queue_Pool_Push_Q1 hs (fun Jc1 kc1 hC1 hs => ?_) (fun xc1 hs => ?_))
       | (refine cut_out 2 queue_Pool_Push_Q2 hs (fun Jc2 kc2 hC2 hs => ?_) (fun xc2 hs => ?_))
       | (have hs := cT rfl hs)
       | (have hs := cF rfl hs)
       | exact (none_ne hs).elim)
def fs_queue_Pool_Free : List FK := [.row 165 (.pair (.int .i64) (.pair (.int .i64) .unit)), .row 79 (.pair (.int .i64) (.pair (.int .i64) (.pair (.int .i64) .unit))), .dat (.pair (.int .i64) (.pair (.int .i64) (.pair (.int .i64) .unit)))]
def rk_queue_Pool_Free : List FK := [.dat (.int .i64)]
def gm_queue_Pool_Free : (stT fs_queue_Pool_Free).den → List AV → Option ((stT fs_queue_Pool_Free).den × (stT rk_queue_Pool_Free).den) := liftM .unit (fun x a => queue_Pool_Free x)
theorem cm_queue_Pool_Free {x : (stT fs_queue_Pool_Free).den} {vs : List AV} {a : (.unit : Ty).den} {k : (stT fs_queue_Pool_Free).den → (stT rk_queue_Pool_Free).den → Prop} {r : (stT fs_queue_Pool_Free).den × (stT rk_queue_Pool_Free).den} (h1 : pks .unit vs = some a) (h2 : queue_Pool_Free x = some r) (h3 : k r.1 r.2) : callS (gm_queue_Pool_Free x vs) k := callM_mk h1 h2 h3
def tt_queue_Pool_Free : List (Nat × Ty) := [(3, .int .i64), (4, .bool), (56, .opq 0), (79, .pair (.int .i64) (.pair (.int .i64) (.pair (.int .i64) .unit))), (81, .pair (.sl (.pair (.int .i64) (.pair (.int .i64) .unit))) (.pair (.sl (.pair (.int .i64) (.pair (.int .i64) (.pair (.int .i64) .unit)))) (.pair (.pair (.int .i64) (.pair (.int .i64) (.pair (.int .i64) .unit))) .unit)))]
def et_queue_Pool_Free : List (Nat × Nat) := []
theorem tt_queue_Pool_Free_ok : subT tt tt_queue_Pool_Free = true := by kernel_rfl
theorem et_queue_Pool_Free_ok : subE et et_queue_Pool_Free = true := by kernel_rfl
noncomputable def fns_queue_Pool_Free : List (Nat × (List AV → Option AV)) := []
theorem fns_queue_Pool_Free_ok : FnsOk Go.Proofs.Try.prog fns_queue_Pool_Free := FnsOk.nil _
noncomputable def pm_queue_Pool_Free_92 : List (Nat × Proc) := (92, sumOr fs_queue_Pool_ok rk_queue_Pool_ok gm_queue_Pool_ok noP) :: []
theorem pm_queue_Pool_Free_92_ok : PrsOk Go.Proofs.Try.prog pm_queue_Pool_Free_92 := PrsOk.cons (sumOr_con ms_queue_Pool_ok no_con) (PrsOk.nil _)
def kp_queue_Pool_Free : List (Nat × List Nat) := [(0, [0]), (1, [0, 5]), (2, [2]), (3, [2])]
def od_queue_Pool_Free : List (Nat × Ord) := []
noncomputable def E_queue_Pool_Free : Env := ⟨0, 0, et_queue_Pool_Free, tt_queue_Pool_Free, fns_queue_Pool_Free, pm_queue_Pool_Free_92, od_queue_Pool_Free, kp_queue_Pool_Free, none, []⟩
set_option maxRecDepth 100000 in
set_option maxHeartbeats 40000000 in
theorem ms_queue_Pool_Free : SCon Go.Proofs.Try.prog 39 (sumT fs_queue_Pool_Free rk_queue_Pool_Free gm_queue_Pool_Free) := by
  refine meth_con (T0 := procR E_queue_Pool_Free 11 [.tmp 2] (bodyOf Try.f39)) rfl rfl rfl (proc_conR (E := E_queue_Pool_Free) (EnvC.sub (off := 0) (nt := 0) (ords := od_queue_Pool_Free) (keep := kp_queue_Pool_Free) (yl := none) tt_ok et_ok fns_queue_Pool_Free_ok (pm_queue_Pool_Free_92_ok) (ItsOk.nil _) tt_queue_Pool_Free_ok et_queue_Pool_Free_ok) (PrOk.of mixed_ok) Go.Proofs.Try.func39 rfl (by decide) rfl rfl) ?_
  intro x a x' y hs
  repeat'
    (try (conv => whnf)
     first
       | (with_reducible have hs := letv_out hs)
       | (refine draw_and (by kernel_rfl) ?_)
       | (refine both_mk ?_ ?_)
       | (refine br_bool (fun h => ?_) (fun h => ?_) <;> first | have hs := cT h hs | have hs := cF h hs)
       | (refine bind_elim hs fun v hb hs => ?_; first | refine cm_queue_Pool_ok rfl hb ?_)
       | refine chk_elim hs fun hs => ?_
       | (have hs := letv_out hs)
       | exact fin_m hs rfl rfl rfl rfl rfl rfl rfl rfl
       | (intro b hb; first | have hs := nilq_elim hs b hb | have hs := nilqn_elim hs b hb)
       | (have hs := cT rfl hs)
       | (have hs := cF rfl hs)
       | exact (none_ne hs).elim)
def fs_queue_Pool_List : List FK := [.row 165 (.pair (.int .i64) (.pair (.int .i64) .unit)), .row 79 (.pair (.int .i64) (.pair (.int .i64) (.pair (.int .i64) .unit))), .dat (.pair (.int .i64) (.pair (.int .i64) (.pair (.int .i64) .unit)))]
def rk_queue_Pool_List : List FK := [.row 3 (.int .i64)]
def gm_queue_Pool_List : (stT fs_queue_Pool_List).den → List AV → Option ((stT fs_queue_Pool_List).den × (stT rk_queue_Pool_List).den) := liftM (.pair (.int .i64) .unit) (fun x a => queue_Pool_List x a.1)
theorem cm_queue_Pool_List {x : (stT fs_queue_Pool_List).den} {vs : List AV} {a : ((.pair (.int .i64) .unit) : Ty).den} {k : (stT fs_queue_Pool_List).den → (stT rk_queue_Pool_List).den → Prop} {r : (stT fs_queue_Pool_List).den × (stT rk_queue_Pool_List).den} (h1 : pks (.pair (.int .i64) .unit) vs = some a) (h2 : queue_Pool_List x a.1 = some r) (h3 : k r.1 r.2) : callS (gm_queue_Pool_List x vs) k := callM_mk h1 h2 h3
def tt_queue_Pool_List : List (Nat × Ty) := [(3, .int .i64), (4, .bool), (24, .int .i64), (36, .sl (.int .i64)), (56, .opq 0), (76, .sl (.pair (.int .i64) (.pair (.int .i64) .unit))), (77, .sl (.pair (.int .i64) (.pair (.int .i64) (.pair (.int .i64) .unit)))), (79, .pair (.int .i64) (.pair (.int .i64) (.pair (.int .i64) .unit))), (81, .pair (.sl (.pair (.int .i64) (.pair (.int .i64) .unit))) (.pair (.sl (.pair (.int .i64) (.pair (.int .i64) (.pair (.int .i64) .unit)))) (.pair (.pair (.int .i64) (.pair (.int .i64) (.pair (.int .i64) .unit))) .unit))), (161, .opq 0), (165, .pair (.int .i64) (.pair (.int .i64) .unit))]
def et_queue_Pool_List : List (Nat × Nat) := [(36, 3), (76, 165), (77, 79)]
theorem tt_queue_Pool_List_ok : subT tt tt_queue_Pool_List = true := by kernel_rfl
theorem et_queue_Pool_List_ok : subE et et_queue_Pool_List = true := by kernel_rfl
noncomputable def fns_queue_Pool_List : List (Nat × (List AV → Option AV)) := []
theorem fns_queue_Pool_List_ok : FnsOk Go.Proofs.Try.prog fns_queue_Pool_List := FnsOk.nil _
noncomputable def pm_queue_Pool_List_92 : List (Nat × Proc) := (92, sumOr fs_queue_Pool_ok rk_queue_Pool_ok gm_queue_Pool_ok noP) :: []
theorem pm_queue_Pool_List_92_ok : PrsOk Go.Proofs.Try.prog pm_queue_Pool_List_92 := PrsOk.cons (sumOr_con ms_queue_Pool_ok no_con) (PrsOk.nil _)
def kp_queue_Pool_List_85 : List (Nat × List Nat) := [(0, [0, 1]), (1, [0, 1, 6]), (2, [4, 5]), (3, [0, 1, 10]), (4, [4, 5]), (5, [4, 5])]
def od_queue_Pool_List_85 : List (Nat × Ord) := []
noncomputable def E_queue_Pool_List_85 : Env := ⟨0, 0, et_queue_Pool_List, tt_queue_Pool_List, fns_queue_Pool_List, pm_queue_Pool_List_92, od_queue_Pool_List_85, kp_queue_Pool_List_85, none, []⟩
noncomputable def pr_queue_Pool_List_85 : List (Nat × Proc) := (85, procR E_queue_Pool_List_85 28 [.tmp 4, .tmp 5] (bodyOf Try.f85)) :: pm_queue_Pool_List_92
theorem pr_queue_Pool_List_85_ok : PrsOk Go.Proofs.Try.prog pr_queue_Pool_List_85 :=
  PrsOk.cons (proc_conR (E := E_queue_Pool_List_85) (EnvC.sub (off := 0) (nt := 0) (ords := od_queue_Pool_List_85) (keep := kp_queue_Pool_List_85) (yl := none) tt_ok et_ok fns_queue_Pool_List_ok (pm_queue_Pool_List_92_ok) (ItsOk.nil _) tt_queue_Pool_List_ok et_queue_Pool_List_ok) (PrOk.of mixed_ok) Go.Proofs.Try.func85 rfl (by decide) rfl rfl) (pm_queue_Pool_List_92_ok)
def queue_Pool_List_S1 (u0 : AV) (u1 : AV) (B3 : Blk) (B4 : Blk) (B5 : Blk) (x1 : Int × List Int) : St :=
  ⟨[(0, u0), (7, u1), (8, .int .i64 x1.1)], [(0, B3), (1, B4), (2, B5), (1065, .row 3 (.int .i64) x1.2 false)], (some ([1, 2, 1064, 1065], 0))⟩
def queue_Pool_List_M1 : Msk := ⟨[0, 7, 8], [0, 1, 2, 1065], [(7, 1065, 36)], [], [1, 2, 1064, 1065], [], [], [], []⟩
def kp_queue_Pool_List : List (Nat × List Nat) := [(0, [0, 1]), (1, [0, 5, 6]), (2, [0, 5, 16]), (3, [4]), (4, [0, 5, 7]), (5, [0, 7, 8]), (6, [0, 7, 8, 22]), (7, [0, 7, 8]), (8, [0, 7, 8]), (9, [4])]
def od_queue_Pool_List : List (Nat × Ord) := []
noncomputable def E_queue_Pool_List : Env := ⟨0, 0, et_queue_Pool_List, tt_queue_Pool_List, fns_queue_Pool_List, pr_queue_Pool_List_85, od_queue_Pool_List, kp_queue_Pool_List, none, []⟩
set_option maxRecDepth 100000 in
set_option maxHeartbeats 40000000 in
theorem ms_queue_Pool_List : SCon Go.Proofs.Try.prog 41 (sumT fs_queue_Pool_List rk_queue_Pool_List gm_queue_Pool_List) := by
  refine meth_con (T0 := procR E_queue_Pool_List 43 [.tmp 4] (bodyOf Try.f41)) rfl rfl rfl (proc_conR (E := E_queue_Pool_List) (EnvC.sub (off := 0) (nt := 0) (ords := od_queue_Pool_List) (keep := kp_queue_Pool_List) (yl := none) tt_ok et_ok fns_queue_Pool_List_ok (pr_queue_Pool_List_85_ok) (ItsOk.nil _) tt_queue_Pool_List_ok et_queue_Pool_List_ok) (PrOk.of mixed_ok) Go.Proofs.Try.func41 rfl (by decide) rfl rfl) ?_
  intro x a x' y hs
  repeat'
    (try (conv => whnf)
     first
       | (with_reducible have hs := letv_out hs)
       | (refine draw_and (by kernel_rfl) ?_)
       | (refine both_mk ?_ ?_)
       | (refine br_bool (fun h => ?_) (fun h => ?_) <;> first | have hs := cT h hs | have hs := cF h hs)
       | (refine bind_elim hs fun v hb hs => ?_; first | refine cm_queue_Pool_ok rfl hb ?_)
       | refine chk_elim hs fun hs => ?_
       | (have hs := letv_out hs)
       | exact fin_m hs rfl rfl rfl rfl rfl rfl rfl rfl
       | (intro b hb; first | have hs := nilq_elim hs b hb | have hs := nilqn_elim hs b hb)
       | exact hJ1 _ hs
       | (have hs := cT rfl hs)
       | (have hs := cF rfl hs)
       | ((with_reducible have hs : loop (queue_Pool_List_L1 _) _ = some _ := hs); refine vc_loopR (queue_Pool_List_S1 _ _ _ _ _) queue_Pool_List_M1 hs rfl ?_; intro J1 k1 x1 hJ1 hs)
       | (refine vc_loopR (queue_Pool_List_S1 _ _ _ _ _) queue_Pool_List_M1 hs rfl ?_; intro J1 k1 x1 hJ1 hs)
       | exact (none_ne hs).elim)
def fs_queue_Pool_Len : List FK := [.row 165 (.pair (.int .i64) (.pair (.int .i64) .unit)), .row 79 (.pair (.int .i64) (.pair (.int .i64) (.pair (.int .i64) .unit))), .dat (.pair (.int .i64) (.pair (.int .i64) (.pair (.int .i64) .unit)))]
def rk_queue_Pool_Len : List FK := [.dat (.int .i64)]
def gm_queue_Pool_Len : (stT fs_queue_Pool_Len).den → List AV → Option ((stT fs_queue_Pool_Len).den × (stT rk_queue_Pool_Len).den) := liftM (.pair (.int .i64) .unit) (fun x a => queue_Pool_Len x a.1)
theorem cm_queue_Pool_Len {x : (stT fs_queue_Pool_Len).den} {vs : List AV} {a : ((.pair (.int .i64) .unit) : Ty).den} {k : (stT fs_queue_Pool_Len).den → (stT rk_queue_Pool_Len).den → Prop} {r : (stT fs_queue_Pool_Len).den × (stT rk_queue_Pool_Len).den} (h1 : pks (.pair (.int .i64) .unit) vs = some a) (h2 : queue_Pool_Len x a.1 = some r) (h3 : k r.1 r.2) : callS (gm_queue_Pool_Len x vs) k := callM_mk h1 h2 h3
def tt_queue_Pool_Len : List (Nat × Ty) := [(3, .int .i64), (4, .bool), (24, .int .i64), (56, .opq 0), (77, .sl (.pair (.int .i64) (.pair (.int .i64) (.pair (.int .i64) .unit)))), (79, .pair (.int .i64) (.pair (.int .i64) (.pair (.int .i64) .unit))), (81, .pair (.sl (.pair (.int .i64) (.pair (.int .i64) .unit))) (.pair (.sl (.pair (.int .i64) (.pair (.int .i64) (.pair (.int .i64) .unit)))) (.pair (.pair (.int .i64) (.pair (.int .i64) (.pair (.int .i64) .unit))) .unit))), (161, .opq 0)]
def et_queue_Pool_Len : List (Nat × Nat) := [(77, 79)]
theorem tt_queue_Pool_Len_ok : subT tt tt_queue_Pool_Len = true := by kernel_rfl
theorem et_queue_Pool_Len_ok : subE et et_queue_Pool_Len = true := by kernel_rfl
noncomputable def fns_queue_Pool_Len : List (Nat × (List AV → Option AV)) := []
theorem fns_queue_Pool_Len_ok : FnsOk Go.Proofs.Try.prog fns_queue_Pool_Len := FnsOk.nil _
noncomputable def pm_queue_Pool_Len_92 : List (Nat × Proc) := (92, sumOr fs_queue_Pool_ok rk_queue_Pool_ok gm_queue_Pool_ok noP) :: []
theorem pm_queue_Pool_Len_92_ok : PrsOk Go.Proofs.Try.prog pm_queue_Pool_Len_92 := PrsOk.cons (sumOr_con ms_queue_Pool_ok no_con) (PrsOk.nil _)
def kp_queue_Pool_Len_85 : List (Nat × List Nat) := [(0, [0, 1]), (1, [0, 1, 6]), (2, [4, 5]), (3, [0, 1, 10]), (4, [4, 5]), (5, [4, 5])]
def od_queue_Pool_Len_85 : List (Nat × Ord) := []
noncomputable def E_queue_Pool_Len_85 : Env := ⟨0, 0, et_queue_Pool_Len, tt_queue_Pool_Len, fns_queue_Pool_Len, pm_queue_Pool_Len_92, od_queue_Pool_Len_85, kp_queue_Pool_Len_85, none, []⟩
noncomputable def pr_queue_Pool_Len_85 : List (Nat × Proc) := (85, procR E_queue_Pool_Len_85 28 [.tmp 4, .tmp 5] (bodyOf Try.f85)) :: pm_queue_Pool_Len_92
theorem pr_queue_Pool_Len_85_ok : PrsOk Go.Proofs.Try.prog pr_queue_Pool_Len_85 :=
  PrsOk.cons (proc_conR (E := E_queue_Pool_Len_85) (EnvC.sub (off := 0) (nt := 0) (ords := od_queue_Pool_Len_85) (keep := kp_queue_Pool_Len_85) (yl := none) tt_ok et_ok fns_queue_Pool_Len_ok (pm_queue_Pool_Len_92_ok) (ItsOk.nil _) tt_queue_Pool_Len_ok et_queue_Pool_Len_ok) (PrOk.of mixed_ok) Go.Proofs.Try.func85 rfl (by decide) rfl rfl) (pm_queue_Pool_Len_92_ok)
def kp_queue_Pool_Len : List (Nat × List Nat) := [(0, [0, 1]), (1, [5, 6]), (2, [5, 14]), (3, [4]), (4, [4])]
def od_queue_Pool_Len : List (Nat × Ord) := []
noncomputable def E_queue_Pool_Len : Env := ⟨0, 0, et_queue_Pool_Len, tt_queue_Pool_Len, fns_queue_Pool_Len, pr_queue_Pool_Len_85, od_queue_Pool_Len, kp_queue_Pool_Len, none, []⟩
set_option maxRecDepth 100000 in
set_option maxHeartbeats 40000000 in
theorem ms_queue_Pool_Len : SCon Go.Proofs.Try.prog 42 (sumT fs_queue_Pool_Len rk_queue_Pool_Len gm_queue_Pool_Len) := by
  refine meth_con (T0 := procR E_queue_Pool_Len 19 [.tmp 4] (bodyOf Try.f42)) rfl rfl rfl (proc_conR (E := E_queue_Pool_Len) (EnvC.sub (off := 0) (nt := 0) (ords := od_queue_Pool_Len) (keep := kp_queue_Pool_Len) (yl := none) tt_ok et_ok fns_queue_Pool_Len_ok (pr_queue_Pool_Len_85_ok) (ItsOk.nil _) tt_queue_Pool_Len_ok et_queue_Pool_Len_ok) (PrOk.of mixed_ok) Go.Proofs.Try.func42 rfl (by decide) rfl rfl) ?_
  intro x a x' y hs
  repeat'
    (try (conv => whnf)
     first
       | (with_reducible have hs := letv_out hs)
       | (refine draw_and (by kernel_rfl) ?_)
       | (refine both_mk ?_ ?_)
       | (refine br_bool (fun h => ?_) (fun h => ?_) <;> first | have hs := cT h hs | have hs := cF h hs)
       | (refine bind_elim hs fun v hb hs => ?_; first | refine cm_queue_Pool_ok rfl hb ?_)
       | refine chk_elim hs fun hs => ?_
       | (have hs := letv_out hs)
       | exact fin_m hs rfl rfl rfl rfl rfl rfl rfl rfl
       | (intro b hb; first | have hs := nilq_elim hs b hb | have hs := nilqn_elim hs b hb)
       | (have hs := cT rfl hs)
       | (have hs := cF rfl hs)
       | exact (none_ne hs).elim)
end Go.Proofs.YtiicmhholjpcbaaV
