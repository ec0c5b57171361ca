import Derived.Test.YtoihmfgkmndjfaaVcTab
import Derived.Test.YtoihmfgkmndjfaaDrings
namespace Go.Proofs.YtoihmfgkmndjfaaV
open Go.Proofs
set_option linter.unusedVariables false
def fs_rings_Ring_int_ok : List FK := [.dat .bool, .row 3 (.int .i64), .dat (.int .i64), .dat (.int .i64)]
def rk_rings_Ring_int_ok : List FK := [.dat .bool]
def gm_rings_Ring_int_ok : (stT fs_rings_Ring_int_ok).den → List AV → Option ((stT fs_rings_Ring_int_ok).den × (stT rk_rings_Ring_int_ok).den) := liftM .unit (fun x a => rings_Ring_int_ok x)
theorem cm_rings_Ring_int_ok {x : (stT fs_rings_Ring_int_ok).den} {vs : List AV} {a : (.unit : Ty).den} {k : (stT fs_rings_Ring_int_ok).den → (stT rk_rings_Ring_int_ok).den → Prop} {r : (stT fs_rings_Ring_int_ok).den × (stT rk_rings_Ring_int_ok).den} (h1 : pks .unit vs = some a) (h2 : rings_Ring_int_ok x = some r) (h3 : k r.1 r.2) : callS (gm_rings_Ring_int_ok x vs) k := callM_mk h1 h2 h3
def tt_rings_Ring_int_ok : List (Nat × Ty) := [(4, .bool), (42, .opq 0), (65, .pair .bool (.pair (.sl (.int .i64)) (.pair (.int .i64) (.pair (.int .i64) .unit))))]
def et_rings_Ring_int_ok : List (Nat × Nat) := []
theorem tt_rings_Ring_int_ok_ok : subT tt tt_rings_Ring_int_ok = true := by kernel_rfl
theorem et_rings_Ring_int_ok_ok : subE et et_rings_Ring_int_ok = true := by kernel_rfl
noncomputable def fns_rings_Ring_int_ok : List (Nat × (List AV → Option AV)) := []
theorem fns_rings_Ring_int_ok_ok : FnsOk Go.Proofs.Try.prog fns_rings_Ring_int_ok := FnsOk.nil _
def kp_rings_Ring_int_ok : List (Nat × List Nat) := [(0, [0]), (1, [2])]
def od_rings_Ring_int_ok : List (Nat × Ord) := []
noncomputable def E_rings_Ring_int_ok : Env := ⟨0, 0, et_rings_Ring_int_ok, tt_rings_Ring_int_ok, fns_rings_Ring_int_ok, [], od_rings_Ring_int_ok, kp_rings_Ring_int_ok, none, []⟩
set_option maxRecDepth 100000 in
set_option maxHeartbeats 40000000 in
theorem ms_rings_Ring_int_ok : SCon Go.Proofs.Try.prog 69 (sumT fs_rings_Ring_int_ok rk_rings_Ring_int_ok gm_rings_Ring_int_ok) := by
  refine meth_con (T0 := procR E_rings_Ring_int_ok 11 [.tmp 2] (bodyOf Try.f69)) rfl rfl rfl (proc_conR (E := E_rings_Ring_int_ok) (EnvC.sub (off := 0) (nt := 0) (ords := od_rings_Ring_int_ok) (keep := kp_rings_Ring_int_ok) (yl := none) tt_ok et_ok fns_rings_Ring_int_ok_ok (PrsOk.nil _) (ItsOk.nil _) tt_rings_Ring_int_ok_ok et_rings_Ring_int_ok_ok) (PrOk.of mixed_ok) Go.Proofs.Try.func69 rfl (by decide) rfl rfl) ?_
  intro x a x' y hs
  repeat'
    (try (conv => whnf)
     first
       | (with_reducible have hs := letv_out hs)
       | (refine draw_and (by kernel_rfl) ?_)
       | (refine both_mk ?_ ?_)
       | (refine br_bool (fun h => ?_) (fun h => ?_) <;> first | have hs := cT h hs | have hs := cF h hs)
       | refine chk_elimI hs fun hs => ?_
       | (have hs := letv_out hs)
       | exact fin_m hs rfl rfl rfl rfl rfl rfl rfl rfl
       | (intro b hb; first | have hs := nilq_elim hs b hb | have hs := nilqn_elim hs b hb)
       | (have hs := cT rfl hs)
       | (have hs := cF rfl hs)
       | exact (none_ne hs).elim)
attribute [irreducible] gm_rings_Ring_int_ok
def fs_rings_Ring_int_Push : List FK := [.dat .bool, .row 3 (.int .i64), .dat (.int .i64), .dat (.int .i64)]
def rk_rings_Ring_int_Push : List FK := [.dat (.int .i64)]
def gm_rings_Ring_int_Push : (stT fs_rings_Ring_int_Push).den → List AV → Option ((stT fs_rings_Ring_int_Push).den × (stT rk_rings_Ring_int_Push).den) := liftM (.pair (.int .i64) .unit) (fun x a => rings_Ring_int_Push x a.1)
theorem cm_rings_Ring_int_Push {x : (stT fs_rings_Ring_int_Push).den} {vs : List AV} {a : ((.pair (.int .i64) .unit) : Ty).den} {k : (stT fs_rings_Ring_int_Push).den → (stT rk_rings_Ring_int_Push).den → Prop} {r : (stT fs_rings_Ring_int_Push).den × (stT rk_rings_Ring_int_Push).den} (h1 : pks (.pair (.int .i64) .unit) vs = some a) (h2 : rings_Ring_int_Push x a.1 = some r) (h3 : k r.1 r.2) : callS (gm_rings_Ring_int_Push x vs) k := callM_mk h1 h2 h3
def tt_rings_Ring_int_Push : List (Nat × Ty) := [(3, .int .i64), (4, .bool), (22, .sl (.int .i64)), (27, .int .i64), (42, .opq 0), (65, .pair .bool (.pair (.sl (.int .i64)) (.pair (.int .i64) (.pair (.int .i64) .unit))))]
def et_rings_Ring_int_Push : List (Nat × Nat) := [(22, 3)]
theorem tt_rings_Ring_int_Push_ok : subT tt tt_rings_Ring_int_Push = true := by kernel_rfl
theorem et_rings_Ring_int_Push_ok : subE et et_rings_Ring_int_Push = true := by kernel_rfl
noncomputable def fns_rings_Ring_int_Push : List (Nat × (List AV → Option AV)) := []
theorem fns_rings_Ring_int_Push_ok : FnsOk Go.Proofs.Try.prog fns_rings_Ring_int_Push := FnsOk.nil _
noncomputable def pm_rings_Ring_int_Push_69 : List (Nat × Proc) := (69, sumOr fs_rings_Ring_int_ok rk_rings_Ring_int_ok gm_rings_Ring_int_ok noP) :: []
theorem pm_rings_Ring_int_Push_69_ok : PrsOk Go.Proofs.Try.prog pm_rings_Ring_int_Push_69 := PrsOk.cons (sumOr_con ms_rings_Ring_int_ok no_con) (PrsOk.nil _)
def kp_rings_Ring_int_Push_70 : List (Nat × List Nat) := [(0, [0, 1]), (1, [4])]
def od_rings_Ring_int_Push_70 : List (Nat × Ord) := [(1, (.one 0 (.one 1 (.one 2 (.one 3 (.one 4 (.one 5 (.one 6 (.one 7 (.one 8 (.one 9 (.one 10 (.one 11 (.one 12 .nil))))))))))))))]
noncomputable def E_rings_Ring_int_Push_70 : Env := ⟨0, 0, et_rings_Ring_int_Push, tt_rings_Ring_int_Push, fns_rings_Ring_int_Push, pm_rings_Ring_int_Push_69, od_rings_Ring_int_Push_70, kp_rings_Ring_int_Push_70, none, []⟩
noncomputable def pr_rings_Ring_int_Push_70 : List (Nat × Proc) := (70, procR E_rings_Ring_int_Push_70 17 [.tmp 4] (bodyOf Try.f70)) :: pm_rings_Ring_int_Push_69
theorem pr_rings_Ring_int_Push_70_ok : PrsOk Go.Proofs.Try.prog pr_rings_Ring_int_Push_70 :=
  PrsOk.cons (proc_conR (E := E_rings_Ring_int_Push_70) (EnvC.sub (off := 0) (nt := 0) (ords := od_rings_Ring_int_Push_70) (keep := kp_rings_Ring_int_Push_70) (yl := none) tt_ok et_ok fns_rings_Ring_int_Push_ok (pm_rings_Ring_int_Push_69_ok) (ItsOk.nil _) tt_rings_Ring_int_Push_ok et_rings_Ring_int_Push_ok) (PrOk.of mixed_ok) Go.Proofs.Try.func70 rfl (by decide) rfl rfl) (pm_rings_Ring_int_Push_69_ok)
def rings_Ring_int_Push_Q1 (x1 : Bool × Int × Int × List Int) : St :=
  ⟨[(0, .ptr 0 [])], [(0, .var (.pair .bool (.pair (.sl (.int .i64)) (.pair (.int .i64) (.pair (.int .i64) .unit)))) (.agg [.bool x1.1, .own 1, .int .i64 x1.2.1, .int .i64 x1.2.2.1]) false), (1, .row 3 (.int .i64) x1.2.2.2 false)], (some ([1], 0))⟩
def kp_rings_Ring_int_Push : List (Nat × List Nat) := [(0, [0, 1]), (1, [0, 1, 5]), (2, [4]), (3, [0, 1, 9]), (4, [4]), (5, [0]), (6, []), (7, [4]), (5000005, []), (102404000005, [0, 1]), (102406000005, [1])]
def od_rings_Ring_int_Push : List (Nat × Ord) := [(3, (.one 0 (.one 1 (.one 2 (.one 3 (.one 4 (.one 5 (.one 6 (.one 7 (.one 8 (.one 9 (.one 10 .nil)))))))))))), (5, (.one 0 (.one 1 (.one 2 (.one 4 (.one 5 (.one 6 (.one 7 (.one 10 (.alt (.cons 3 (.one 200008 (.one 200009 (.one 11 (.one 200012 .nil)))) (.cons 8 (.alt (.cons 3 (.one 200009 (.one 11 (.one 200012 .nil))) (.cons 9 (.one 200003 (.one 11 (.one 200012 .nil))) .nil))) .nil))))))))))))]
noncomputable def E_rings_Ring_int_Push : Env := ⟨0, 0, et_rings_Ring_int_Push, tt_rings_Ring_int_Push, fns_rings_Ring_int_Push, pr_rings_Ring_int_Push_70, od_rings_Ring_int_Push, kp_rings_Ring_int_Push, none, []⟩
set_option maxRecDepth 100000 in
set_option maxHeartbeats 40000000 in
theorem ms_rings_Ring_int_Push : SCon Go.Proofs.Try.prog 25 (sumT fs_rings_Ring_int_Push rk_rings_Ring_int_Push gm_rings_Ring_int_Push) := by
  refine meth_con (T0 := procR E_rings_Ring_int_Push 39 [.tmp 4] (bodyOf Try.f25)) rfl rfl rfl (proc_conR (E := E_rings_Ring_int_Push) (EnvC.sub (off := 0) (nt := 0) (ords := od_rings_Ring_int_Push) (keep := kp_rings_Ring_int_Push) (yl := none) tt_ok et_ok fns_rings_Ring_int_Push_ok (pr_rings_Ring_int_Push_70_ok) (ItsOk.nil _) tt_rings_Ring_int_Push_ok et_rings_Ring_int_Push_ok) (PrOk.of mixed_ok) Go.Proofs.Try.func25 rfl (by decide) rfl rfl) ?_
  intro x a x' y hs
  have hks := True.intro
  have hbs := True.intro
  repeat'
    (try (conv => whnf)
     first
       | (with_reducible have hs := letv_out hs)
       | (refine draw_and (by kernel_rfl) ?_)
       | (refine both_mk ?_ ?_)
       | (refine br_bool (fun h => ?_) (fun h => ?_) <;> first | have hs := cT h hs | have hs := cF h hs)
       | (refine bind_elim hs fun v hb hs => ?_; first | (show callS (gm_rings_Ring_int_ok _ _) _; refine cm_rings_Ring_int_ok rfl hb ?_))
       | refine chk_elimI hs fun hs => ?_
       | (have hs := letv_out hs)
       | exact fin_m hs rfl rfl rfl rfl rfl rfl rfl rfl
       | (intro b hb; first | have hs := nilq_elim hs b hb | have hs := nilqn_elim hs b hb)
       | exact hC1 _ hs
       | (refine cut_out 1 rings_Ring_int_Push_Q1 hs (fun Jc1 kc1 hC1 hs => ?_) (fun xc1 hs => ?_))
       | (have hs := cT rfl hs)
       | (have hs := cF rfl hs)
       | (refine And.intro (by first | exact hks.1 | exact hks.2.1 | exact hks.2.2.1 | exact hks.2.2.2.1 | exact hks.2.2.2.2.1 | exact hks.2.2.2.2.2.1 | exact hks.2.2.2.2.2.2.1 | exact hks.2.2.2.2.2.2.2.1) ?_)
       | (obtain ⟨hk, hs⟩ := chk_someI hs; have hks := And.intro hk hks)
       | (obtain ⟨vb, hb, hs⟩ := bind_some hs; have hbs := And.intro hb hbs)
       | exact (none_ne hs).elim)
attribute [irreducible] gm_rings_Ring_int_Push
def fs_rings_Ring_int_Pop : List FK := [.dat .bool, .row 3 (.int .i64), .dat (.int .i64), .dat (.int .i64)]
def rk_rings_Ring_int_Pop : List FK := [.dat (.int .i64), .dat (.int .i64)]
def gm_rings_Ring_int_Pop : (stT fs_rings_Ring_int_Pop).den → List AV → Option ((stT fs_rings_Ring_int_Pop).den × (stT rk_rings_Ring_int_Pop).den) := liftM .unit (fun x a => rings_Ring_int_Pop x)
theorem cm_rings_Ring_int_Pop {x : (stT fs_rings_Ring_int_Pop).den} {vs : List AV} {a : (.unit : Ty).den} {k : (stT fs_rings_Ring_int_Pop).den → (stT rk_rings_Ring_int_Pop).den → Prop} {r : (stT fs_rings_Ring_int_Pop).den × (stT rk_rings_Ring_int_Pop).den} (h1 : pks .unit vs = some a) (h2 : rings_Ring_int_Pop x = some r) (h3 : k r.1 r.2) : callS (gm_rings_Ring_int_Pop x vs) k := callM_mk h1 h2 h3
def tt_rings_Ring_int_Pop : List (Nat × Ty) := [(3, .int .i64), (4, .bool), (22, .sl (.int .i64)), (27, .int .i64), (42, .opq 0), (65, .pair .bool (.pair (.sl (.int .i64)) (.pair (.int .i64) (.pair (.int .i64) .unit))))]
def et_rings_Ring_int_Pop : List (Nat × Nat) := [(22, 3)]
theorem tt_rings_Ring_int_Pop_ok : subT tt tt_rings_Ring_int_Pop = true := by kernel_rfl
theorem et_rings_Ring_int_Pop_ok : subE et et_rings_Ring_int_Pop = true := by kernel_rfl
noncomputable def fns_rings_Ring_int_Pop : List (Nat × (List AV → Option AV)) := []
theorem fns_rings_Ring_int_Pop_ok : FnsOk Go.Proofs.Try.prog fns_rings_Ring_int_Pop := FnsOk.nil _
noncomputable def pm_rings_Ring_int_Pop_69 : List (Nat × Proc) := (69, sumOr fs_rings_Ring_int_ok rk_rings_Ring_int_ok gm_rings_Ring_int_ok noP) :: []
theorem pm_rings_Ring_int_Pop_69_ok : PrsOk Go.Proofs.Try.prog pm_rings_Ring_int_Pop_69 := PrsOk.cons (sumOr_con ms_rings_Ring_int_ok no_con) (PrsOk.nil _)
def kp_rings_Ring_int_Pop_70 : List (Nat × List Nat) := [(0, [0, 1]), (1, [4])]
def od_rings_Ring_int_Pop_70 : List (Nat × Ord) := [(1, (.one 0 (.one 1 (.one 2 (.one 3 (.one 4 (.one 5 (.one 6 (.one 7 (.one 8 (.one 9 (.one 10 (.one 11 (.one 12 .nil))))))))))))))]
noncomputable def E_rings_Ring_int_Pop_70 : Env := ⟨0, 0, et_rings_Ring_int_Pop, tt_rings_Ring_int_Pop, fns_rings_Ring_int_Pop, pm_rings_Ring_int_Pop_69, od_rings_Ring_int_Pop_70, kp_rings_Ring_int_Pop_70, none, []⟩
noncomputable def pr_rings_Ring_int_Pop_70 : List (Nat × Proc) := (70, procR E_rings_Ring_int_Pop_70 17 [.tmp 4] (bodyOf Try.f70)) :: pm_rings_Ring_int_Pop_69
theorem pr_rings_Ring_int_Pop_70_ok : PrsOk Go.Proofs.Try.prog pr_rings_Ring_int_Pop_70 :=
  PrsOk.cons (proc_conR (E := E_rings_Ring_int_Pop_70) (EnvC.sub (off := 0) (nt := 0) (ords := od_rings_Ring_int_Pop_70) (keep := kp_rings_Ring_int_Pop_70) (yl := none) tt_ok et_ok fns_rings_Ring_int_Pop_ok (pm_rings_Ring_int_Pop_69_ok) (ItsOk.nil _) tt_rings_Ring_int_Pop_ok et_rings_Ring_int_Pop_ok) (PrOk.of mixed_ok) Go.Proofs.Try.func70 rfl (by decide) rfl rfl) (pm_rings_Ring_int_Pop_69_ok)
def rings_Ring_int_Pop_Q1 (x1 : Int × Int × Bool × Int × Int × List Int) : St :=
  ⟨[(0, .ptr 0 []), (5, .int .i64 x1.1), (38, .ptr 0 []), (40, .int .i64 x1.2.1), (41, .dead), (42, .dead)], [(0, .var (.pair .bool (.pair (.sl (.int .i64)) (.pair (.int .i64) (.pair (.int .i64) .unit)))) (.agg [.bool x1.2.2.1, .own 1, .int .i64 x1.2.2.2.1, .int .i64 x1.2.2.2.2.1]) false), (1, .row 3 (.int .i64) x1.2.2.2.2.2 false)], (some ([1], 0))⟩
def kp_rings_Ring_int_Pop : List (Nat × List Nat) := [(0, [0]), (1, [0, 4]), (2, [0, 4, 6]), (3, [2, 3]), (4, [0, 4, 11]), (5, [2, 3]), (6, [0, 4, 5]), (7, [0, 5]), (8, [0, 5]), (9, [5]), (10, [2, 3]), (25000040, []), (20000040, [0, 5, 38, 40, 41, 42]), (102424000040, [0, 1]), (102426000040, [1])]
def od_rings_Ring_int_Pop : List (Nat × Ord) := [(6, (.one 0 (.one 1 (.one 2 (.one 3 (.one 4 (.one 5 (.one 6 (.one 7 (.one 8 (.one 9 (.one 10 .nil)))))))))))), (7, (.one 0 (.one 1 (.one 2 (.one 3 (.one 4 (.one 5 (.one 6 (.one 7 (.one 8 (.one 9 (.one 100010 .nil))))))))))))]
noncomputable def E_rings_Ring_int_Pop : Env := ⟨0, 0, et_rings_Ring_int_Pop, tt_rings_Ring_int_Pop, fns_rings_Ring_int_Pop, pr_rings_Ring_int_Pop_70, od_rings_Ring_int_Pop, kp_rings_Ring_int_Pop, none, []⟩
set_option maxRecDepth 100000 in
set_option maxHeartbeats 40000000 in
theorem ms_rings_Ring_int_Pop : SCon Go.Proofs.Try.prog 26 (sumT fs_rings_Ring_int_Pop rk_rings_Ring_int_Pop gm_rings_Ring_int_Pop) := by
  refine meth_con (T0 := procR E_rings_Ring_int_Pop 51 [.tmp 2, .tmp 3] (bodyOf Try.f26)) rfl rfl rfl (proc_conR (E := E_rings_Ring_int_Pop) (EnvC.sub (off := 0) (nt := 0) (ords := od_rings_Ring_int_Pop) (keep := kp_rings_Ring_int_Pop) (yl := none) tt_ok et_ok fns_rings_Ring_int_Pop_ok (pr_rings_Ring_int_Pop_70_ok) (ItsOk.nil _) tt_rings_Ring_int_Pop_ok et_rings_Ring_int_Pop_ok) (PrOk.of mixed_ok) Go.Proofs.Try.func26 rfl (by decide) rfl rfl) ?_
  intro x a x' y hs
  repeat'
    (try (conv => whnf)
     first
       | (with_reducible have hs := letv_out hs)
       | (refine draw_and (by kernel_rfl) ?_)
       | (refine both_mk ?_ ?_)
       | (refine br_bool (fun h => ?_) (fun h => ?_) <;> first | have hs := cT h hs | have hs := cF h hs)
       | (refine bind_elim hs fun v hb hs => ?_; first | (show callS (gm_rings_Ring_int_ok _ _) _; refine cm_rings_Ring_int_ok rfl hb ?_))
       | refine chk_elimI hs fun hs => ?_
       | (have hs := letv_out hs)
       | exact fin_m hs rfl rfl rfl rfl rfl rfl rfl rfl
       | (intro b hb; first | have hs := nilq_elim hs b hb | have hs := nilqn_elim hs b hb)
       | exact hC1 _ hs
       | (refine cut_out 1 rings_Ring_int_Pop_Q1 hs (fun Jc1 kc1 hC1 hs => ?_) (fun xc1 hs => ?_))
       | (have hs := cT rfl hs)
       | (have hs := cF rfl hs)
       | exact (none_ne hs).elim)
attribute [irreducible] gm_rings_Ring_int_Pop
def fs_rings_Ring_int_Len : List FK := [.dat .bool, .row 3 (.int .i64), .dat (.int .i64), .dat (.int .i64)]
def rk_rings_Ring_int_Len : List FK := [.dat (.int .i64)]
def gm_rings_Ring_int_Len : (stT fs_rings_Ring_int_Len).den → List AV → Option ((stT fs_rings_Ring_int_Len).den × (stT rk_rings_Ring_int_Len).den) := liftM .unit (fun x a => rings_Ring_int_Len x)
theorem cm_rings_Ring_int_Len {x : (stT fs_rings_Ring_int_Len).den} {vs : List AV} {a : (.unit : Ty).den} {k : (stT fs_rings_Ring_int_Len).den → (stT rk_rings_Ring_int_Len).den → Prop} {r : (stT fs_rings_Ring_int_Len).den × (stT rk_rings_Ring_int_Len).den} (h1 : pks .unit vs = some a) (h2 : rings_Ring_int_Len x = some r) (h3 : k r.1 r.2) : callS (gm_rings_Ring_int_Len x vs) k := callM_mk h1 h2 h3
def tt_rings_Ring_int_Len : List (Nat × Ty) := [(3, .int .i64), (4, .bool), (42, .opq 0), (65, .pair .bool (.pair (.sl (.int .i64)) (.pair (.int .i64) (.pair (.int .i64) .unit))))]
def et_rings_Ring_int_Len : List (Nat × Nat) := []
theorem tt_rings_Ring_int_Len_ok : subT tt tt_rings_Ring_int_Len = true := by kernel_rfl
theorem et_rings_Ring_int_Len_ok : subE et et_rings_Ring_int_Len = true := by kernel_rfl
noncomputable def fns_rings_Ring_int_Len : List (Nat × (List AV → Option AV)) := []
theorem fns_rings_Ring_int_Len_ok : FnsOk Go.Proofs.Try.prog fns_rings_Ring_int_Len := FnsOk.nil _
noncomputable def pm_rings_Ring_int_Len_69 : List (Nat × Proc) := (69, sumOr fs_rings_Ring_int_ok rk_rings_Ring_int_ok gm_rings_Ring_int_ok noP) :: []
theorem pm_rings_Ring_int_Len_69_ok : PrsOk Go.Proofs.Try.prog pm_rings_Ring_int_Len_69 := PrsOk.cons (sumOr_con ms_rings_Ring_int_ok no_con) (PrsOk.nil _)
def kp_rings_Ring_int_Len : List (Nat × List Nat) := [(0, [0]), (1, [0, 5]), (2, [2]), (3, [2])]
def od_rings_Ring_int_Len : List (Nat × Ord) := []
noncomputable def E_rings_Ring_int_Len : Env := ⟨0, 0, et_rings_Ring_int_Len, tt_rings_Ring_int_Len, fns_rings_Ring_int_Len, pm_rings_Ring_int_Len_69, od_rings_Ring_int_Len, kp_rings_Ring_int_Len, none, []⟩
set_option maxRecDepth 100000 in
set_option maxHeartbeats 40000000 in
theorem ms_rings_Ring_int_Len : SCon Go.Proofs.Try.prog 27 (sumT fs_rings_Ring_int_Len rk_rings_Ring_int_Len gm_rings_Ring_int_Len) := by
  refine meth_con (T0 := procR E_rings_Ring_int_Len 10 [.tmp 2] (bodyOf Try.f27)) rfl rfl rfl (proc_conR (E := E_rings_Ring_int_Len) (EnvC.sub (off := 0) (nt := 0) (ords := od_rings_Ring_int_Len) (keep := kp_rings_Ring_int_Len) (yl := none) tt_ok et_ok fns_rings_Ring_int_Len_ok (pm_rings_Ring_int_Len_69_ok) (ItsOk.nil _) tt_rings_Ring_int_Len_ok et_rings_Ring_int_Len_ok) (PrOk.of mixed_ok) Go.Proofs.Try.func27 rfl (by decide) rfl rfl) ?_
  intro x a x' y hs
  repeat'
    (try (conv => whnf)
     first
       | (with_reducible have hs := letv_out hs)
       | (refine draw_and (by kernel_rfl) ?_)
       | (refine both_mk ?_ ?_)
       | (refine br_bool (fun h => ?_) (fun h => ?_) <;> first | have hs := cT h hs | have hs := cF h hs)
       | (refine bind_elim hs fun v hb hs => ?_; first | (show callS (gm_rings_Ring_int_ok _ _) _; refine cm_rings_Ring_int_ok rfl hb ?_))
       | refine chk_elimI hs fun hs => ?_
       | (have hs := letv_out hs)
       | exact fin_m hs rfl rfl rfl rfl rfl rfl rfl rfl
       | (intro b hb; first | have hs := nilq_elim hs b hb | have hs := nilqn_elim hs b hb)
       | (have hs := cT rfl hs)
       | (have hs := cF rfl hs)
       | exact (none_ne hs).elim)
attribute [irreducible] gm_rings_Ring_int_Len
def fs_rings_Ring_int_Room : List FK := [.dat .bool, .row 3 (.int .i64), .dat (.int .i64), .dat (.int .i64)]
def rk_rings_Ring_int_Room : List FK := [.dat (.int .i64)]
def gm_rings_Ring_int_Room : (stT fs_rings_Ring_int_Room).den → List AV → Option ((stT fs_rings_Ring_int_Room).den × (stT rk_rings_Ring_int_Room).den) := liftM .unit (fun x a => rings_Ring_int_Room x)
theorem cm_rings_Ring_int_Room {x : (stT fs_rings_Ring_int_Room).den} {vs : List AV} {a : (.unit : Ty).den} {k : (stT fs_rings_Ring_int_Room).den → (stT rk_rings_Ring_int_Room).den → Prop} {r : (stT fs_rings_Ring_int_Room).den × (stT rk_rings_Ring_int_Room).den} (h1 : pks .unit vs = some a) (h2 : rings_Ring_int_Room x = some r) (h3 : k r.1 r.2) : callS (gm_rings_Ring_int_Room x vs) k := callM_mk h1 h2 h3
def tt_rings_Ring_int_Room : List (Nat × Ty) := [(3, .int .i64), (4, .bool), (22, .sl (.int .i64)), (42, .opq 0), (65, .pair .bool (.pair (.sl (.int .i64)) (.pair (.int .i64) (.pair (.int .i64) .unit))))]
def et_rings_Ring_int_Room : List (Nat × Nat) := [(22, 3)]
theorem tt_rings_Ring_int_Room_ok : subT tt tt_rings_Ring_int_Room = true := by kernel_rfl
theorem et_rings_Ring_int_Room_ok : subE et et_rings_Ring_int_Room = true := by kernel_rfl
noncomputable def fns_rings_Ring_int_Room : List (Nat × (List AV → Option AV)) := []
theorem fns_rings_Ring_int_Room_ok : FnsOk Go.Proofs.Try.prog fns_rings_Ring_int_Room := FnsOk.nil _
noncomputable def pm_rings_Ring_int_Room_69 : List (Nat × Proc) := (69, sumOr fs_rings_Ring_int_ok rk_rings_Ring_int_ok gm_rings_Ring_int_ok noP) :: []
theorem pm_rings_Ring_int_Room_69_ok : PrsOk Go.Proofs.Try.prog pm_rings_Ring_int_Room_69 := PrsOk.cons (sumOr_con ms_rings_Ring_int_ok no_con) (PrsOk.nil _)
def kp_rings_Ring_int_Room : List (Nat × List Nat) := [(0, [0]), (1, [0, 5]), (2, [2]), (3, [2])]
def od_rings_Ring_int_Room : List (Nat × Ord) := []
noncomputable def E_rings_Ring_int_Room : Env := ⟨0, 0, et_rings_Ring_int_Room, tt_rings_Ring_int_Room, fns_rings_Ring_int_Room, pm_rings_Ring_int_Room_69, od_rings_Ring_int_Room, kp_rings_Ring_int_Room, none, []⟩
set_option maxRecDepth 100000 in
set_option maxHeartbeats 40000000 in
theorem ms_rings_Ring_int_Room : SCon Go.Proofs.Try.prog 28 (sumT fs_rings_Ring_int_Room rk_rings_Ring_int_Room gm_rings_Ring_int_Room) := by
  refine meth_con (T0 := procR E_rings_Ring_int_Room 11 [.tmp 2] (bodyOf Try.f28)) rfl rfl rfl (proc_conR (E := E_rings_Ring_int_Room) (EnvC.sub (off := 0) (nt := 0) (ords := od_rings_Ring_int_Room) (keep := kp_rings_Ring_int_Room) (yl := none) tt_ok et_ok fns_rings_Ring_int_Room_ok (pm_rings_Ring_int_Room_69_ok) (ItsOk.nil _) tt_rings_Ring_int_Room_ok et_rings_Ring_int_Room_ok) (PrOk.of mixed_ok) Go.Proofs.Try.func28 rfl (by decide) rfl rfl) ?_
  intro x a x' y hs
  repeat'
    (try (conv => whnf)
     first
       | (with_reducible have hs := letv_out hs)
       | (refine draw_and (by kernel_rfl) ?_)
       | (refine both_mk ?_ ?_)
       | (refine br_bool (fun h => ?_) (fun h => ?_) <;> first | have hs := cT h hs | have hs := cF h hs)
       | (refine bind_elim hs fun v hb hs => ?_; first | (show callS (gm_rings_Ring_int_ok _ _) _; refine cm_rings_Ring_int_ok rfl hb ?_))
       | refine chk_elimI hs fun hs => ?_
       | (have hs := letv_out hs)
       | exact fin_m hs rfl rfl rfl rfl rfl rfl rfl rfl
       | (intro b hb; first | have hs := nilq_elim hs b hb | have hs := nilqn_elim hs b hb)
       | (have hs := cT rfl hs)
       | (have hs := cF rfl hs)
       | exact (none_ne hs).elim)
attribute [irreducible] gm_rings_Ring_int_Room
def fs_rings_Ring_int_At : List FK := [.dat .bool, .row 3 (.int .i64), .dat (.int .i64), .dat (.int .i64)]
def rk_rings_Ring_int_At : List FK := [.dat (.int .i64), .dat (.int .i64)]
def gm_rings_Ring_int_At : (stT fs_rings_Ring_int_At).den → List AV → Option ((stT fs_rings_Ring_int_At).den × (stT rk_rings_Ring_int_At).den) := liftM (.pair (.int .i64) .unit) (fun x a => rings_Ring_int_At x a.1)
theorem cm_rings_Ring_int_At {x : (stT fs_rings_Ring_int_At).den} {vs : List AV} {a : ((.pair (.int .i64) .unit) : Ty).den} {k : (stT fs_rings_Ring_int_At).den → (stT rk_rings_Ring_int_At).den → Prop} {r : (stT fs_rings_Ring_int_At).den × (stT rk_rings_Ring_int_At).den} (h1 : pks (.pair (.int .i64) .unit) vs = some a) (h2 : rings_Ring_int_At x a.1 = some r) (h3 : k r.1 r.2) : callS (gm_rings_Ring_int_At x vs) k := callM_mk h1 h2 h3
def tt_rings_Ring_int_At : List (Nat × Ty) := [(3, .int .i64), (4, .bool), (22, .sl (.int .i64)), (27, .int .i64), (42, .opq 0), (65, .pair .bool (.pair (.sl (.int .i64)) (.pair (.int .i64) (.pair (.int .i64) .unit))))]
def et_rings_Ring_int_At : List (Nat × Nat) := [(22, 3)]
theorem tt_rings_Ring_int_At_ok : subT tt tt_rings_Ring_int_At = true := by kernel_rfl
theorem et_rings_Ring_int_At_ok : subE et et_rings_Ring_int_At = true := by kernel_rfl
noncomputable def fns_rings_Ring_int_At : List (Nat × (List AV → Option AV)) := []
theorem fns_rings_Ring_int_At_ok : FnsOk Go.Proofs.Try.prog fns_rings_Ring_int_At := FnsOk.nil _
noncomputable def pm_rings_Ring_int_At_69 : List (Nat × Proc) := (69, sumOr fs_rings_Ring_int_ok rk_rings_Ring_int_ok gm_rings_Ring_int_ok noP) :: []
theorem pm_rings_Ring_int_At_69_ok : PrsOk Go.Proofs.Try.prog pm_rings_Ring_int_At_69 := PrsOk.cons (sumOr_con ms_rings_Ring_int_ok no_con) (PrsOk.nil _)
def kp_rings_Ring_int_At_70 : List (Nat × List Nat) := [(0, [0, 1]), (1, [4])]
def od_rings_Ring_int_At_70 : List (Nat × Ord) := [(1, (.one 0 (.one 1 (.one 2 (.one 3 (.one 4 (.one 5 (.one 6 (.one 7 (.one 8 (.one 9 (.one 10 (.one 11 (.one 12 .nil))))))))))))))]
noncomputable def E_rings_Ring_int_At_70 : Env := ⟨0, 0, et_rings_Ring_int_At, tt_rings_Ring_int_At, fns_rings_Ring_int_At, pm_rings_Ring_int_At_69, od_rings_Ring_int_At_70, kp_rings_Ring_int_At_70, none, []⟩
noncomputable def pr_rings_Ring_int_At_70 : List (Nat × Proc) := (70, procR E_rings_Ring_int_At_70 17 [.tmp 4] (bodyOf Try.f70)) :: pm_rings_Ring_int_At_69
theorem pr_rings_Ring_int_At_70_ok : PrsOk Go.Proofs.Try.prog pr_rings_Ring_int_At_70 :=
  PrsOk.cons (proc_conR (E := E_rings_Ring_int_At_70) (EnvC.sub (off := 0) (nt := 0) (ords := od_rings_Ring_int_At_70) (keep := kp_rings_Ring_int_At_70) (yl := none) tt_ok et_ok fns_rings_Ring_int_At_ok (pm_rings_Ring_int_At_69_ok) (ItsOk.nil _) tt_rings_Ring_int_At_ok et_rings_Ring_int_At_ok) (PrOk.of mixed_ok) Go.Proofs.Try.func70 rfl (by decide) rfl rfl) (pm_rings_Ring_int_At_69_ok)
def rings_Ring_int_At_Q1 (x1 : Int × Bool × Int × Int × List Int) : St :=
  ⟨[(4, .int .i64 x1.1), (5, .int .i64 0)], [(0, .var (.pair .bool (.pair (.sl (.int .i64)) (.pair (.int .i64) (.pair (.int .i64) .unit)))) (.agg [.bool x1.2.1, .own 1, .int .i64 x1.2.2.1, .int .i64 x1.2.2.2.1]) false), (1, .row 3 (.int .i64) x1.2.2.2.2 false)], (some ([1], 0))⟩
def kp_rings_Ring_int_At : List (Nat × List Nat) := [(0, [0, 1]), (1, [0, 1, 6]), (2, [0, 1, 6, 7]), (3, [4, 5]), (4, [0, 1, 6, 12]), (5, [4, 5]), (6, [4, 5]), (5000006, []), (102404000006, [0, 1]), (102406000006, [1])]
def od_rings_Ring_int_At : List (Nat × Ord) := [(6, (.one 0 (.one 1 (.one 2 (.one 4 (.one 5 (.alt (.cons 3 (.one 200006 (.one 7 (.one 200008 (.one 9 (.one 10 .nil))))) (.cons 6 (.one 200003 (.one 7 (.one 200008 (.one 9 (.one 10 .nil))))) .nil)))))))))]
noncomputable def E_rings_Ring_int_At : Env := ⟨0, 0, et_rings_Ring_int_At, tt_rings_Ring_int_At, fns_rings_Ring_int_At, pr_rings_Ring_int_At_70, od_rings_Ring_int_At, kp_rings_Ring_int_At, none, []⟩
set_option maxRecDepth 100000 in
set_option maxHeartbeats 40000000 in
theorem ms_rings_Ring_int_At : SCon Go.Proofs.Try.prog 33 (sumT fs_rings_Ring_int_At rk_rings_Ring_int_At gm_rings_Ring_int_At) := by
  refine meth_con (T0 := procR E_rings_Ring_int_At 33 [.tmp 4, .tmp 5] (bodyOf Try.f33)) rfl rfl rfl (proc_conR (E := E_rings_Ring_int_At) (EnvC.sub (off := 0) (nt := 0) (ords := od_rings_Ring_int_At) (keep := kp_rings_Ring_int_At) (yl := none) tt_ok et_ok fns_rings_Ring_int_At_ok (pr_rings_Ring_int_At_70_ok) (ItsOk.nil _) tt_rings_Ring_int_At_ok et_rings_Ring_int_At_ok) (PrOk.of mixed_ok) Go.Proofs.Try.func33 rfl (by decide) rfl rfl) ?_
  intro x a x' y hs
  have hks := True.intro
  have hbs := True.intro
  repeat'
    (try (conv => whnf)
     first
       | (with_reducible have hs := letv_out hs)
       | (refine draw_and (by kernel_rfl) ?_)
       | (refine both_mk ?_ ?_)
       | (refine br_bool (fun h => ?_) (fun h => ?_) <;> first | have hs := cT h hs | have hs := cF h hs)
       | (refine bind_elim hs fun v hb hs => ?_; first | (show callS (gm_rings_Ring_int_ok _ _) _; refine cm_rings_Ring_int_ok rfl hb ?_))
       | refine chk_elimI hs fun hs => ?_
       | (have hs := letv_out hs)
       | exact fin_m hs rfl rfl rfl rfl rfl rfl rfl rfl
       | (intro b hb; first | have hs := nilq_elim hs b hb | have hs := nilqn_elim hs b hb)
       | exact hC1 _ hs
       | (refine cut_out 1 rings_Ring_int_At_Q1 hs (fun Jc1 kc1 hC1 hs => ?_) (fun xc1 hs => ?_))
       | (have hs := cT rfl hs)
       | (have hs := cF rfl hs)
       | (refine And.intro (by first | exact hks.1 | exact hks.2.1 | exact hks.2.2.1 | exact hks.2.2.2.1 | exact hks.2.2.2.2.1 | exact hks.2.2.2.2.2.1 | exact hks.2.2.2.2.2.2.1 | exact hks.2.2.2.2.2.2.2.1) ?_)
       | (obtain ⟨hk, hs⟩ := chk_someI hs; have hks := And.intro hk hks)
       | (obtain ⟨vb, hb, hs⟩ := bind_some hs; have hbs := And.intro hb hbs)
       | exact (none_ne hs).elim)
attribute [irreducible] gm_rings_Ring_int_At
def fs_rings_Ring_int_List : List FK := [.dat .bool, .row 3 (.int .i64), .dat (.int .i64), .dat (.int .i64)]
def rk_rings_Ring_int_List : List FK := [.row 3 (.int .i64)]
def gm_rings_Ring_int_List : (stT fs_rings_Ring_int_List).den → List AV → Option ((stT fs_rings_Ring_int_List).den × (stT rk_rings_Ring_int_List).den) := liftM .unit (fun x a => rings_Ring_int_List x)
theorem cm_rings_Ring_int_List {x : (stT fs_rings_Ring_int_List).den} {vs : List AV} {a : (.unit : Ty).den} {k : (stT fs_rings_Ring_int_List).den → (stT rk_rings_Ring_int_List).den → Prop} {r : (stT fs_rings_Ring_int_List).den × (stT rk_rings_Ring_int_List).den} (h1 : pks .unit vs = some a) (h2 : rings_Ring_int_List x = some r) (h3 : k r.1 r.2) : callS (gm_rings_Ring_int_List x vs) k := callM_mk h1 h2 h3
def tt_rings_Ring_int_List : List (Nat × Ty) := [(3, .int .i64), (4, .bool), (22, .sl (.int .i64)), (42, .opq 0), (65, .pair .bool (.pair (.sl (.int .i64)) (.pair (.int .i64) (.pair (.int .i64) .unit))))]
def et_rings_Ring_int_List : List (Nat × Nat) := [(22, 3)]
theorem tt_rings_Ring_int_List_ok : subT tt tt_rings_Ring_int_List = true := by kernel_rfl
theorem et_rings_Ring_int_List_ok : subE et et_rings_Ring_int_List = true := by kernel_rfl
noncomputable def fns_rings_Ring_int_List : List (Nat × (List AV → Option AV)) := []
theorem fns_rings_Ring_int_List_ok : FnsOk Go.Proofs.Try.prog fns_rings_Ring_int_List := FnsOk.nil _
noncomputable def pm_rings_Ring_int_List_69 : List (Nat × Proc) := (69, sumOr fs_rings_Ring_int_ok rk_rings_Ring_int_ok gm_rings_Ring_int_ok noP) :: []
theorem pm_rings_Ring_int_List_69_ok : PrsOk Go.Proofs.Try.prog pm_rings_Ring_int_List_69 := PrsOk.cons (sumOr_con ms_rings_Ring_int_ok no_con) (PrsOk.nil _)
def kp_rings_Ring_int_List : List (Nat × List Nat) := [(30000000, []), (0, [0]), (1, [0, 15]), (2, [2]), (3, [0, 3]), (4, [0, 4]), (5, [0, 4, 5]), (6, [2])]
def od_rings_Ring_int_List : List (Nat × Ord) := [(3, (.one 0 (.one 1 (.one 2 (.one 3 (.one 4 (.one 5 (.one 6 (.one 7 (.one 8 (.one 9 (.one 10 (.one 11 (.one 12 (.one 13 (.one 14 (.one 15 .nil))))))))))))))))), (4, (.one 0 (.one 1 (.one 2 (.one 3 (.one 4 (.one 5 (.one 6 (.one 7 (.one 8 (.one 9 (.one 10 (.one 11 .nil))))))))))))), (6, (.one 0 (.one 1 (.one 2 (.one 3 (.one 4 (.one 5 (.one 6 (.one 7 (.one 8 (.one 9 (.one 10 (.one 11 (.one 12 (.one 100013 (.one 14 .nil))))))))))))))))]
noncomputable def E_rings_Ring_int_List : Env := ⟨0, 0, et_rings_Ring_int_List, tt_rings_Ring_int_List, fns_rings_Ring_int_List, pm_rings_Ring_int_List_69, od_rings_Ring_int_List, kp_rings_Ring_int_List, none, []⟩
set_option maxRecDepth 100000 in
set_option maxHeartbeats 40000000 in
theorem ms_rings_Ring_int_List : SCon Go.Proofs.Try.prog 36 (sumT fs_rings_Ring_int_List rk_rings_Ring_int_List gm_rings_Ring_int_List) := by
  refine meth_con (T0 := procR E_rings_Ring_int_List 58 [.tmp 2] (bodyOf Try.f36)) rfl rfl rfl (proc_conR (E := E_rings_Ring_int_List) (EnvC.sub (off := 0) (nt := 0) (ords := od_rings_Ring_int_List) (keep := kp_rings_Ring_int_List) (yl := none) tt_ok et_ok fns_rings_Ring_int_List_ok (pm_rings_Ring_int_List_69_ok) (ItsOk.nil _) tt_rings_Ring_int_List_ok et_rings_Ring_int_List_ok) (PrOk.of mixed_ok) Go.Proofs.Try.func36 rfl (by decide) rfl rfl) ?_
  intro x a x' y hs
  repeat'
    (try (conv => whnf)
     first
       | (with_reducible have hs := letv_out hs)
       | (refine draw_and (by kernel_rfl) ?_)
       | (refine both_mk ?_ ?_)
       | (refine br_bool (fun h => ?_) (fun h => ?_) <;> first | have hs := cT h hs | have hs := cF h hs)
       | (refine bind_elim hs fun v hb hs => ?_; first | (show callS (gm_rings_Ring_int_ok _ _) _; refine cm_rings_Ring_int_ok rfl hb ?_))
       | refine chk_elimI hs fun hs => ?_
       | (have hs := letv_out hs)
       | exact fin_m hs rfl rfl rfl rfl rfl rfl rfl rfl
       | (intro b hb; first | have hs := nilq_elim hs b hb | have hs := nilqn_elim hs b hb)
       | (have hs := cT rfl hs)
       | (have hs := cF rfl hs)
       | exact (none_ne hs).elim)
attribute [irreducible] gm_rings_Ring_int_List
def fs_rings_Ring_int_Clear : List FK := [.dat .bool, .row 3 (.int .i64), .dat (.int .i64), .dat (.int .i64)]
def rk_rings_Ring_int_Clear : List FK := []
def gm_rings_Ring_int_Clear : (stT fs_rings_Ring_int_Clear).den → List AV → Option ((stT fs_rings_Ring_int_Clear).den × (stT rk_rings_Ring_int_Clear).den) := liftM .unit (fun x a => rings_Ring_int_Clear x)
theorem cm_rings_Ring_int_Clear {x : (stT fs_rings_Ring_int_Clear).den} {vs : List AV} {a : (.unit : Ty).den} {k : (stT fs_rings_Ring_int_Clear).den → (stT rk_rings_Ring_int_Clear).den → Prop} {r : (stT fs_rings_Ring_int_Clear).den × (stT rk_rings_Ring_int_Clear).den} (h1 : pks .unit vs = some a) (h2 : rings_Ring_int_Clear x = some r) (h3 : k r.1 r.2) : callS (gm_rings_Ring_int_Clear x vs) k := callM_mk h1 h2 h3
def tt_rings_Ring_int_Clear : List (Nat × Ty) := [(3, .int .i64), (22, .sl (.int .i64)), (42, .opq 0), (65, .pair .bool (.pair (.sl (.int .i64)) (.pair (.int .i64) (.pair (.int .i64) .unit))))]
def et_rings_Ring_int_Clear : List (Nat × Nat) := [(22, 3)]
theorem tt_rings_Ring_int_Clear_ok : subT tt tt_rings_Ring_int_Clear = true := by kernel_rfl
theorem et_rings_Ring_int_Clear_ok : subE et et_rings_Ring_int_Clear = true := by kernel_rfl
noncomputable def fns_rings_Ring_int_Clear : List (Nat × (List AV → Option AV)) := []
theorem fns_rings_Ring_int_Clear_ok : FnsOk Go.Proofs.Try.prog fns_rings_Ring_int_Clear := FnsOk.nil _
noncomputable def pm_rings_Ring_int_Clear_69 : List (Nat × Proc) := (69, sumOr fs_rings_Ring_int_ok rk_rings_Ring_int_ok gm_rings_Ring_int_ok noP) :: []
theorem pm_rings_Ring_int_Clear_69_ok : PrsOk Go.Proofs.Try.prog pm_rings_Ring_int_Clear_69 := PrsOk.cons (sumOr_con ms_rings_Ring_int_ok no_con) (PrsOk.nil _)
def kp_rings_Ring_int_Clear : List (Nat × List Nat) := [(0, [0, 3]), (1, [0]), (2, [])]
def od_rings_Ring_int_Clear : List (Nat × Ord) := []
noncomputable def E_rings_Ring_int_Clear : Env := ⟨0, 0, et_rings_Ring_int_Clear, tt_rings_Ring_int_Clear, fns_rings_Ring_int_Clear, pm_rings_Ring_int_Clear_69, od_rings_Ring_int_Clear, kp_rings_Ring_int_Clear, none, []⟩
set_option maxRecDepth 100000 in
set_option maxHeartbeats 40000000 in
theorem ms_rings_Ring_int_Clear : SCon Go.Proofs.Try.prog 30 (sumT fs_rings_Ring_int_Clear rk_rings_Ring_int_Clear gm_rings_Ring_int_Clear) := by
  refine meth_con (T0 := procR E_rings_Ring_int_Clear 14 [] (bodyOf Try.f30)) rfl rfl rfl (proc_conR (E := E_rings_Ring_int_Clear) (EnvC.sub (off := 0) (nt := 0) (ords := od_rings_Ring_int_Clear) (keep := kp_rings_Ring_int_Clear) (yl := none) tt_ok et_ok fns_rings_Ring_int_Clear_ok (pm_rings_Ring_int_Clear_69_ok) (ItsOk.nil _) tt_rings_Ring_int_Clear_ok et_rings_Ring_int_Clear_ok) (PrOk.of mixed_ok) Go.Proofs.Try.func30 rfl (by decide) rfl rfl) ?_
  intro x a x' y hs
  repeat'
    (try (conv => whnf)
     first
       | (with_reducible have hs := letv_out hs)
       | (refine draw_and (by kernel_rfl) ?_)
       | (refine both_mk ?_ ?_)
       | (refine br_bool (fun h => ?_) (fun h => ?_) <;> first | have hs := cT h hs | have hs := cF h hs)
       | (refine bind_elim hs fun v hb hs => ?_; first | (show callS (gm_rings_Ring_int_ok _ _) _; refine cm_rings_Ring_int_ok rfl hb ?_))
       | refine chk_elimI hs fun hs => ?_
       | (have hs := letv_out hs)
       | exact fin_m hs rfl rfl rfl rfl rfl rfl rfl rfl
       | (intro b hb; first | have hs := nilq_elim hs b hb | have hs := nilqn_elim hs b hb)
       | (have hs := cT rfl hs)
       | (have hs := cF rfl hs)
       | exact (none_ne hs).elim)
attribute [irreducible] gm_rings_Ring_int_Clear
end Go.Proofs.YtoihmfgkmndjfaaV
