/- What becket/becketlaw24.BucketOnce answers. -/
import Derived.Test.YtiicmhholjpcbaaVcTab
import Derived.Test.YtiicmhholjpcbaaDBucketOnce
import Derived.Test.YtiicmhholjpcbaaCL24
import Derived.Test.YtiicmhholjpcbaaCqueue
import Derived.Test.YtiicmhholjpcbaaCslices
namespace Go.Proofs.YtiicmhholjpcbaaV
open Go.Proofs
set_option linter.unusedVariables false
noncomputable def lf_L24_BucketOnce : List AV → Option AV := liftF (.pair (.sl (.arr 3 (.int .u8))) .unit) (unpack .bool) (fun x => L24_BucketOnce x.1)
theorem lq_L24_BucketOnce : lf_L24_BucketOnce = liftF (.pair (.sl (.arr 3 (.int .u8))) .unit) (unpack .bool) (fun x => L24_BucketOnce x.1) := rfl
attribute [irreducible] lf_L24_BucketOnce
theorem ck_L24_BucketOnce {vs : List AV} {k : AV → Prop} {x : ((.pair (.sl (.arr 3 (.int .u8))) .unit) : Ty).den} {v : Bool} (h1 : pks (.pair (.sl (.arr 3 (.int .u8))) .unit) vs = some x) (h2 : L24_BucketOnce x.1 = some v) (h3 : k ((unpack .bool) v)) : callK (lf_L24_BucketOnce vs) k := by
  rw [lq_L24_BucketOnce]; exact callK_lift h1 h2 h3
def tt_L24_BucketOnce : List (Nat × Ty) := [(3, .int .i64), (4, .bool), (5, .int .u8), (24, .int .i64), (36, .sl (.int .i64)), (56, .opq 0), (76, .sl (.pair (.int .i64) (.pair (.int .i64) .unit))), (77, .sl (.pair (.int .i64) (.pair (.int .i64) (.pair (.int .i64) .unit)))), (79, .pair (.int .i64) (.pair (.int .i64) (.pair (.int .i64) .unit))), (81, .pair (.sl (.pair (.int .i64) (.pair (.int .i64) .unit))) (.pair (.sl (.pair (.int .i64) (.pair (.int .i64) (.pair (.int .i64) .unit)))) (.pair (.pair (.int .i64) (.pair (.int .i64) (.pair (.int .i64) .unit))) .unit))), (86, .opq 0), (104, .sl (.arr 3 (.int .u8))), (105, .arr 16 (.int .i64)), (106, .arr 3 (.int .u8)), (109, .pair (.opq 0) (.pair (.int .i64) .unit)), (161, .opq 0), (165, .pair (.int .i64) (.pair (.int .i64) .unit))]
def et_L24_BucketOnce : List (Nat × Nat) := [(36, 3), (76, 165), (77, 79), (104, 106)]
theorem tt_L24_BucketOnce_ok : subT tt tt_L24_BucketOnce = true := by kernel_rfl
theorem et_L24_BucketOnce_ok : subE et et_L24_BucketOnce = true := by kernel_rfl
noncomputable def fns_L24_BucketOnce : List (Nat × (List AV → Option AV)) := [(43, lf_L24_alive), (96, lf_slices_Contains_int_int)]
theorem fns_L24_BucketOnce_ok : FnsOk Go.Proofs.Try.prog fns_L24_BucketOnce := FnsOk.cons c_L24_alive (FnsOk.cons c_slices_Contains_int_int (FnsOk.nil _))
noncomputable def pm_L24_BucketOnce_34 : List (Nat × Proc) := (34, sumOr fs_queue_Pool_Pop rk_queue_Pool_Pop gm_queue_Pool_Pop noP) :: []
theorem pm_L24_BucketOnce_34_ok : PrsOk Go.Proofs.Try.prog pm_L24_BucketOnce_34 := PrsOk.cons (sumOr_con ms_queue_Pool_Pop no_con) (PrsOk.nil _)
noncomputable def pm_L24_BucketOnce_36 : List (Nat × Proc) := (36, sumOr fs_queue_Pool_Push rk_queue_Pool_Push gm_queue_Pool_Push noP) :: pm_L24_BucketOnce_34
theorem pm_L24_BucketOnce_36_ok : PrsOk Go.Proofs.Try.prog pm_L24_BucketOnce_36 := PrsOk.cons (sumOr_con ms_queue_Pool_Push no_con) (pm_L24_BucketOnce_34_ok)
noncomputable def pm_L24_BucketOnce_41 : List (Nat × Proc) := (41, sumOr fs_queue_Pool_List rk_queue_Pool_List gm_queue_Pool_List noP) :: pm_L24_BucketOnce_36
theorem pm_L24_BucketOnce_41_ok : PrsOk Go.Proofs.Try.prog pm_L24_BucketOnce_41 := PrsOk.cons (sumOr_con ms_queue_Pool_List no_con) (pm_L24_BucketOnce_36_ok)
def kp_L24_BucketOnce_84 : List (Nat × List Nat) := [(0, [0, 1, 2]), (1, [0, 1, 2, 17]), (2, [1, 2]), (3, [1, 2]), (4, [1]), (5, [])]
def od_L24_BucketOnce_84 : List (Nat × Ord) := [(3, (.one 0 (.one 1 (.one 2 (.one 3 (.one 4 (.one 5 (.one 6 (.one 7 (.one 8 (.one 9 (.one 10 (.one 100011 .nil)))))))))))))]
noncomputable def E_L24_BucketOnce_84 : Env := ⟨0, 0, et_L24_BucketOnce, tt_L24_BucketOnce, fns_L24_BucketOnce, pm_L24_BucketOnce_41, od_L24_BucketOnce_84, kp_L24_BucketOnce_84, none, []⟩
noncomputable def pr_L24_BucketOnce_84 : List (Nat × Proc) := (84, procR E_L24_BucketOnce_84 44 [] (bodyOf Try.f84)) :: pm_L24_BucketOnce_41
theorem pr_L24_BucketOnce_84_ok : PrsOk Go.Proofs.Try.prog pr_L24_BucketOnce_84 :=
  PrsOk.cons (proc_conR (E := E_L24_BucketOnce_84) (EnvC.sub (off := 0) (nt := 0) (ords := od_L24_BucketOnce_84) (keep := kp_L24_BucketOnce_84) (yl := none) tt_ok et_ok fns_L24_BucketOnce_ok (pm_L24_BucketOnce_41_ok) (ItsOk.nil _) tt_L24_BucketOnce_ok et_L24_BucketOnce_ok) (PrOk.of mixed_ok) Go.Proofs.Try.func84 rfl (by decide) rfl rfl) (pm_L24_BucketOnce_41_ok)
def kp_L24_BucketOnce_30 : List (Nat × List Nat) := [(0, [0, 1]), (1, [0, 1, 21]), (2, [4, 5]), (3, [0, 6]), (4, [6, 27, 28]), (5, [6, 27, 28, 29]), (6, [6, 27, 28]), (7, [6, 27, 28]), (8, [6, 45, 46]), (9, [6, 45, 46, 47]), (10, [6, 7, 45, 46]), (11, [6, 45, 46]), (12, [6, 45, 46]), (13, [4, 5])]
def od_L24_BucketOnce_30 : List (Nat × Ord) := []
noncomputable def E_L24_BucketOnce_30 : Env := ⟨0, 0, et_L24_BucketOnce, tt_L24_BucketOnce, fns_L24_BucketOnce, pr_L24_BucketOnce_84, od_L24_BucketOnce_30, kp_L24_BucketOnce_30, none, []⟩
noncomputable def pr_L24_BucketOnce_30 : List (Nat × Proc) := (30, procR E_L24_BucketOnce_30 57 [.tmp 4, .tmp 5] (bodyOf Try.f30)) :: pr_L24_BucketOnce_84
theorem pr_L24_BucketOnce_30_ok : PrsOk Go.Proofs.Try.prog pr_L24_BucketOnce_30 :=
  PrsOk.cons (proc_conR (E := E_L24_BucketOnce_30) (EnvC.sub (off := 0) (nt := 0) (ords := od_L24_BucketOnce_30) (keep := kp_L24_BucketOnce_30) (yl := none) tt_ok et_ok fns_L24_BucketOnce_ok (pr_L24_BucketOnce_84_ok) (ItsOk.nil _) tt_L24_BucketOnce_ok et_L24_BucketOnce_ok) (PrOk.of mixed_ok) Go.Proofs.Try.func30 rfl (by decide) rfl rfl) (pr_L24_BucketOnce_84_ok)
def kp_L24_BucketOnce_44 : List (Nat × List Nat) := [(0, [0]), (1, [0, 11]), (2, [2, 3]), (3, [0, 4, 5]), (4, [0, 4, 5, 19]), (5, [2, 3]), (6, [2, 3])]
def od_L24_BucketOnce_44 : List (Nat × Ord) := []
noncomputable def E_L24_BucketOnce_44 : Env := ⟨0, 0, et_L24_BucketOnce, tt_L24_BucketOnce, fns_L24_BucketOnce, pr_L24_BucketOnce_30, od_L24_BucketOnce_44, kp_L24_BucketOnce_44, none, []⟩
noncomputable def pr_L24_BucketOnce_44 : List (Nat × Proc) := (44, procR E_L24_BucketOnce_44 25 [.tmp 2, .tmp 3] (bodyOf Try.f44)) :: pr_L24_BucketOnce_30
theorem pr_L24_BucketOnce_44_ok : PrsOk Go.Proofs.Try.prog pr_L24_BucketOnce_44 :=
  PrsOk.cons (proc_conR (E := E_L24_BucketOnce_44) (EnvC.sub (off := 0) (nt := 0) (ords := od_L24_BucketOnce_44) (keep := kp_L24_BucketOnce_44) (yl := none) tt_ok et_ok fns_L24_BucketOnce_ok (pr_L24_BucketOnce_30_ok) (ItsOk.nil _) tt_L24_BucketOnce_ok et_L24_BucketOnce_ok) (PrOk.of mixed_ok) Go.Proofs.Try.func44 rfl (by decide) rfl rfl) (pr_L24_BucketOnce_30_ok)
def kp_L24_BucketOnce_93 : List (Nat × List Nat) := [(0, [0]), (1, [2])]
def od_L24_BucketOnce_93 : List (Nat × Ord) := []
noncomputable def E_L24_BucketOnce_93 : Env := ⟨0, 0, et_L24_BucketOnce, tt_L24_BucketOnce, fns_L24_BucketOnce, pr_L24_BucketOnce_44, od_L24_BucketOnce_93, kp_L24_BucketOnce_93, none, []⟩
noncomputable def pr_L24_BucketOnce_93 : List (Nat × Proc) := (93, procR E_L24_BucketOnce_93 12 [.tmp 2] (bodyOf Try.f93)) :: pr_L24_BucketOnce_44
theorem pr_L24_BucketOnce_93_ok : PrsOk Go.Proofs.Try.prog pr_L24_BucketOnce_93 :=
  PrsOk.cons (proc_conR (E := E_L24_BucketOnce_93) (EnvC.sub (off := 0) (nt := 0) (ords := od_L24_BucketOnce_93) (keep := kp_L24_BucketOnce_93) (yl := none) tt_ok et_ok fns_L24_BucketOnce_ok (pr_L24_BucketOnce_44_ok) (ItsOk.nil _) tt_L24_BucketOnce_ok et_L24_BucketOnce_ok) (PrOk.of mixed_ok) Go.Proofs.Try.func93 rfl (by decide) rfl rfl) (pr_L24_BucketOnce_44_ok)
def kp_L24_BucketOnce_94 : List (Nat × List Nat) := [(0, [0, 1]), (1, [4])]
def od_L24_BucketOnce_94 : List (Nat × Ord) := []
noncomputable def E_L24_BucketOnce_94 : Env := ⟨0, 0, et_L24_BucketOnce, tt_L24_BucketOnce, fns_L24_BucketOnce, pr_L24_BucketOnce_93, od_L24_BucketOnce_94, kp_L24_BucketOnce_94, none, []⟩
noncomputable def pr_L24_BucketOnce_94 : List (Nat × Proc) := (94, procR E_L24_BucketOnce_94 15 [.tmp 4] (bodyOf Try.f94)) :: pr_L24_BucketOnce_93
theorem pr_L24_BucketOnce_94_ok : PrsOk Go.Proofs.Try.prog pr_L24_BucketOnce_94 :=
  PrsOk.cons (proc_conR (E := E_L24_BucketOnce_94) (EnvC.sub (off := 0) (nt := 0) (ords := od_L24_BucketOnce_94) (keep := kp_L24_BucketOnce_94) (yl := none) tt_ok et_ok fns_L24_BucketOnce_ok (pr_L24_BucketOnce_93_ok) (ItsOk.nil _) tt_L24_BucketOnce_ok et_L24_BucketOnce_ok) (PrOk.of mixed_ok) Go.Proofs.Try.func94 rfl (by decide) rfl rfl) (pr_L24_BucketOnce_93_ok)
def kp_L24_BucketOnce_53 : List (Nat × List Nat) := [(0, [0, 1]), (1, [0, 1, 13]), (2, [4]), (3, [4])]
def od_L24_BucketOnce_53 : List (Nat × Ord) := []
noncomputable def E_L24_BucketOnce_53 : Env := ⟨0, 0, et_L24_BucketOnce, tt_L24_BucketOnce, fns_L24_BucketOnce, pr_L24_BucketOnce_94, od_L24_BucketOnce_53, kp_L24_BucketOnce_53, none, []⟩
noncomputable def pr_L24_BucketOnce_53 : List (Nat × Proc) := (53, procR E_L24_BucketOnce_53 20 [.tmp 4] (bodyOf Try.f53)) :: pr_L24_BucketOnce_94
theorem pr_L24_BucketOnce_53_ok : PrsOk Go.Proofs.Try.prog pr_L24_BucketOnce_53 :=
  PrsOk.cons (proc_conR (E := E_L24_BucketOnce_53) (EnvC.sub (off := 0) (nt := 0) (ords := od_L24_BucketOnce_53) (keep := kp_L24_BucketOnce_53) (yl := none) tt_ok et_ok fns_L24_BucketOnce_ok (pr_L24_BucketOnce_94_ok) (ItsOk.nil _) tt_L24_BucketOnce_ok et_L24_BucketOnce_ok) (PrOk.of mixed_ok) Go.Proofs.Try.func53 rfl (by decide) rfl rfl) (pr_L24_BucketOnce_94_ok)
def kp_L24_BucketOnce_46 : List (Nat × List Nat) := [(0, [0, 1]), (1, [0, 1, 9]), (2, [4, 5]), (3, [0, 1, 13]), (4, [4, 5]), (5, [0, 1, 6]), (6, [0, 1, 6, 22, 23]), (7, [0, 1, 6, 22, 23, 24]), (8, [0, 1, 6, 8, 22, 23]), (9, [0, 1, 6, 8, 22, 23, 35]), (10, [4, 5]), (11, [0, 1, 6, 22, 23]), (12, [4, 5])]
def od_L24_BucketOnce_46 : List (Nat × Ord) := []
noncomputable def E_L24_BucketOnce_46 : Env := ⟨0, 0, et_L24_BucketOnce, tt_L24_BucketOnce, fns_L24_BucketOnce, pr_L24_BucketOnce_53, od_L24_BucketOnce_46, kp_L24_BucketOnce_46, none, []⟩
noncomputable def pr_L24_BucketOnce_46 : List (Nat × Proc) := (46, procR E_L24_BucketOnce_46 39 [.tmp 4, .tmp 5] (bodyOf Try.f46)) :: pr_L24_BucketOnce_53
theorem pr_L24_BucketOnce_46_ok : PrsOk Go.Proofs.Try.prog pr_L24_BucketOnce_46 :=
  PrsOk.cons (proc_conR (E := E_L24_BucketOnce_46) (EnvC.sub (off := 0) (nt := 0) (ords := od_L24_BucketOnce_46) (keep := kp_L24_BucketOnce_46) (yl := none) tt_ok et_ok fns_L24_BucketOnce_ok (pr_L24_BucketOnce_53_ok) (ItsOk.nil _) tt_L24_BucketOnce_ok et_L24_BucketOnce_ok) (PrOk.of mixed_ok) Go.Proofs.Try.func46 rfl (by decide) rfl rfl) (pr_L24_BucketOnce_53_ok)
def kp_L24_BucketOnce_55 : List (Nat × List Nat) := [(0, [0]), (1, [0, 5]), (2, [2]), (3, [2])]
def od_L24_BucketOnce_55 : List (Nat × Ord) := []
noncomputable def E_L24_BucketOnce_55 : Env := ⟨0, 0, et_L24_BucketOnce, tt_L24_BucketOnce, fns_L24_BucketOnce, pr_L24_BucketOnce_46, od_L24_BucketOnce_55, kp_L24_BucketOnce_55, none, []⟩
noncomputable def pr_L24_BucketOnce_55 : List (Nat × Proc) := (55, procR E_L24_BucketOnce_55 10 [.tmp 2] (bodyOf Try.f55)) :: pr_L24_BucketOnce_46
theorem pr_L24_BucketOnce_55_ok : PrsOk Go.Proofs.Try.prog pr_L24_BucketOnce_55 :=
  PrsOk.cons (proc_conR (E := E_L24_BucketOnce_55) (EnvC.sub (off := 0) (nt := 0) (ords := od_L24_BucketOnce_55) (keep := kp_L24_BucketOnce_55) (yl := none) tt_ok et_ok fns_L24_BucketOnce_ok (pr_L24_BucketOnce_46_ok) (ItsOk.nil _) tt_L24_BucketOnce_ok et_L24_BucketOnce_ok) (PrOk.of mixed_ok) Go.Proofs.Try.func55 rfl (by decide) rfl rfl) (pr_L24_BucketOnce_46_ok)
def kp_L24_BucketOnce_51 : List (Nat × List Nat) := [(0, [0, 1]), (1, [0, 1, 8, 9]), (2, [0, 1, 8, 9, 10]), (3, [0, 1, 6, 8, 9]), (4, [0, 1, 6, 8, 9, 16]), (5, [4, 5]), (6, [0, 1, 8, 9]), (7, [4, 5]), (5000004, []), (6399385604000004, [5, 6, 20504, 20987927, 20987930, 20987941]), (6399385606000004, [67102437298177, 20987927, 20987941])]
def od_L24_BucketOnce_51 : List (Nat × Ord) := []
noncomputable def E_L24_BucketOnce_51 : Env := ⟨0, 0, et_L24_BucketOnce, tt_L24_BucketOnce, fns_L24_BucketOnce, pr_L24_BucketOnce_55, od_L24_BucketOnce_51, kp_L24_BucketOnce_51, none, []⟩
noncomputable def pr_L24_BucketOnce_51 : List (Nat × Proc) := (51, procR E_L24_BucketOnce_51 19 [.tmp 4, .tmp 5] (bodyOf Try.f51)) :: pr_L24_BucketOnce_55
theorem pr_L24_BucketOnce_51_ok : PrsOk Go.Proofs.Try.prog pr_L24_BucketOnce_51 :=
  PrsOk.cons (proc_conR (E := E_L24_BucketOnce_51) (EnvC.sub (off := 0) (nt := 0) (ords := od_L24_BucketOnce_51) (keep := kp_L24_BucketOnce_51) (yl := none) tt_ok et_ok fns_L24_BucketOnce_ok (pr_L24_BucketOnce_55_ok) (ItsOk.nil _) tt_L24_BucketOnce_ok et_L24_BucketOnce_ok) (PrOk.of mixed_ok) Go.Proofs.Try.func51 rfl (by decide) rfl rfl) (pr_L24_BucketOnce_55_ok)
def kp_L24_BucketOnce_49 : List (Nat × List Nat) := [(0, [0, 1, 2]), (1, [0, 1, 2, 9]), (2, [6]), (3, [0, 1, 2, 13]), (4, [6]), (5, [0, 1, 2, 8]), (6, [0, 1, 2, 32]), (7, [6]), (8, [6]), (5000003, []), (6246404000003, [5, 6, 20504, 20987927, 20987930, 20987941]), (6246406000003, [])]
def od_L24_BucketOnce_49 : List (Nat × Ord) := []
noncomputable def E_L24_BucketOnce_49 : Env := ⟨0, 0, et_L24_BucketOnce, tt_L24_BucketOnce, fns_L24_BucketOnce, pr_L24_BucketOnce_51, od_L24_BucketOnce_49, kp_L24_BucketOnce_49, none, []⟩
noncomputable def pr_L24_BucketOnce_49 : List (Nat × Proc) := (49, procR E_L24_BucketOnce_49 40 [.tmp 6] (bodyOf Try.f49)) :: pr_L24_BucketOnce_51
theorem pr_L24_BucketOnce_49_ok : PrsOk Go.Proofs.Try.prog pr_L24_BucketOnce_49 :=
  PrsOk.cons (proc_conR (E := E_L24_BucketOnce_49) (EnvC.sub (off := 0) (nt := 0) (ords := od_L24_BucketOnce_49) (keep := kp_L24_BucketOnce_49) (yl := none) tt_ok et_ok fns_L24_BucketOnce_ok (pr_L24_BucketOnce_51_ok) (ItsOk.nil _) tt_L24_BucketOnce_ok et_L24_BucketOnce_ok) (PrOk.of mixed_ok) Go.Proofs.Try.func49 rfl (by decide) rfl rfl) (pr_L24_BucketOnce_51_ok)
def L24_BucketOnce_S1 (u0 : AV) (u1 : AV) (B2 : Blk) (x2 : Int × (List (Int × Int × Unit)) × Int × Int × Int) : St :=
  ⟨[(6, u0), (45, u1), (46, .int .i64 x2.1)], [(20987927, .row 165 (.pair (.int .i64) (.pair (.int .i64) .unit)) x2.2.1 false), (20987930, .var (.pair (.sl (.pair (.int .i64) (.pair (.int .i64) .unit))) (.pair (.sl (.pair (.int .i64) (.pair (.int .i64) (.pair (.int .i64) .unit)))) (.pair (.pair (.int .i64) (.pair (.int .i64) (.pair (.int .i64) .unit))) .unit))) (.agg [.own 20987927, .own 20987941, .agg [.int .i64 x2.2.2.1, .int .i64 x2.2.2.2.1, .int .i64 x2.2.2.2.2]]) false), (20987941, B2)], (some ([20987940, 20987941], 0))⟩
def L24_BucketOnce_M1 : Msk := ⟨[6, 45, 46], [20987927, 20987930, 20987941], [], [], [20987940, 20987941], [], [], [], []⟩
def L24_BucketOnce_S2 (u0 : AV) (u1 : AV) (B2 : Blk) (B4 : Blk) (x3 : Int × (List (Int × Int × Int × Unit))) : St :=
  ⟨[(6, u0), (27, u1), (28, .int .i64 x3.1)], [(20987927, B2), (20987930, B4), (20987941, .row 79 (.pair (.int .i64) (.pair (.int .i64) (.pair (.int .i64) .unit))) x3.2 false)], (some ([20987940, 20987941], 0))⟩
def L24_BucketOnce_M2 : Msk := ⟨[6, 27, 28], [20987927, 20987930, 20987941], [], [(20987930, [1], 20987941, 77)], [20987940, 20987941], [], [], [], []⟩
def L24_BucketOnce_S3 (u0 : AV) (u1 : AV) (B3 : Blk) (x8 : Int × Int × List Int × List Int × (List (Int × Int × Unit)) × Int × Int × Int × (List (Int × Int × Int × Unit))) : St :=
  ⟨[(0, u0), (1, .int .i64 x8.1), (8, u1), (9, .int .i64 x8.2.1)], [(5, .var (.arr 16 (.int .i64)) (.arr 16 (.int .i64) x8.2.2.1) false), (6, .var (.arr 16 (.int .i64)) (.arr 16 (.int .i64) x8.2.2.2.1) false), (20504, B3), (20987927, .row 165 (.pair (.int .i64) (.pair (.int .i64) .unit)) x8.2.2.2.2.1 false), (20987930, .var (.pair (.sl (.pair (.int .i64) (.pair (.int .i64) .unit))) (.pair (.sl (.pair (.int .i64) (.pair (.int .i64) (.pair (.int .i64) .unit)))) (.pair (.pair (.int .i64) (.pair (.int .i64) (.pair (.int .i64) .unit))) .unit))) (.agg [.own 20987927, .own 20987941, .agg [.int .i64 x8.2.2.2.2.2.1, .int .i64 x8.2.2.2.2.2.2.1, .int .i64 x8.2.2.2.2.2.2.2.1]]) false), (20987941, .row 79 (.pair (.int .i64) (.pair (.int .i64) (.pair (.int .i64) .unit))) x8.2.2.2.2.2.2.2.2 false)], (some ([67102437298177, 20987927, 20987941], 0))⟩
def L24_BucketOnce_M3 : Msk := ⟨[0, 1, 8, 9], [5, 6, 20504, 20987927, 20987930, 20987941], [], [], [67102437298177, 20987927, 20987941], [], [], [], []⟩
def L24_BucketOnce_S4 (u0 : AV) (u1 : AV) (u2 : AV) (u3 : AV) (u4 : AV) (u5 : AV) (u6 : AV) (B8 : Blk) (B10 : Blk) (B12 : Blk) (B13 : Blk) (B15 : Blk) (B16 : Blk) (x10 : Int) : St :=
  ⟨[(3, u0), (5, u1), (6, u2), (9, u3), (38, u4), (39, u5), (40, u6), (117, .int .i64 x10)], [(5, B8), (6, B10), (20504, B12), (20987927, B13), (20987930, B15), (20987941, B16)], none⟩
def L24_BucketOnce_M4 : Msk := ⟨[3, 5, 6, 9, 38, 39, 40, 117], [5, 6, 20504, 20987927, 20987930, 20987941], [], [], [], [], [], [], []⟩
def L24_BucketOnce_S5 (u0 : AV) (u1 : AV) (u2 : AV) (u3 : AV) (u4 : AV) (u5 : AV) (u6 : AV) (u7 : AV) (u8 : AV) (u9 : AV) (u10 : AV) (B12 : Blk) (B14 : Blk) (B16 : Blk) (B17 : Blk) (B19 : Blk) (B20 : Blk) (x11 : Unit) : St :=
  ⟨[(3, u0), (5, u1), (6, u2), (9, u3), (14, u4), (38, u5), (39, u6), (40, u7), (85, u8), (86, u9), (87, u10)], [(5, B12), (6, B14), (20504, B16), (20987927, B17), (20987930, B19), (20987941, B20)], none⟩
def L24_BucketOnce_M5 : Msk := ⟨[3, 5, 6, 9, 14, 38, 39, 40, 85, 86, 87], [5, 6, 20504, 20987927, 20987930, 20987941], [], [], [], [], [], [], []⟩
def L24_BucketOnce_S6 (u0 : AV) (u1 : AV) (u2 : AV) (u3 : AV) (u4 : AV) (B6 : Blk) (B8 : Blk) (B10 : Blk) (B11 : Blk) (B13 : Blk) (B14 : Blk) (x12 : Unit) : St :=
  ⟨[(0, u0), (1, u1), (6, u2), (22, u3), (23, u4)], [(5, B6), (6, B8), (20504, B10), (20987927, B11), (20987930, B13), (20987941, B14)], (some ([], 0))⟩
def L24_BucketOnce_M6 : Msk := ⟨[0, 1, 6, 22, 23], [5, 6, 20504, 20987927, 20987930, 20987941], [], [], [], [], [], [], []⟩
def L24_BucketOnce_S7 (u0 : AV) (u1 : AV) (u2 : AV) (u3 : AV) (u4 : AV) (u5 : AV) (u6 : AV) (B8 : Blk) (B10 : Blk) (B12 : Blk) (B13 : Blk) (B15 : Blk) (B16 : Blk) (x13 : Int) : St :=
  ⟨[(3, u0), (5, u1), (6, u2), (9, u3), (38, u4), (39, u5), (40, u6), (117, .int .i64 x13)], [(5, B8), (6, B10), (20504, B12), (20987927, B13), (20987930, B15), (20987941, B16)], none⟩
def L24_BucketOnce_M7 : Msk := ⟨[3, 5, 6, 9, 38, 39, 40, 117], [5, 6, 20504, 20987927, 20987930, 20987941], [], [], [], [], [], [], []⟩
def L24_BucketOnce_S8 (u0 : AV) (u1 : AV) (u2 : AV) (u3 : AV) (u4 : AV) (u5 : AV) (u6 : AV) (u7 : AV) (u8 : AV) (B10 : Blk) (B12 : Blk) (B13 : Blk) (B15 : Blk) (B16 : Blk) (B17 : Blk) (x14 : Int × Int × List Int) : St :=
  ⟨[(3, u0), (5, u1), (6, u2), (9, u3), (14, .int .i64 x14.1), (38, u4), (39, u5), (40, u6), (85, u7), (86, u8), (87, .int .i64 x14.2.1)], [(5, .var (.arr 16 (.int .i64)) (.arr 16 (.int .i64) x14.2.2) false), (6, B10), (20504, B12), (20987927, B13), (20987930, B15), (20987941, B16), (86995128321, B17)], none⟩
def L24_BucketOnce_M8 : Msk := ⟨[3, 5, 6, 9, 14, 38, 39, 40, 85, 86, 87], [5, 6, 20504, 20987927, 20987930, 20987941, 86995128321], [], [], [], [], [], [], []⟩
def L24_BucketOnce_S9 (u0 : AV) (u1 : AV) (u2 : AV) (u3 : AV) (u4 : AV) (u5 : AV) (u6 : AV) (B8 : Blk) (B10 : Blk) (B12 : Blk) (B13 : Blk) (B15 : Blk) (B16 : Blk) (x16 : Int) : St :=
  ⟨[(3, u0), (5, u1), (6, u2), (9, u3), (38, u4), (39, u5), (40, u6), (117, .int .i64 x16)], [(5, B8), (6, B10), (20504, B12), (20987927, B13), (20987930, B15), (20987941, B16)], none⟩
def L24_BucketOnce_M9 : Msk := ⟨[3, 5, 6, 9, 38, 39, 40, 117], [5, 6, 20504, 20987927, 20987930, 20987941], [], [], [], [], [], [], []⟩
def L24_BucketOnce_S10 (u0 : AV) (u1 : AV) (u2 : AV) (u3 : AV) (u4 : AV) (u5 : AV) (u6 : AV) (u7 : AV) (u8 : AV) (u9 : AV) (u10 : AV) (B12 : Blk) (B14 : Blk) (B16 : Blk) (B17 : Blk) (B19 : Blk) (B20 : Blk) (x17 : Unit) : St :=
  ⟨[(3, u0), (5, u1), (6, u2), (9, u3), (14, u4), (38, u5), (39, u6), (40, u7), (85, u8), (86, u9), (87, u10)], [(5, B12), (6, B14), (20504, B16), (20987927, B17), (20987930, B19), (20987941, B20)], none⟩
def L24_BucketOnce_M10 : Msk := ⟨[3, 5, 6, 9, 14, 38, 39, 40, 85, 86, 87], [5, 6, 20504, 20987927, 20987930, 20987941], [], [], [], [], [], [], []⟩
def L24_BucketOnce_S11 (u0 : AV) (u1 : AV) (u2 : AV) (u3 : AV) (B5 : Blk) (B7 : Blk) (B9 : Blk) (B10 : Blk) (x15 : Int × (List (Int × Int × Unit)) × Int × Int × Int × (List (Int × Int × Int × Unit))) : St :=
  ⟨[(0, u0), (1, u1), (6, u2), (22, u3), (23, .int .i64 x15.1)], [(5, B5), (6, B7), (20504, B9), (20987927, .row 165 (.pair (.int .i64) (.pair (.int .i64) .unit)) x15.2.1 false), (20987930, .var (.pair (.sl (.pair (.int .i64) (.pair (.int .i64) .unit))) (.pair (.sl (.pair (.int .i64) (.pair (.int .i64) (.pair (.int .i64) .unit)))) (.pair (.pair (.int .i64) (.pair (.int .i64) (.pair (.int .i64) .unit))) .unit))) (.agg [.own 20987927, .own 20987941, .agg [.int .i64 x15.2.2.1, .int .i64 x15.2.2.2.1, .int .i64 x15.2.2.2.2.1]]) false), (20987941, .row 79 (.pair (.int .i64) (.pair (.int .i64) (.pair (.int .i64) .unit))) x15.2.2.2.2.2 false), (86995128321, B10)], (some ([20987927, 20987941, 86995128321], 0))⟩
def L24_BucketOnce_M11 : Msk := ⟨[0, 1, 6, 22, 23], [5, 6, 20504, 20987927, 20987930, 20987941, 86995128321], [], [], [20987927, 20987941, 86995128321], [], [], [], []⟩
def L24_BucketOnce_S12 (u0 : AV) (u1 : AV) (u2 : AV) (u3 : AV) (u4 : AV) (u5 : AV) (u6 : AV) (B8 : Blk) (B10 : Blk) (B12 : Blk) (B13 : Blk) (B15 : Blk) (B16 : Blk) (x18 : Int) : St :=
  ⟨[(3, u0), (5, u1), (6, u2), (9, u3), (38, u4), (39, u5), (40, u6), (117, .int .i64 x18)], [(5, B8), (6, B10), (20504, B12), (20987927, B13), (20987930, B15), (20987941, B16)], none⟩
def L24_BucketOnce_M12 : Msk := ⟨[3, 5, 6, 9, 38, 39, 40, 117], [5, 6, 20504, 20987927, 20987930, 20987941], [], [], [], [], [], [], []⟩
def L24_BucketOnce_S13 (u0 : AV) (u1 : AV) (u2 : AV) (u3 : AV) (u4 : AV) (u5 : AV) (u6 : AV) (u7 : AV) (u8 : AV) (u9 : AV) (u10 : AV) (B12 : Blk) (B14 : Blk) (B16 : Blk) (B17 : Blk) (B19 : Blk) (B20 : Blk) (x19 : Unit) : St :=
  ⟨[(3, u0), (5, u1), (6, u2), (9, u3), (14, u4), (38, u5), (39, u6), (40, u7), (85, u8), (86, u9), (87, u10)], [(5, B12), (6, B14), (20504, B16), (20987927, B17), (20987930, B19), (20987941, B20)], none⟩
def L24_BucketOnce_M13 : Msk := ⟨[3, 5, 6, 9, 14, 38, 39, 40, 85, 86, 87], [5, 6, 20504, 20987927, 20987930, 20987941], [], [], [], [], [], [], []⟩
def L24_BucketOnce_S14 (u0 : AV) (u1 : AV) (u2 : AV) (u3 : AV) (u4 : AV) (B6 : Blk) (B8 : Blk) (B10 : Blk) (B11 : Blk) (B13 : Blk) (B14 : Blk) (x20 : Unit) : St :=
  ⟨[(0, u0), (1, u1), (6, u2), (22, u3), (23, u4)], [(5, B6), (6, B8), (20504, B10), (20987927, B11), (20987930, B13), (20987941, B14)], (some ([], 0))⟩
def L24_BucketOnce_M14 : Msk := ⟨[0, 1, 6, 22, 23], [5, 6, 20504, 20987927, 20987930, 20987941], [], [], [], [], [], [], []⟩
def L24_BucketOnce_S15 (u0 : AV) (u1 : AV) (u2 : AV) (B4 : Blk) (x4 : List (List Int) × Int × Int × List Int × List Int × (List (Int × Int × Unit)) × Int × Int × Int × (List (Int × Int × Int × Unit))) : St :=
  ⟨[(3, u0), (5, u1), (6, u2), (38, .ro (.arr 3 (.int .u8)) x4.1), (39, .int .i64 x4.2.1), (40, .int .i64 x4.2.2.1)], [(5, .var (.arr 16 (.int .i64)) (.arr 16 (.int .i64) x4.2.2.2.1) false), (6, .var (.arr 16 (.int .i64)) (.arr 16 (.int .i64) x4.2.2.2.2.1) false), (20504, B4), (20987927, .row 165 (.pair (.int .i64) (.pair (.int .i64) .unit)) x4.2.2.2.2.2.1 false), (20987930, .var (.pair (.sl (.pair (.int .i64) (.pair (.int .i64) .unit))) (.pair (.sl (.pair (.int .i64) (.pair (.int .i64) (.pair (.int .i64) .unit)))) (.pair (.pair (.int .i64) (.pair (.int .i64) (.pair (.int .i64) .unit))) .unit))) (.agg [.own 20987927, .own 20987941, .agg [.int .i64 x4.2.2.2.2.2.2.1, .int .i64 x4.2.2.2.2.2.2.2.1, .int .i64 x4.2.2.2.2.2.2.2.2.1]]) false), (20987941, .row 79 (.pair (.int .i64) (.pair (.int .i64) (.pair (.int .i64) .unit))) x4.2.2.2.2.2.2.2.2.2 false)], none⟩
def L24_BucketOnce_M15 : Msk := ⟨[3, 5, 6, 38, 39, 40], [5, 6, 20504, 20987927, 20987930, 20987941], [], [], [], [], [], [], []⟩
def L24_BucketOnce_Q1 (x1 : List (List Int) × (List (Int × Int × Unit)) × Int × Int × Int × (List (Int × Int × Int × Unit))) : St :=
  ⟨[(0, .ro (.arr 3 (.int .u8)) x1.1), (3, .dead), (4, .dead), (18, .dead), (19, .tup [.ptr 20504 [], .int .i64 0]), (20, .dead), (21, .dead)], [(20504, .var (.pair (.opq 0) (.pair (.int .i64) .unit)) (.agg [.ptr 20987930 [], .int .i64 4]) false), (20987927, .row 165 (.pair (.int .i64) (.pair (.int .i64) .unit)) x1.2.1 false), (20987930, .var (.pair (.sl (.pair (.int .i64) (.pair (.int .i64) .unit))) (.pair (.sl (.pair (.int .i64) (.pair (.int .i64) (.pair (.int .i64) .unit)))) (.pair (.pair (.int .i64) (.pair (.int .i64) (.pair (.int .i64) .unit))) .unit))) (.agg [.own 20987927, .own 20987941, .agg [.int .i64 x1.2.2.1, .int .i64 x1.2.2.2.1, .int .i64 x1.2.2.2.2.1]]) false), (20987941, .row 79 (.pair (.int .i64) (.pair (.int .i64) (.pair (.int .i64) .unit))) x1.2.2.2.2.2 false)], none⟩
def L24_BucketOnce_Q2 (x7 : Int × Int × Bool × List Int × List Int × (List (Int × Int × Unit)) × Int × Int × Int × (List (Int × Int × Int × Unit))) : St :=
  ⟨[(0, .ptr 20504 []), (1, .int .i64 x7.1), (2, .int .i64 x7.2.1), (13, .bool x7.2.2.1)], [(5, .var (.arr 16 (.int .i64)) (.arr 16 (.int .i64) x7.2.2.2.1) false), (6, .var (.arr 16 (.int .i64)) (.arr 16 (.int .i64) x7.2.2.2.2.1) false), (20504, .var (.pair (.opq 0) (.pair (.int .i64) .unit)) (.agg [.ptr 20987930 [], .int .i64 4]) false), (20987927, .row 165 (.pair (.int .i64) (.pair (.int .i64) .unit)) x7.2.2.2.2.2.1 false), (20987930, .var (.pair (.sl (.pair (.int .i64) (.pair (.int .i64) .unit))) (.pair (.sl (.pair (.int .i64) (.pair (.int .i64) (.pair (.int .i64) .unit)))) (.pair (.pair (.int .i64) (.pair (.int .i64) (.pair (.int .i64) .unit))) .unit))) (.agg [.own 20987927, .own 20987941, .agg [.int .i64 x7.2.2.2.2.2.2.1, .int .i64 x7.2.2.2.2.2.2.2.1, .int .i64 x7.2.2.2.2.2.2.2.2.1]]) false), (20987941, .row 79 (.pair (.int .i64) (.pair (.int .i64) (.pair (.int .i64) .unit))) x7.2.2.2.2.2.2.2.2.2 false)], (some ([], 0))⟩
def L24_BucketOnce_Q3 (x9 : Int × Int × Int × Bool × List Int × List Int × (List (Int × Int × Unit)) × Int × Int × Int × (List (Int × Int × Int × Unit))) : St :=
  ⟨[(0, .ptr 20504 []), (1, .int .i64 x9.1), (6, .int .i64 x9.2.1), (8, .int .i64 4), (9, .int .i64 x9.2.2.1), (16, .bool x9.2.2.2.1)], [(5, .var (.arr 16 (.int .i64)) (.arr 16 (.int .i64) x9.2.2.2.2.1) false), (6, .var (.arr 16 (.int .i64)) (.arr 16 (.int .i64) x9.2.2.2.2.2.1) false), (20504, .var (.pair (.opq 0) (.pair (.int .i64) .unit)) (.agg [.ptr 20987930 [], .int .i64 4]) false), (20987927, .row 165 (.pair (.int .i64) (.pair (.int .i64) .unit)) x9.2.2.2.2.2.2.1 false), (20987930, .var (.pair (.sl (.pair (.int .i64) (.pair (.int .i64) .unit))) (.pair (.sl (.pair (.int .i64) (.pair (.int .i64) (.pair (.int .i64) .unit)))) (.pair (.pair (.int .i64) (.pair (.int .i64) (.pair (.int .i64) .unit))) .unit))) (.agg [.own 20987927, .own 20987941, .agg [.int .i64 x9.2.2.2.2.2.2.2.1, .int .i64 x9.2.2.2.2.2.2.2.2.1, .int .i64 x9.2.2.2.2.2.2.2.2.2.1]]) false), (20987941, .row 79 (.pair (.int .i64) (.pair (.int .i64) (.pair (.int .i64) .unit))) x9.2.2.2.2.2.2.2.2.2.2 false)], (some ([67102437298177, 20987927, 20987941], 0))⟩
def L24_BucketOnce_Q4 (x6 : Int × Int × Int × List (List Int) × Int × Int × Int × List Int × List Int × (List (Int × Int × Unit)) × Int × Int × Int × (List (Int × Int × Int × Unit))) : St :=
  ⟨[(3, .ptr 20504 []), (5, .ptr 5 []), (6, .ptr 6 []), (7, .int .i64 x6.1), (9, .int .i64 x6.2.1), (10, .int .i64 x6.2.2.1), (11, .dead), (38, .ro (.arr 3 (.int .u8)) x6.2.2.2.1), (39, .int .i64 x6.2.2.2.2.1), (40, .int .i64 x6.2.2.2.2.2.1), (60, .int .i64 x6.2.2.2.2.2.2.1)], [(5, .var (.arr 16 (.int .i64)) (.arr 16 (.int .i64) x6.2.2.2.2.2.2.2.1) false), (6, .var (.arr 16 (.int .i64)) (.arr 16 (.int .i64) x6.2.2.2.2.2.2.2.2.1) false), (20504, .var (.pair (.opq 0) (.pair (.int .i64) .unit)) (.agg [.ptr 20987930 [], .int .i64 4]) false), (20987927, .row 165 (.pair (.int .i64) (.pair (.int .i64) .unit)) x6.2.2.2.2.2.2.2.2.2.1 false), (20987930, .var (.pair (.sl (.pair (.int .i64) (.pair (.int .i64) .unit))) (.pair (.sl (.pair (.int .i64) (.pair (.int .i64) (.pair (.int .i64) .unit)))) (.pair (.pair (.int .i64) (.pair (.int .i64) (.pair (.int .i64) .unit))) .unit))) (.agg [.own 20987927, .own 20987941, .agg [.int .i64 x6.2.2.2.2.2.2.2.2.2.2.1, .int .i64 x6.2.2.2.2.2.2.2.2.2.2.2.1, .int .i64 x6.2.2.2.2.2.2.2.2.2.2.2.2.1]]) false), (20987941, .row 79 (.pair (.int .i64) (.pair (.int .i64) (.pair (.int .i64) .unit))) x6.2.2.2.2.2.2.2.2.2.2.2.2.2 false)], none⟩
def L24_BucketOnce_Q5 (x5 : List (List Int) × Int × Int × List Int × List Int × (List (Int × Int × Unit)) × Int × Int × Int × (List (Int × Int × Int × Unit))) : St :=
  ⟨[(3, .ptr 20504 []), (5, .ptr 5 []), (6, .ptr 6 []), (38, .ro (.arr 3 (.int .u8)) x5.1), (39, .int .i64 x5.2.1), (40, .int .i64 x5.2.2.1)], [(5, .var (.arr 16 (.int .i64)) (.arr 16 (.int .i64) x5.2.2.2.1) false), (6, .var (.arr 16 (.int .i64)) (.arr 16 (.int .i64) x5.2.2.2.2.1) false), (20504, .var (.pair (.opq 0) (.pair (.int .i64) .unit)) (.agg [.ptr 20987930 [], .int .i64 4]) false), (20987927, .row 165 (.pair (.int .i64) (.pair (.int .i64) .unit)) x5.2.2.2.2.2.1 false), (20987930, .var (.pair (.sl (.pair (.int .i64) (.pair (.int .i64) .unit))) (.pair (.sl (.pair (.int .i64) (.pair (.int .i64) (.pair (.int .i64) .unit)))) (.pair (.pair (.int .i64) (.pair (.int .i64) (.pair (.int .i64) .unit))) .unit))) (.agg [.own 20987927, .own 20987941, .agg [.int .i64 x5.2.2.2.2.2.2.1, .int .i64 x5.2.2.2.2.2.2.2.1, .int .i64 x5.2.2.2.2.2.2.2.2.1]]) false), (20987941, .row 79 (.pair (.int .i64) (.pair (.int .i64) (.pair (.int .i64) .unit))) x5.2.2.2.2.2.2.2.2.2 false)], none⟩
def kp_L24_BucketOnce : List (Nat × List Nat) := [(0, [0]), (1, [0, 3, 4]), (2, [0, 3, 32]), (3, [2]), (4, [0, 3, 5, 6]), (5, [3, 5, 6, 38, 39, 40]), (6, [3, 5, 6, 38, 39, 40, 41]), (7, [3, 5, 6, 7, 8, 38, 39, 40]), (8, [3, 5, 6, 7, 8, 9, 10, 38, 39, 40]), (9, [3, 5, 6, 7, 9, 10, 38, 39, 40, 56]), (10, [3, 5, 6, 7, 9, 10, 11, 38, 39, 40]), (11, [3, 5, 6, 7, 9, 10, 11, 38, 39, 40, 67]), (12, [2]), (13, [3, 5, 6, 7, 9, 10, 38, 39, 40, 69]), (14, [3, 5, 6, 9, 10, 38, 39, 40]), (15, [3, 5, 6, 38, 39, 40]), (16, [3, 5, 6, 9, 12, 13, 38, 39, 40]), (17, [3, 5, 6, 9, 12, 38, 39, 40, 84]), (18, [2]), (19, [3, 5, 6, 9, 12, 14, 38, 39, 40]), (20, [3, 5, 6, 9, 14, 38, 39, 40, 85, 86, 87]), (21, [3, 5, 6, 9, 14, 38, 39, 40, 85, 86, 87, 88]), (22, [3, 5, 6, 9, 14, 16, 38, 39, 40, 85, 86, 87]), (23, [3, 5, 6, 9, 16, 38, 39, 40, 85, 86, 87, 110]), (24, [2]), (25, [3, 5, 6, 9, 14, 16, 38, 39, 40, 85, 86, 87]), (26, [3, 5, 6, 9, 14, 38, 39, 40, 85, 86, 87]), (27, [3, 5, 6, 9, 14, 38, 39, 40, 85, 86, 87]), (28, [3, 5, 6, 9, 38, 39, 40, 117]), (29, [3, 5, 6, 9, 38, 39, 40, 117, 118]), (30, [3, 5, 6, 9, 17, 38, 39, 40, 117]), (31, [3, 5, 6, 9, 38, 39, 40, 117, 130]), (32, [2]), (33, [3, 5, 6, 9, 38, 39, 40, 117]), (34, [3, 5, 6, 38, 39, 40]), (35, [2]), (12000001, []), (7000001, [3, 5, 6, 38, 39, 40]), (25000019, []), (20000019, [0, 3, 4, 18, 19, 20, 21]), (25000060, []), (20000060, [3, 5, 6, 7, 9, 10, 11, 38, 39, 40, 60]), (11000001, [5, 6, 20504, 20987927, 20987930, 20987941]), (13000001, []), (24000019, [20504, 20987927, 20987930, 20987941]), (26000019, []), (24000060, [5, 6, 20504, 20987927, 20987930, 20987941]), (26000060, []), (4000000, []), (4000001, [20504, 20987927, 20987930, 20987941]), (4000002, [20504, 20987927, 20987930, 20987941]), (4000003, []), (4000004, [5, 6, 20504, 20987927, 20987930, 20987941]), (4000005, [5, 6, 20504, 20987927, 20987930, 20987941]), (4000006, [5, 6, 20504, 20987927, 20987930, 20987941]), (4000007, [5, 6, 8, 20504, 20987927, 20987930, 20987941]), (4000008, [5, 6, 8, 20504, 20987927, 20987930, 20987941]), (4000009, [5, 6, 20504, 20987927, 20987930, 20987941]), (4000010, [5, 6, 20504, 20987927, 20987930, 20987941]), (4000011, [5, 6, 20504, 20987927, 20987930, 20987941]), (4000012, []), (4000013, [5, 6, 20504, 20987927, 20987930, 20987941]), (4000014, [5, 6, 20504, 20987927, 20987930, 20987941]), (4000015, [5, 6, 20504, 20987927, 20987930, 20987941]), (4000016, [5, 6, 20504, 20987927, 20987930, 20987941, 86995128321]), (4000017, [5, 6, 20504, 20987927, 20987930, 20987941, 86995128321]), (4000018, []), (4000019, [5, 6, 20504, 20987927, 20987930, 20987941, 86995128321]), (4000020, [5, 6, 20504, 20987927, 20987930, 20987941, 86995128321]), (4000021, [5, 6, 20504, 20987927, 20987930, 20987941, 86995128321]), (4000022, [5, 6, 20504, 20987927, 20987930, 20987941, 86995128321]), (4000023, [5, 6, 20504, 20987927, 20987930, 20987941, 86995128321]), (4000024, []), (4000025, [5, 6, 20504, 20987927, 20987930, 20987941, 86995128321]), (4000026, [5, 6, 20504, 20987927, 20987930, 20987941, 86995128321]), (4000027, [5, 6, 20504, 20987927, 20987930, 20987941, 86995128321]), (4000028, [5, 6, 20504, 20987927, 20987930, 20987941]), (4000029, [5, 6, 20504, 20987927, 20987930, 20987941]), (4000030, [5, 6, 20504, 20987927, 20987930, 20987941]), (4000031, [5, 6, 20504, 20987927, 20987930, 20987941]), (4000032, []), (4000033, [5, 6, 20504, 20987927, 20987930, 20987941]), (4000034, [5, 6, 20504, 20987927, 20987930, 20987941]), (4000035, []), (14000016, [86995128321])]
def od_L24_BucketOnce : List (Nat × Ord) := [(8, (.one 0 (.one 1 (.one 2 (.one 3 (.one 4 (.one 5 (.one 6 (.one 7 (.one 8 (.one 9 .nil)))))))))))]
noncomputable def E_L24_BucketOnce : Env := ⟨0, 0, et_L24_BucketOnce, tt_L24_BucketOnce, fns_L24_BucketOnce, pr_L24_BucketOnce_49, od_L24_BucketOnce, kp_L24_BucketOnce, none, []⟩
set_option maxRecDepth 100000 in
set_option maxHeartbeats 40000000 in
theorem c_L24_BucketOnce : PCon Go.Proofs.Try.prog 10 lf_L24_BucketOnce := by
  rw [lq_L24_BucketOnce]
  refine lift_conR (E := E_L24_BucketOnce) (c := bodyOf Try.f10) (nt := 134) (rs := [.tmp 2]) (ts := [4]) (EnvC.sub (off := 0) (nt := 0) (ords := od_L24_BucketOnce) (keep := kp_L24_BucketOnce) (yl := none) tt_ok et_ok fns_L24_BucketOnce_ok (pr_L24_BucketOnce_49_ok) (ItsOk.nil _) tt_L24_BucketOnce_ok et_L24_BucketOnce_ok) (PrOk.of mixed_ok) Go.Proofs.Try.func10 rfl (by decide) rfl rfl rfl (pureR_one (e := .bool) rfl) ?_
  intro x r hw hs
  repeat'
    (try (conv => whnf)
     first
       | (with_reducible have hs := letv_out hs)
       | (refine draw_and (by kernel_rfl) ?_)
       | (refine both_mk ?_ ?_)
       | (refine br_bool (fun h => ?_) (fun h => ?_) <;> first | have hs := cT h hs | have hs := cF h hs)
       | (refine bind_elim hs fun v hb hs => ?_; first | refine ck_L24_alive rfl hb ?_ | refine ck_slices_Contains_int_int rfl hb ?_ | refine cm_queue_Pool_Pop rfl hb ?_ | refine cm_queue_Pool_Push rfl hb ?_ | refine cm_queue_Pool_List rfl hb ?_)
       | refine chk_elim hs fun hs => ?_
       | (have hs := letv_out hs)
       | exact fin_some hs rfl
       | (intro b hb; first | have hs := nilq_elim hs b hb | have hs := nilqn_elim hs b hb)
       | exact hJ1 _ hs
       | exact hJ2 _ hs
       | exact hJ3 _ hs
       | exact hJ4 _ hs
       | exact hJ5 _ hs
       | exact hJ6 _ hs
       | exact hJ7 _ hs
       | exact hJ8 _ hs
       | exact hJ9 _ hs
       | exact hJ10 _ hs
       | exact hJ11 _ hs
       | exact hJ12 _ hs
       | exact hJ13 _ hs
       | exact hJ14 _ hs
       | exact hJ15 _ hs
       | exact hC1 _ hs
       | exact hC2 _ hs
       | exact hC3 _ hs
       | exact hC4 _ hs
       | exact hC5 _ hs
       | (refine cut_out 1 L24_BucketOnce_Q1 hs (fun Jc1 kc1 hC1 hs => ?_) (fun xc1 hs => ?_))
       | (refine cut_out 2 L24_BucketOnce_Q2 hs (fun Jc2 kc2 hC2 hs => ?_) (fun xc2 hs => ?_))
       | (refine cut_out 3 L24_BucketOnce_Q3 hs (fun Jc3 kc3 hC3 hs => ?_) (fun xc3 hs => ?_))
       | (refine cut_out 4 L24_BucketOnce_Q4 hs (fun Jc4 kc4 hC4 hs => ?_) (fun xc4 hs => ?_))
       | (refine cut_out 5 L24_BucketOnce_Q5 hs (fun Jc5 kc5 hC5 hs => ?_) (fun xc5 hs => ?_))
       | (have hs := cT rfl hs)
       | (have hs := cF rfl hs)
       | ((with_reducible have hs : L24_BucketOnce_J2 _ _ _ _ = some _ := hs); unfold L24_BucketOnce_J2 at hs)
       | ((with_reducible have hs : L24_BucketOnce_J6 _ _ _ = some _ := hs); unfold L24_BucketOnce_J6 at hs)
       | ((with_reducible have hs : L24_BucketOnce_J7 _ _ _ = some _ := hs); unfold L24_BucketOnce_J7 at hs)
       | ((with_reducible have hs : L24_BucketOnce_J9 _ _ _ _ _ _ _ _ _ = some _ := hs); unfold L24_BucketOnce_J9 at hs)
       | ((with_reducible have hs : L24_BucketOnce_J10 _ _ _ _ _ _ _ _ _ = some _ := hs); unfold L24_BucketOnce_J10 at hs)
       | ((with_reducible have hs : L24_BucketOnce_J12 _ _ _ _ = some _ := hs); unfold L24_BucketOnce_J12 at hs)
       | ((with_reducible have hs : L24_BucketOnce_J14 _ _ _ = some _ := hs); unfold L24_BucketOnce_J14 at hs)
       | ((with_reducible have hs : L24_BucketOnce_J15 _ _ _ = some _ := hs); unfold L24_BucketOnce_J15 at hs)
       | ((with_reducible have hs : loop (L24_BucketOnce_L1 _ _ _ _) _ = some _ := hs); refine vc_loopR (L24_BucketOnce_S1 _ _ _) L24_BucketOnce_M1 hs rfl ?_; intro J1 k1 x1 hJ1 hs)
       | ((with_reducible have hs : loop (L24_BucketOnce_L2 _ _ _) _ = some _ := hs); refine vc_loopR (L24_BucketOnce_S2 _ _ _ _) L24_BucketOnce_M2 hs rfl ?_; intro J2 k2 x2 hJ2 hs)
       | ((with_reducible have hs : loop (L24_BucketOnce_L3 _ _ _ _ _) _ = some _ := hs); refine vc_loopR (L24_BucketOnce_S3 _ _ _) L24_BucketOnce_M3 hs rfl ?_; intro J3 k3 x3 hJ3 hs)
       | ((with_reducible have hs : loop (L24_BucketOnce_L4 _ _ _) _ = some _ := hs); refine vc_loopR (L24_BucketOnce_S4 _ _ _ _ _ _ _ _ _ _ _ _ _) L24_BucketOnce_M4 hs rfl ?_; intro J4 k4 x4 hJ4 hs)
       | ((with_reducible have hs : loop (L24_BucketOnce_L5 _ _ _) _ = some _ := hs); refine vc_loopR (L24_BucketOnce_S5 _ _ _ _ _ _ _ _ _ _ _ _ _ _ _ _ _) L24_BucketOnce_M5 hs rfl ?_; intro J5 k5 x5 hJ5 hs)
       | ((with_reducible have hs : loop (L24_BucketOnce_L6 _ _ _) _ = some _ := hs); refine vc_loopR (L24_BucketOnce_S6 _ _ _ _ _ _ _ _ _ _ _) L24_BucketOnce_M6 hs rfl ?_; intro J6 k6 x6 hJ6 hs)
       | ((with_reducible have hs : loop (L24_BucketOnce_L7 _ _ _ _ _ _ _ _ _) _ = some _ := hs); refine vc_loopR (L24_BucketOnce_S7 _ _ _ _ _ _ _ _ _ _ _ _ _) L24_BucketOnce_M7 hs rfl ?_; intro J7 k7 x7 hJ7 hs)
       | ((with_reducible have hs : loop (L24_BucketOnce_L8 _ _ _ _ _ _ _ _ _ _) _ = some _ := hs); refine vc_loopR (L24_BucketOnce_S8 _ _ _ _ _ _ _ _ _ _ _ _ _ _ _) L24_BucketOnce_M8 hs rfl ?_; intro J8 k8 x8 hJ8 hs)
       | ((with_reducible have hs : loop (L24_BucketOnce_L9 _ _ _ _) _ = some _ := hs); refine vc_loopR (L24_BucketOnce_S9 _ _ _ _ _ _ _ _ _ _ _ _ _) L24_BucketOnce_M9 hs rfl ?_; intro J9 k9 x9 hJ9 hs)
       | ((with_reducible have hs : loop (L24_BucketOnce_L10 _ _ _ _) _ = some _ := hs); refine vc_loopR (L24_BucketOnce_S10 _ _ _ _ _ _ _ _ _ _ _ _ _ _ _ _ _) L24_BucketOnce_M10 hs rfl ?_; intro J10 k10 x10 hJ10 hs)
       | ((with_reducible have hs : loop (L24_BucketOnce_L11 _ _ _ _ _) _ = some _ := hs); refine vc_loopR (L24_BucketOnce_S11 _ _ _ _ _ _ _ _) L24_BucketOnce_M11 hs rfl ?_; intro J11 k11 x11 hJ11 hs)
       | ((with_reducible have hs : loop (L24_BucketOnce_L12 _ _ _) _ = some _ := hs); refine vc_loopR (L24_BucketOnce_S12 _ _ _ _ _ _ _ _ _ _ _ _ _) L24_BucketOnce_M12 hs rfl ?_; intro J12 k12 x12 hJ12 hs)
       | ((with_reducible have hs : loop (L24_BucketOnce_L13 _ _ _) _ = some _ := hs); refine vc_loopR (L24_BucketOnce_S13 _ _ _ _ _ _ _ _ _ _ _ _ _ _ _ _ _) L24_BucketOnce_M13 hs rfl ?_; intro J13 k13 x13 hJ13 hs)
       | ((with_reducible have hs : loop (L24_BucketOnce_L14 _ _ _) _ = some _ := hs); refine vc_loopR (L24_BucketOnce_S14 _ _ _ _ _ _ _ _ _ _ _) L24_BucketOnce_M14 hs rfl ?_; intro J14 k14 x14 hJ14 hs)
       | ((with_reducible have hs : loop L24_BucketOnce_L15 _ = some _ := hs); refine vc_loopR (L24_BucketOnce_S15 _ _ _ _) L24_BucketOnce_M15 hs rfl ?_; intro J15 k15 x15 hJ15 hs)
       | (refine vc_loopR (L24_BucketOnce_S1 _ _ _) L24_BucketOnce_M1 hs rfl ?_; intro J1 k1 x1 hJ1 hs)
       | (refine vc_loopR (L24_BucketOnce_S2 _ _ _ _) L24_BucketOnce_M2 hs rfl ?_; intro J2 k2 x2 hJ2 hs)
       | (refine vc_loopR (L24_BucketOnce_S3 _ _ _) L24_BucketOnce_M3 hs rfl ?_; intro J3 k3 x3 hJ3 hs)
       | (refine vc_loopR (L24_BucketOnce_S4 _ _ _ _ _ _ _ _ _ _ _ _ _) L24_BucketOnce_M4 hs rfl ?_; intro J4 k4 x4 hJ4 hs)
       | (refine vc_loopR (L24_BucketOnce_S5 _ _ _ _ _ _ _ _ _ _ _ _ _ _ _ _ _) L24_BucketOnce_M5 hs rfl ?_; intro J5 k5 x5 hJ5 hs)
       | (refine vc_loopR (L24_BucketOnce_S6 _ _ _ _ _ _ _ _ _ _ _) L24_BucketOnce_M6 hs rfl ?_; intro J6 k6 x6 hJ6 hs)
       | (refine vc_loopR (L24_BucketOnce_S7 _ _ _ _ _ _ _ _ _ _ _ _ _) L24_BucketOnce_M7 hs rfl ?_; intro J7 k7 x7 hJ7 hs)
       | (refine vc_loopR (L24_BucketOnce_S8 _ _ _ _ _ _ _ _ _ _ _ _ _ _ _) L24_BucketOnce_M8 hs rfl ?_; intro J8 k8 x8 hJ8 hs)
       | (refine vc_loopR (L24_BucketOnce_S9 _ _ _ _ _ _ _ _ _ _ _ _ _) L24_BucketOnce_M9 hs rfl ?_; intro J9 k9 x9 hJ9 hs)
       | (refine vc_loopR (L24_BucketOnce_S10 _ _ _ _ _ _ _ _ _ _ _ _ _ _ _ _ _) L24_BucketOnce_M10 hs rfl ?_; intro J10 k10 x10 hJ10 hs)
       | (refine vc_loopR (L24_BucketOnce_S11 _ _ _ _ _ _ _ _) L24_BucketOnce_M11 hs rfl ?_; intro J11 k11 x11 hJ11 hs)
       | (refine vc_loopR (L24_BucketOnce_S12 _ _ _ _ _ _ _ _ _ _ _ _ _) L24_BucketOnce_M12 hs rfl ?_; intro J12 k12 x12 hJ12 hs)
       | (refine vc_loopR (L24_BucketOnce_S13 _ _ _ _ _ _ _ _ _ _ _ _ _ _ _ _ _) L24_BucketOnce_M13 hs rfl ?_; intro J13 k13 x13 hJ13 hs)
       | (refine vc_loopR (L24_BucketOnce_S14 _ _ _ _ _ _ _ _ _ _ _) L24_BucketOnce_M14 hs rfl ?_; intro J14 k14 x14 hJ14 hs)
       | (refine vc_loopR (L24_BucketOnce_S15 _ _ _ _) L24_BucketOnce_M15 hs rfl ?_; intro J15 k15 x15 hJ15 hs)
       | exact (none_ne hs).elim)
theorem cq_L24_BucketOnce : PCon Go.Proofs.Try.prog 10 (liftF (.pair (.sl (.arr 3 (.int .u8))) .unit) (unpack .bool) (fun x => L24_BucketOnce x.1)) := lq_L24_BucketOnce ▸ c_L24_BucketOnce
end Go.Proofs.YtiicmhholjpcbaaV
