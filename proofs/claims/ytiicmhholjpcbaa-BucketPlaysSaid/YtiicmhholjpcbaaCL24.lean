import Derived.Test.YtiicmhholjpcbaaVcTab
import Derived.Test.YtiicmhholjpcbaaDL24
import Derived.Test.YtiicmhholjpcbaaCR02
import Derived.Test.YtiicmhholjpcbaaCR24
import Derived.Test.YtiicmhholjpcbaaCqueue
import Derived.Test.YtiicmhholjpcbaaCslices
namespace Go.Proofs.YtiicmhholjpcbaaV
open Go.Proofs
set_option linter.unusedVariables false
noncomputable def lf_L24_alive : List AV → Option AV := liftF .unit (unpack .bool) (fun x => L24_alive)
theorem lq_L24_alive : lf_L24_alive = liftF .unit (unpack .bool) (fun x => L24_alive) := rfl
attribute [irreducible] lf_L24_alive
theorem ck_L24_alive {vs : List AV} {k : AV → Prop} {x : (.unit : Ty).den} {v : Bool} (h1 : pks .unit vs = some x) (h2 : L24_alive = some v) (h3 : k ((unpack .bool) v)) : callK (lf_L24_alive vs) k := by
  rw [lq_L24_alive]; exact callK_lift h1 h2 h3
def tt_L24_alive : List (Nat × Ty) := [(3, .int .i64), (4, .bool), (24, .int .i64), (36, .sl (.int .i64)), (56, .opq 0), (76, .sl (.pair (.int .i64) (.pair (.int .i64) .unit))), (77, .sl (.pair (.int .i64) (.pair (.int .i64) (.pair (.int .i64) .unit)))), (79, .pair (.int .i64) (.pair (.int .i64) (.pair (.int .i64) .unit))), (81, .pair (.sl (.pair (.int .i64) (.pair (.int .i64) .unit))) (.pair (.sl (.pair (.int .i64) (.pair (.int .i64) (.pair (.int .i64) .unit)))) (.pair (.pair (.int .i64) (.pair (.int .i64) (.pair (.int .i64) .unit))) .unit))), (86, .opq 0), (109, .pair (.opq 0) (.pair (.int .i64) .unit)), (161, .opq 0), (165, .pair (.int .i64) (.pair (.int .i64) .unit))]
def et_L24_alive : List (Nat × Nat) := [(36, 3), (76, 165), (77, 79)]
theorem tt_L24_alive_ok : subT tt tt_L24_alive = true := by kernel_rfl
theorem et_L24_alive_ok : subE et et_L24_alive = true := by kernel_rfl
noncomputable def fns_L24_alive : List (Nat × (List AV → Option AV)) := [(48, lf_R02_Same), (96, lf_slices_Contains_int_int)]
theorem fns_L24_alive_ok : FnsOk Go.Proofs.Try.prog fns_L24_alive := FnsOk.cons c_R02_Same (FnsOk.cons c_slices_Contains_int_int (FnsOk.nil _))
noncomputable def pm_L24_alive_34 : List (Nat × Proc) := (34, sumOr fs_queue_Pool_Pop rk_queue_Pool_Pop gm_queue_Pool_Pop noP) :: []
theorem pm_L24_alive_34_ok : PrsOk Go.Proofs.Try.prog pm_L24_alive_34 := PrsOk.cons (sumOr_con ms_queue_Pool_Pop no_con) (PrsOk.nil _)
noncomputable def pm_L24_alive_36 : List (Nat × Proc) := (36, sumOr fs_queue_Pool_Push rk_queue_Pool_Push gm_queue_Pool_Push noP) :: pm_L24_alive_34
theorem pm_L24_alive_36_ok : PrsOk Go.Proofs.Try.prog pm_L24_alive_36 := PrsOk.cons (sumOr_con ms_queue_Pool_Push no_con) (pm_L24_alive_34_ok)
noncomputable def pm_L24_alive_41 : List (Nat × Proc) := (41, sumOr fs_queue_Pool_List rk_queue_Pool_List gm_queue_Pool_List noP) :: pm_L24_alive_36
theorem pm_L24_alive_41_ok : PrsOk Go.Proofs.Try.prog pm_L24_alive_41 := PrsOk.cons (sumOr_con ms_queue_Pool_List no_con) (pm_L24_alive_36_ok)
def kp_L24_alive_84 : List (Nat × List Nat) := [(0, [0, 1, 2]), (1, [0, 1, 2, 17]), (2, [1, 2]), (3, [1, 2]), (4, [1]), (5, [])]
def od_L24_alive_84 : List (Nat × Ord) := [(3, (.one 0 (.one 1 (.one 2 (.one 3 (.one 4 (.one 5 (.one 6 (.one 7 (.one 8 (.one 9 (.one 10 (.one 100011 .nil)))))))))))))]
noncomputable def E_L24_alive_84 : Env := ⟨0, 0, et_L24_alive, tt_L24_alive, fns_L24_alive, pm_L24_alive_41, od_L24_alive_84, kp_L24_alive_84, none, []⟩
noncomputable def pr_L24_alive_84 : List (Nat × Proc) := (84, procR E_L24_alive_84 44 [] (bodyOf Try.f84)) :: pm_L24_alive_41
theorem pr_L24_alive_84_ok : PrsOk Go.Proofs.Try.prog pr_L24_alive_84 :=
  PrsOk.cons (proc_conR (E := E_L24_alive_84) (EnvC.sub (off := 0) (nt := 0) (ords := od_L24_alive_84) (keep := kp_L24_alive_84) (yl := none) tt_ok et_ok fns_L24_alive_ok (pm_L24_alive_41_ok) (ItsOk.nil _) tt_L24_alive_ok et_L24_alive_ok) (PrOk.of mixed_ok) Go.Proofs.Try.func84 rfl (by decide) rfl rfl) (pm_L24_alive_41_ok)
def kp_L24_alive_30 : List (Nat × List Nat) := [(0, [0, 1]), (1, [0, 1, 21]), (2, [4, 5]), (3, [0, 6]), (4, [6, 27, 28]), (5, [6, 27, 28, 29]), (6, [6, 27, 28]), (7, [6, 27, 28]), (8, [6, 45, 46]), (9, [6, 45, 46, 47]), (10, [6, 7, 45, 46]), (11, [6, 45, 46]), (12, [6, 45, 46]), (13, [4, 5])]
def od_L24_alive_30 : List (Nat × Ord) := []
noncomputable def E_L24_alive_30 : Env := ⟨0, 0, et_L24_alive, tt_L24_alive, fns_L24_alive, pr_L24_alive_84, od_L24_alive_30, kp_L24_alive_30, none, []⟩
noncomputable def pr_L24_alive_30 : List (Nat × Proc) := (30, procR E_L24_alive_30 57 [.tmp 4, .tmp 5] (bodyOf Try.f30)) :: pr_L24_alive_84
theorem pr_L24_alive_30_ok : PrsOk Go.Proofs.Try.prog pr_L24_alive_30 :=
  PrsOk.cons (proc_conR (E := E_L24_alive_30) (EnvC.sub (off := 0) (nt := 0) (ords := od_L24_alive_30) (keep := kp_L24_alive_30) (yl := none) tt_ok et_ok fns_L24_alive_ok (pr_L24_alive_84_ok) (ItsOk.nil _) tt_L24_alive_ok et_L24_alive_ok) (PrOk.of mixed_ok) Go.Proofs.Try.func30 rfl (by decide) rfl rfl) (pr_L24_alive_84_ok)
def kp_L24_alive_44 : List (Nat × List Nat) := [(0, [0]), (1, [0, 11]), (2, [2, 3]), (3, [0, 4, 5]), (4, [0, 4, 5, 19]), (5, [2, 3]), (6, [2, 3])]
def od_L24_alive_44 : List (Nat × Ord) := []
noncomputable def E_L24_alive_44 : Env := ⟨0, 0, et_L24_alive, tt_L24_alive, fns_L24_alive, pr_L24_alive_30, od_L24_alive_44, kp_L24_alive_44, none, []⟩
noncomputable def pr_L24_alive_44 : List (Nat × Proc) := (44, procR E_L24_alive_44 25 [.tmp 2, .tmp 3] (bodyOf Try.f44)) :: pr_L24_alive_30
theorem pr_L24_alive_44_ok : PrsOk Go.Proofs.Try.prog pr_L24_alive_44 :=
  PrsOk.cons (proc_conR (E := E_L24_alive_44) (EnvC.sub (off := 0) (nt := 0) (ords := od_L24_alive_44) (keep := kp_L24_alive_44) (yl := none) tt_ok et_ok fns_L24_alive_ok (pr_L24_alive_30_ok) (ItsOk.nil _) tt_L24_alive_ok et_L24_alive_ok) (PrOk.of mixed_ok) Go.Proofs.Try.func44 rfl (by decide) rfl rfl) (pr_L24_alive_30_ok)
def kp_L24_alive_93 : List (Nat × List Nat) := [(0, [0]), (1, [2])]
def od_L24_alive_93 : List (Nat × Ord) := []
noncomputable def E_L24_alive_93 : Env := ⟨0, 0, et_L24_alive, tt_L24_alive, fns_L24_alive, pr_L24_alive_44, od_L24_alive_93, kp_L24_alive_93, none, []⟩
noncomputable def pr_L24_alive_93 : List (Nat × Proc) := (93, procR E_L24_alive_93 12 [.tmp 2] (bodyOf Try.f93)) :: pr_L24_alive_44
theorem pr_L24_alive_93_ok : PrsOk Go.Proofs.Try.prog pr_L24_alive_93 :=
  PrsOk.cons (proc_conR (E := E_L24_alive_93) (EnvC.sub (off := 0) (nt := 0) (ords := od_L24_alive_93) (keep := kp_L24_alive_93) (yl := none) tt_ok et_ok fns_L24_alive_ok (pr_L24_alive_44_ok) (ItsOk.nil _) tt_L24_alive_ok et_L24_alive_ok) (PrOk.of mixed_ok) Go.Proofs.Try.func93 rfl (by decide) rfl rfl) (pr_L24_alive_44_ok)
def kp_L24_alive_94 : List (Nat × List Nat) := [(0, [0, 1]), (1, [4])]
def od_L24_alive_94 : List (Nat × Ord) := []
noncomputable def E_L24_alive_94 : Env := ⟨0, 0, et_L24_alive, tt_L24_alive, fns_L24_alive, pr_L24_alive_93, od_L24_alive_94, kp_L24_alive_94, none, []⟩
noncomputable def pr_L24_alive_94 : List (Nat × Proc) := (94, procR E_L24_alive_94 15 [.tmp 4] (bodyOf Try.f94)) :: pr_L24_alive_93
theorem pr_L24_alive_94_ok : PrsOk Go.Proofs.Try.prog pr_L24_alive_94 :=
  PrsOk.cons (proc_conR (E := E_L24_alive_94) (EnvC.sub (off := 0) (nt := 0) (ords := od_L24_alive_94) (keep := kp_L24_alive_94) (yl := none) tt_ok et_ok fns_L24_alive_ok (pr_L24_alive_93_ok) (ItsOk.nil _) tt_L24_alive_ok et_L24_alive_ok) (PrOk.of mixed_ok) Go.Proofs.Try.func94 rfl (by decide) rfl rfl) (pr_L24_alive_93_ok)
def kp_L24_alive_53 : List (Nat × List Nat) := [(0, [0, 1]), (1, [0, 1, 13]), (2, [4]), (3, [4])]
def od_L24_alive_53 : List (Nat × Ord) := []
noncomputable def E_L24_alive_53 : Env := ⟨0, 0, et_L24_alive, tt_L24_alive, fns_L24_alive, pr_L24_alive_94, od_L24_alive_53, kp_L24_alive_53, none, []⟩
noncomputable def pr_L24_alive_53 : List (Nat × Proc) := (53, procR E_L24_alive_53 20 [.tmp 4] (bodyOf Try.f53)) :: pr_L24_alive_94
theorem pr_L24_alive_53_ok : PrsOk Go.Proofs.Try.prog pr_L24_alive_53 :=
  PrsOk.cons (proc_conR (E := E_L24_alive_53) (EnvC.sub (off := 0) (nt := 0) (ords := od_L24_alive_53) (keep := kp_L24_alive_53) (yl := none) tt_ok et_ok fns_L24_alive_ok (pr_L24_alive_94_ok) (ItsOk.nil _) tt_L24_alive_ok et_L24_alive_ok) (PrOk.of mixed_ok) Go.Proofs.Try.func53 rfl (by decide) rfl rfl) (pr_L24_alive_94_ok)
def kp_L24_alive_46 : List (Nat × List Nat) := [(0, [0, 1]), (1, [0, 1, 9]), (2, [4, 5]), (3, [0, 1, 13]), (4, [4, 5]), (5, [0, 1, 6]), (6, [0, 1, 6, 22, 23]), (7, [0, 1, 6, 22, 23, 24]), (8, [0, 1, 6, 8, 22, 23]), (9, [0, 1, 6, 8, 22, 23, 35]), (10, [4, 5]), (11, [0, 1, 6, 22, 23]), (12, [4, 5])]
def od_L24_alive_46 : List (Nat × Ord) := []
noncomputable def E_L24_alive_46 : Env := ⟨0, 0, et_L24_alive, tt_L24_alive, fns_L24_alive, pr_L24_alive_53, od_L24_alive_46, kp_L24_alive_46, none, []⟩
noncomputable def pr_L24_alive_46 : List (Nat × Proc) := (46, procR E_L24_alive_46 39 [.tmp 4, .tmp 5] (bodyOf Try.f46)) :: pr_L24_alive_53
theorem pr_L24_alive_46_ok : PrsOk Go.Proofs.Try.prog pr_L24_alive_46 :=
  PrsOk.cons (proc_conR (E := E_L24_alive_46) (EnvC.sub (off := 0) (nt := 0) (ords := od_L24_alive_46) (keep := kp_L24_alive_46) (yl := none) tt_ok et_ok fns_L24_alive_ok (pr_L24_alive_53_ok) (ItsOk.nil _) tt_L24_alive_ok et_L24_alive_ok) (PrOk.of mixed_ok) Go.Proofs.Try.func46 rfl (by decide) rfl rfl) (pr_L24_alive_53_ok)
def kp_L24_alive_55 : List (Nat × List Nat) := [(0, [0]), (1, [0, 5]), (2, [2]), (3, [2])]
def od_L24_alive_55 : List (Nat × Ord) := []
noncomputable def E_L24_alive_55 : Env := ⟨0, 0, et_L24_alive, tt_L24_alive, fns_L24_alive, pr_L24_alive_46, od_L24_alive_55, kp_L24_alive_55, none, []⟩
noncomputable def pr_L24_alive_55 : List (Nat × Proc) := (55, procR E_L24_alive_55 10 [.tmp 2] (bodyOf Try.f55)) :: pr_L24_alive_46
theorem pr_L24_alive_55_ok : PrsOk Go.Proofs.Try.prog pr_L24_alive_55 :=
  PrsOk.cons (proc_conR (E := E_L24_alive_55) (EnvC.sub (off := 0) (nt := 0) (ords := od_L24_alive_55) (keep := kp_L24_alive_55) (yl := none) tt_ok et_ok fns_L24_alive_ok (pr_L24_alive_46_ok) (ItsOk.nil _) tt_L24_alive_ok et_L24_alive_ok) (PrOk.of mixed_ok) Go.Proofs.Try.func55 rfl (by decide) rfl rfl) (pr_L24_alive_46_ok)
def kp_L24_alive_51 : List (Nat × List Nat) := [(0, [0, 1]), (1, [0, 1, 8, 9]), (2, [0, 1, 8, 9, 10]), (3, [0, 1, 6, 8, 9]), (4, [0, 1, 6, 8, 9, 16]), (5, [4, 5]), (6, [0, 1, 8, 9]), (7, [4, 5]), (5000004, []), (3481604000004, [15384, 15745047, 15745050, 15745061]), (3481606000004, [36522971137, 15745047, 15745061]), (4505604000004, [15384, 15745047, 15745050, 15745061, 41897971713]), (4505606000004, [47260389377, 15745047, 15745061]), (2624512004000004, [15384, 15745047, 15745050, 15745061]), (2624512006000004, [27520018698241, 15745047, 15745061]), (2834227204000004, [15384, 15745047, 15745050, 15745061]), (2834227206000004, [29719041953793, 15745047, 15745061]), (3043942404000004, [15384, 15745047, 15745050, 15745061]), (3043942406000004, [31918065209345, 15745047, 15745061])]
def od_L24_alive_51 : List (Nat × Ord) := []
noncomputable def E_L24_alive_51 : Env := ⟨0, 0, et_L24_alive, tt_L24_alive, fns_L24_alive, pr_L24_alive_55, od_L24_alive_51, kp_L24_alive_51, none, []⟩
noncomputable def pr_L24_alive_51 : List (Nat × Proc) := (51, procR E_L24_alive_51 19 [.tmp 4, .tmp 5] (bodyOf Try.f51)) :: pr_L24_alive_55
theorem pr_L24_alive_51_ok : PrsOk Go.Proofs.Try.prog pr_L24_alive_51 :=
  PrsOk.cons (proc_conR (E := E_L24_alive_51) (EnvC.sub (off := 0) (nt := 0) (ords := od_L24_alive_51) (keep := kp_L24_alive_51) (yl := none) tt_ok et_ok fns_L24_alive_ok (pr_L24_alive_55_ok) (ItsOk.nil _) tt_L24_alive_ok et_L24_alive_ok) (PrOk.of mixed_ok) Go.Proofs.Try.func51 rfl (by decide) rfl rfl) (pr_L24_alive_55_ok)
def kp_L24_alive_49 : List (Nat × List Nat) := [(0, [0, 1, 2]), (1, [0, 1, 2, 9]), (2, [6]), (3, [0, 1, 2, 13]), (4, [6]), (5, [0, 1, 2, 8]), (6, [0, 1, 2, 32]), (7, [6]), (8, [6])]
def od_L24_alive_49 : List (Nat × Ord) := []
noncomputable def E_L24_alive_49 : Env := ⟨0, 0, et_L24_alive, tt_L24_alive, fns_L24_alive, pr_L24_alive_51, od_L24_alive_49, kp_L24_alive_49, none, []⟩
noncomputable def pr_L24_alive_49 : List (Nat × Proc) := (49, procR E_L24_alive_49 40 [.tmp 6] (bodyOf Try.f49)) :: pr_L24_alive_51
theorem pr_L24_alive_49_ok : PrsOk Go.Proofs.Try.prog pr_L24_alive_49 :=
  PrsOk.cons (proc_conR (E := E_L24_alive_49) (EnvC.sub (off := 0) (nt := 0) (ords := od_L24_alive_49) (keep := kp_L24_alive_49) (yl := none) tt_ok et_ok fns_L24_alive_ok (pr_L24_alive_51_ok) (ItsOk.nil _) tt_L24_alive_ok et_L24_alive_ok) (PrOk.of mixed_ok) Go.Proofs.Try.func49 rfl (by decide) rfl rfl) (pr_L24_alive_51_ok)
def L24_alive_S1 (u0 : AV) (u1 : AV) (B2 : Blk) (x2 : Int × (List (Int × Int × Unit)) × Int × Int × Int) : St :=
  ⟨[(6, u0), (45, u1), (46, .int .i64 x2.1)], [(15745047, .row 165 (.pair (.int .i64) (.pair (.int .i64) .unit)) x2.2.1 false), (15745050, .var (.pair (.sl (.pair (.int .i64) (.pair (.int .i64) .unit))) (.pair (.sl (.pair (.int .i64) (.pair (.int .i64) (.pair (.int .i64) .unit)))) (.pair (.pair (.int .i64) (.pair (.int .i64) (.pair (.int .i64) .unit))) .unit))) (.agg [.own 15745047, .own 15745061, .agg [.int .i64 x2.2.2.1, .int .i64 x2.2.2.2.1, .int .i64 x2.2.2.2.2]]) false), (15745061, B2)], (some ([15745060, 15745061], 0))⟩
def L24_alive_M1 : Msk := ⟨[6, 45, 46], [15745047, 15745050, 15745061], [], [], [15745060, 15745061], [], [], [], []⟩
def L24_alive_S2 (u0 : AV) (u1 : AV) (B2 : Blk) (B4 : Blk) (x3 : Int × (List (Int × Int × Int × Unit))) : St :=
  ⟨[(6, u0), (27, u1), (28, .int .i64 x3.1)], [(15745047, B2), (15745050, B4), (15745061, .row 79 (.pair (.int .i64) (.pair (.int .i64) (.pair (.int .i64) .unit))) x3.2 false)], (some ([15745060, 15745061], 0))⟩
def L24_alive_M2 : Msk := ⟨[6, 27, 28], [15745047, 15745050, 15745061], [], [(15745050, [1], 15745061, 77)], [15745060, 15745061], [], [], [], []⟩
def L24_alive_S3 (u0 : AV) (u1 : AV) (u2 : AV) (B4 : Blk) (x5 : Int × (List (Int × Int × Unit)) × Int × Int × Int × (List (Int × Int × Int × Unit))) : St :=
  ⟨[(0, u0), (1, u1), (8, u2), (9, .int .i64 x5.1)], [(15384, B4), (15745047, .row 165 (.pair (.int .i64) (.pair (.int .i64) .unit)) x5.2.1 false), (15745050, .var (.pair (.sl (.pair (.int .i64) (.pair (.int .i64) .unit))) (.pair (.sl (.pair (.int .i64) (.pair (.int .i64) (.pair (.int .i64) .unit)))) (.pair (.pair (.int .i64) (.pair (.int .i64) (.pair (.int .i64) .unit))) .unit))) (.agg [.own 15745047, .own 15745061, .agg [.int .i64 x5.2.2.1, .int .i64 x5.2.2.2.1, .int .i64 x5.2.2.2.2.1]]) false), (15745061, .row 79 (.pair (.int .i64) (.pair (.int .i64) (.pair (.int .i64) .unit))) x5.2.2.2.2.2 false)], (some ([27520018698241, 15745047, 15745061], 0))⟩
def L24_alive_M3 : Msk := ⟨[0, 1, 8, 9], [15384, 15745047, 15745050, 15745061], [], [], [27520018698241, 15745047, 15745061], [], [], [], []⟩
def L24_alive_S4 (u0 : AV) (u1 : AV) (u2 : AV) (B4 : Blk) (x8 : Int × (List (Int × Int × Unit)) × Int × Int × Int × (List (Int × Int × Int × Unit))) : St :=
  ⟨[(0, u0), (1, u1), (8, u2), (9, .int .i64 x8.1)], [(15384, B4), (15745047, .row 165 (.pair (.int .i64) (.pair (.int .i64) .unit)) x8.2.1 false), (15745050, .var (.pair (.sl (.pair (.int .i64) (.pair (.int .i64) .unit))) (.pair (.sl (.pair (.int .i64) (.pair (.int .i64) (.pair (.int .i64) .unit)))) (.pair (.pair (.int .i64) (.pair (.int .i64) (.pair (.int .i64) .unit))) .unit))) (.agg [.own 15745047, .own 15745061, .agg [.int .i64 x8.2.2.1, .int .i64 x8.2.2.2.1, .int .i64 x8.2.2.2.2.1]]) false), (15745061, .row 79 (.pair (.int .i64) (.pair (.int .i64) (.pair (.int .i64) .unit))) x8.2.2.2.2.2 false)], (some ([29719041953793, 15745047, 15745061], 0))⟩
def L24_alive_M4 : Msk := ⟨[0, 1, 8, 9], [15384, 15745047, 15745050, 15745061], [], [], [29719041953793, 15745047, 15745061], [], [], [], []⟩
def L24_alive_S5 (u0 : AV) (u1 : AV) (u2 : AV) (B4 : Blk) (x11 : Int × (List (Int × Int × Unit)) × Int × Int × Int × (List (Int × Int × Int × Unit))) : St :=
  ⟨[(0, u0), (1, u1), (8, u2), (9, .int .i64 x11.1)], [(15384, B4), (15745047, .row 165 (.pair (.int .i64) (.pair (.int .i64) .unit)) x11.2.1 false), (15745050, .var (.pair (.sl (.pair (.int .i64) (.pair (.int .i64) .unit))) (.pair (.sl (.pair (.int .i64) (.pair (.int .i64) (.pair (.int .i64) .unit)))) (.pair (.pair (.int .i64) (.pair (.int .i64) (.pair (.int .i64) .unit))) .unit))) (.agg [.own 15745047, .own 15745061, .agg [.int .i64 x11.2.2.1, .int .i64 x11.2.2.2.1, .int .i64 x11.2.2.2.2.1]]) false), (15745061, .row 79 (.pair (.int .i64) (.pair (.int .i64) (.pair (.int .i64) .unit))) x11.2.2.2.2.2 false)], (some ([31918065209345, 15745047, 15745061], 0))⟩
def L24_alive_M5 : Msk := ⟨[0, 1, 8, 9], [15384, 15745047, 15745050, 15745061], [], [], [31918065209345, 15745047, 15745061], [], [], [], []⟩
def L24_alive_S6 (u0 : AV) (u1 : AV) (u2 : AV) (B4 : Blk) (x15 : Int × (List (Int × Int × Unit)) × Int × Int × Int × (List (Int × Int × Int × Unit))) : St :=
  ⟨[(0, u0), (1, u1), (8, u2), (9, .int .i64 x15.1)], [(15384, B4), (15745047, .row 165 (.pair (.int .i64) (.pair (.int .i64) .unit)) x15.2.1 false), (15745050, .var (.pair (.sl (.pair (.int .i64) (.pair (.int .i64) .unit))) (.pair (.sl (.pair (.int .i64) (.pair (.int .i64) (.pair (.int .i64) .unit)))) (.pair (.pair (.int .i64) (.pair (.int .i64) (.pair (.int .i64) .unit))) .unit))) (.agg [.own 15745047, .own 15745061, .agg [.int .i64 x15.2.2.1, .int .i64 x15.2.2.2.1, .int .i64 x15.2.2.2.2.1]]) false), (15745061, .row 79 (.pair (.int .i64) (.pair (.int .i64) (.pair (.int .i64) .unit))) x15.2.2.2.2.2 false)], (some ([36522971137, 15745047, 15745061], 0))⟩
def L24_alive_M6 : Msk := ⟨[0, 1, 8, 9], [15384, 15745047, 15745050, 15745061], [], [], [36522971137, 15745047, 15745061], [], [], [], []⟩
def L24_alive_S7 (u0 : AV) (u1 : AV) (u2 : AV) (B4 : Blk) (x18 : Int × (List (Int × Int × Unit)) × Int × Int × Int × (List (Int × Int × Int × Unit)) × List Int) : St :=
  ⟨[(0, u0), (1, u1), (8, u2), (9, .int .i64 x18.1)], [(15384, B4), (15745047, .row 165 (.pair (.int .i64) (.pair (.int .i64) .unit)) x18.2.1 false), (15745050, .var (.pair (.sl (.pair (.int .i64) (.pair (.int .i64) .unit))) (.pair (.sl (.pair (.int .i64) (.pair (.int .i64) (.pair (.int .i64) .unit)))) (.pair (.pair (.int .i64) (.pair (.int .i64) (.pair (.int .i64) .unit))) .unit))) (.agg [.own 15745047, .own 15745061, .agg [.int .i64 x18.2.2.1, .int .i64 x18.2.2.2.1, .int .i64 x18.2.2.2.2.1]]) false), (15745061, .row 79 (.pair (.int .i64) (.pair (.int .i64) (.pair (.int .i64) .unit))) x18.2.2.2.2.2.1 false), (41897971713, .row 3 (.int .i64) x18.2.2.2.2.2.2 false)], (some ([47260389377, 15745047, 15745061], 0))⟩
def L24_alive_M7 : Msk := ⟨[0, 1, 8, 9], [15384, 15745047, 15745050, 15745061, 41897971713], [], [], [47260389377, 15745047, 15745061], [], [], [], []⟩
def L24_alive_S8 (u0 : AV) (u1 : AV) (u2 : AV) (B4 : Blk) (x25 : Int × (List (Int × Int × Unit)) × Int × Int × Int × (List (Int × Int × Int × Unit))) : St :=
  ⟨[(0, u0), (1, u1), (8, u2), (9, .int .i64 x25.1)], [(15384, B4), (15745047, .row 165 (.pair (.int .i64) (.pair (.int .i64) .unit)) x25.2.1 false), (15745050, .var (.pair (.sl (.pair (.int .i64) (.pair (.int .i64) .unit))) (.pair (.sl (.pair (.int .i64) (.pair (.int .i64) (.pair (.int .i64) .unit)))) (.pair (.pair (.int .i64) (.pair (.int .i64) (.pair (.int .i64) .unit))) .unit))) (.agg [.own 15745047, .own 15745061, .agg [.int .i64 x25.2.2.1, .int .i64 x25.2.2.2.1, .int .i64 x25.2.2.2.2.1]]) false), (15745061, .row 79 (.pair (.int .i64) (.pair (.int .i64) (.pair (.int .i64) .unit))) x25.2.2.2.2.2 false)], (some ([47260389377, 15745047, 15745061], 0))⟩
def L24_alive_M8 : Msk := ⟨[0, 1, 8, 9], [15384, 15745047, 15745050, 15745061], [], [], [47260389377, 15745047, 15745061], [], [], [], []⟩
def L24_alive_S9 (u0 : AV) (u1 : AV) (u2 : AV) (u3 : AV) (B5 : Blk) (B6 : Blk) (x23 : Int × (List (Int × Int × Unit)) × Int × Int × Int × (List (Int × Int × Int × Unit))) : St :=
  ⟨[(0, u0), (1, u1), (6, u2), (22, u3), (23, .int .i64 x23.1)], [(15384, B5), (15745047, .row 165 (.pair (.int .i64) (.pair (.int .i64) .unit)) x23.2.1 false), (15745050, .var (.pair (.sl (.pair (.int .i64) (.pair (.int .i64) .unit))) (.pair (.sl (.pair (.int .i64) (.pair (.int .i64) (.pair (.int .i64) .unit)))) (.pair (.pair (.int .i64) (.pair (.int .i64) (.pair (.int .i64) .unit))) .unit))) (.agg [.own 15745047, .own 15745061, .agg [.int .i64 x23.2.2.1, .int .i64 x23.2.2.2.1, .int .i64 x23.2.2.2.2.1]]) false), (15745061, .row 79 (.pair (.int .i64) (.pair (.int .i64) (.pair (.int .i64) .unit))) x23.2.2.2.2.2 false), (41897971713, B6)], (some ([15745047, 15745061, 41897971713], 0))⟩
def L24_alive_M9 : Msk := ⟨[0, 1, 6, 22, 23], [15384, 15745047, 15745050, 15745061, 41897971713], [], [], [15745047, 15745061, 41897971713], [], [], [], []⟩
def L24_alive_Q1 (x1 : (List (Int × Int × Unit)) × Int × Int × Int × (List (Int × Int × Int × Unit))) : St :=
  ⟨[(1, .dead), (2, .dead), (13, .dead), (14, .tup [.ptr 15384 [], .int .i64 0]), (15, .dead), (16, .dead)], [(15384, .var (.pair (.opq 0) (.pair (.int .i64) .unit)) (.agg [.ptr 15745050 [], .int .i64 2]) false), (15745047, .row 165 (.pair (.int .i64) (.pair (.int .i64) .unit)) x1.1 false), (15745050, .var (.pair (.sl (.pair (.int .i64) (.pair (.int .i64) .unit))) (.pair (.sl (.pair (.int .i64) (.pair (.int .i64) (.pair (.int .i64) .unit)))) (.pair (.pair (.int .i64) (.pair (.int .i64) (.pair (.int .i64) .unit))) .unit))) (.agg [.own 15745047, .own 15745061, .agg [.int .i64 x1.2.1, .int .i64 x1.2.2.1, .int .i64 x1.2.2.2.1]]) false), (15745061, .row 79 (.pair (.int .i64) (.pair (.int .i64) (.pair (.int .i64) .unit))) x1.2.2.2.2 false)], none⟩
def L24_alive_Q2 (x6 : Int × Int × Bool × (List (Int × Int × Unit)) × Int × Int × Int × (List (Int × Int × Int × Unit))) : St :=
  ⟨[(0, .ptr 15384 []), (1, .int .i64 3), (6, .int .i64 x6.1), (8, .int .i64 2), (9, .int .i64 x6.2.1), (16, .bool x6.2.2.1)], [(15384, .var (.pair (.opq 0) (.pair (.int .i64) .unit)) (.agg [.ptr 15745050 [], .int .i64 2]) false), (15745047, .row 165 (.pair (.int .i64) (.pair (.int .i64) .unit)) x6.2.2.2.1 false), (15745050, .var (.pair (.sl (.pair (.int .i64) (.pair (.int .i64) .unit))) (.pair (.sl (.pair (.int .i64) (.pair (.int .i64) (.pair (.int .i64) .unit)))) (.pair (.pair (.int .i64) (.pair (.int .i64) (.pair (.int .i64) .unit))) .unit))) (.agg [.own 15745047, .own 15745061, .agg [.int .i64 x6.2.2.2.2.1, .int .i64 x6.2.2.2.2.2.1, .int .i64 x6.2.2.2.2.2.2.1]]) false), (15745061, .row 79 (.pair (.int .i64) (.pair (.int .i64) (.pair (.int .i64) .unit))) x6.2.2.2.2.2.2.2 false)], (some ([27520018698241, 15745047, 15745061], 0))⟩
def L24_alive_Q3 (x4 : Int × (List (Int × Int × Unit)) × Int × Int × Int × (List (Int × Int × Int × Unit))) : St :=
  ⟨[(1, .ptr 15384 []), (3, .dead), (4, .dead), (5, .dead), (6, .dead), (24, .int .i64 x4.1), (25, .dead), (26, .dead), (27, .dead), (28, .dead), (29, .dead), (30, .dead)], [(15384, .var (.pair (.opq 0) (.pair (.int .i64) .unit)) (.agg [.ptr 15745050 [], .int .i64 2]) false), (15745047, .row 165 (.pair (.int .i64) (.pair (.int .i64) .unit)) x4.2.1 false), (15745050, .var (.pair (.sl (.pair (.int .i64) (.pair (.int .i64) .unit))) (.pair (.sl (.pair (.int .i64) (.pair (.int .i64) (.pair (.int .i64) .unit)))) (.pair (.pair (.int .i64) (.pair (.int .i64) (.pair (.int .i64) .unit))) .unit))) (.agg [.own 15745047, .own 15745061, .agg [.int .i64 x4.2.2.1, .int .i64 x4.2.2.2.1, .int .i64 x4.2.2.2.2.1]]) false), (15745061, .row 79 (.pair (.int .i64) (.pair (.int .i64) (.pair (.int .i64) .unit))) x4.2.2.2.2.2 false)], none⟩
def L24_alive_Q4 (x9 : Int × Int × Bool × (List (Int × Int × Unit)) × Int × Int × Int × (List (Int × Int × Int × Unit))) : St :=
  ⟨[(0, .ptr 15384 []), (1, .int .i64 1), (6, .int .i64 x9.1), (8, .int .i64 2), (9, .int .i64 x9.2.1), (16, .bool x9.2.2.1)], [(15384, .var (.pair (.opq 0) (.pair (.int .i64) .unit)) (.agg [.ptr 15745050 [], .int .i64 2]) false), (15745047, .row 165 (.pair (.int .i64) (.pair (.int .i64) .unit)) x9.2.2.2.1 false), (15745050, .var (.pair (.sl (.pair (.int .i64) (.pair (.int .i64) .unit))) (.pair (.sl (.pair (.int .i64) (.pair (.int .i64) (.pair (.int .i64) .unit)))) (.pair (.pair (.int .i64) (.pair (.int .i64) (.pair (.int .i64) .unit))) .unit))) (.agg [.own 15745047, .own 15745061, .agg [.int .i64 x9.2.2.2.2.1, .int .i64 x9.2.2.2.2.2.1, .int .i64 x9.2.2.2.2.2.2.1]]) false), (15745061, .row 79 (.pair (.int .i64) (.pair (.int .i64) (.pair (.int .i64) .unit))) x9.2.2.2.2.2.2.2 false)], (some ([29719041953793, 15745047, 15745061], 0))⟩
def L24_alive_Q5 (x7 : Int × Int × (List (Int × Int × Unit)) × Int × Int × Int × (List (Int × Int × Int × Unit))) : St :=
  ⟨[(1, .ptr 15384 []), (3, .dead), (4, .dead), (5, .dead), (6, .dead), (24, .int .i64 x7.1), (26, .int .i64 x7.2.1), (27, .dead), (28, .dead), (29, .dead), (30, .dead)], [(15384, .var (.pair (.opq 0) (.pair (.int .i64) .unit)) (.agg [.ptr 15745050 [], .int .i64 2]) false), (15745047, .row 165 (.pair (.int .i64) (.pair (.int .i64) .unit)) x7.2.2.1 false), (15745050, .var (.pair (.sl (.pair (.int .i64) (.pair (.int .i64) .unit))) (.pair (.sl (.pair (.int .i64) (.pair (.int .i64) (.pair (.int .i64) .unit)))) (.pair (.pair (.int .i64) (.pair (.int .i64) (.pair (.int .i64) .unit))) .unit))) (.agg [.own 15745047, .own 15745061, .agg [.int .i64 x7.2.2.2.1, .int .i64 x7.2.2.2.2.1, .int .i64 x7.2.2.2.2.2.1]]) false), (15745061, .row 79 (.pair (.int .i64) (.pair (.int .i64) (.pair (.int .i64) .unit))) x7.2.2.2.2.2.2 false)], none⟩
def L24_alive_Q6 (x12 : Int × Int × Bool × (List (Int × Int × Unit)) × Int × Int × Int × (List (Int × Int × Int × Unit))) : St :=
  ⟨[(0, .ptr 15384 []), (1, .int .i64 3), (6, .int .i64 x12.1), (8, .int .i64 2), (9, .int .i64 x12.2.1), (16, .bool x12.2.2.1)], [(15384, .var (.pair (.opq 0) (.pair (.int .i64) .unit)) (.agg [.ptr 15745050 [], .int .i64 2]) false), (15745047, .row 165 (.pair (.int .i64) (.pair (.int .i64) .unit)) x12.2.2.2.1 false), (15745050, .var (.pair (.sl (.pair (.int .i64) (.pair (.int .i64) .unit))) (.pair (.sl (.pair (.int .i64) (.pair (.int .i64) (.pair (.int .i64) .unit)))) (.pair (.pair (.int .i64) (.pair (.int .i64) (.pair (.int .i64) .unit))) .unit))) (.agg [.own 15745047, .own 15745061, .agg [.int .i64 x12.2.2.2.2.1, .int .i64 x12.2.2.2.2.2.1, .int .i64 x12.2.2.2.2.2.2.1]]) false), (15745061, .row 79 (.pair (.int .i64) (.pair (.int .i64) (.pair (.int .i64) .unit))) x12.2.2.2.2.2.2.2 false)], (some ([31918065209345, 15745047, 15745061], 0))⟩
def L24_alive_Q7 (x10 : Int × Int × Int × (List (Int × Int × Unit)) × Int × Int × Int × (List (Int × Int × Int × Unit))) : St :=
  ⟨[(1, .ptr 15384 []), (3, .dead), (4, .dead), (5, .dead), (6, .dead), (24, .int .i64 x10.1), (26, .int .i64 x10.2.1), (28, .int .i64 x10.2.2.1), (29, .dead), (30, .dead)], [(15384, .var (.pair (.opq 0) (.pair (.int .i64) .unit)) (.agg [.ptr 15745050 [], .int .i64 2]) false), (15745047, .row 165 (.pair (.int .i64) (.pair (.int .i64) .unit)) x10.2.2.2.1 false), (15745050, .var (.pair (.sl (.pair (.int .i64) (.pair (.int .i64) .unit))) (.pair (.sl (.pair (.int .i64) (.pair (.int .i64) (.pair (.int .i64) .unit)))) (.pair (.pair (.int .i64) (.pair (.int .i64) (.pair (.int .i64) .unit))) .unit))) (.agg [.own 15745047, .own 15745061, .agg [.int .i64 x10.2.2.2.2.1, .int .i64 x10.2.2.2.2.2.1, .int .i64 x10.2.2.2.2.2.2.1]]) false), (15745061, .row 79 (.pair (.int .i64) (.pair (.int .i64) (.pair (.int .i64) .unit))) x10.2.2.2.2.2.2.2 false)], none⟩
def L24_alive_Q8 (x13 : Int × Int × Int × (List (Int × Int × Unit)) × Int × Int × Int × (List (Int × Int × Int × Unit))) : St :=
  ⟨[(1, .ptr 15384 []), (3, .dead), (4, .dead), (5, .dead), (6, .dead), (24, .int .i64 x13.1), (26, .int .i64 x13.2.1), (28, .int .i64 x13.2.2.1), (30, .int .i64 8)], [(15384, .var (.pair (.opq 0) (.pair (.int .i64) .unit)) (.agg [.ptr 15745050 [], .int .i64 2]) false), (15745047, .row 165 (.pair (.int .i64) (.pair (.int .i64) .unit)) x13.2.2.2.1 false), (15745050, .var (.pair (.sl (.pair (.int .i64) (.pair (.int .i64) .unit))) (.pair (.sl (.pair (.int .i64) (.pair (.int .i64) (.pair (.int .i64) .unit)))) (.pair (.pair (.int .i64) (.pair (.int .i64) (.pair (.int .i64) .unit))) .unit))) (.agg [.own 15745047, .own 15745061, .agg [.int .i64 x13.2.2.2.2.1, .int .i64 x13.2.2.2.2.2.1, .int .i64 x13.2.2.2.2.2.2.1]]) false), (15745061, .row 79 (.pair (.int .i64) (.pair (.int .i64) (.pair (.int .i64) .unit))) x13.2.2.2.2.2.2.2 false)], none⟩
def L24_alive_Q9 (x16 : Int × Int × Bool × (List (Int × Int × Unit)) × Int × Int × Int × (List (Int × Int × Int × Unit))) : St :=
  ⟨[(0, .ptr 15384 []), (1, .int .i64 1), (6, .int .i64 x16.1), (8, .int .i64 2), (9, .int .i64 x16.2.1), (16, .bool x16.2.2.1)], [(15384, .var (.pair (.opq 0) (.pair (.int .i64) .unit)) (.agg [.ptr 15745050 [], .int .i64 2]) false), (15745047, .row 165 (.pair (.int .i64) (.pair (.int .i64) .unit)) x16.2.2.2.1 false), (15745050, .var (.pair (.sl (.pair (.int .i64) (.pair (.int .i64) .unit))) (.pair (.sl (.pair (.int .i64) (.pair (.int .i64) (.pair (.int .i64) .unit)))) (.pair (.pair (.int .i64) (.pair (.int .i64) (.pair (.int .i64) .unit))) .unit))) (.agg [.own 15745047, .own 15745061, .agg [.int .i64 x16.2.2.2.2.1, .int .i64 x16.2.2.2.2.2.1, .int .i64 x16.2.2.2.2.2.2.1]]) false), (15745061, .row 79 (.pair (.int .i64) (.pair (.int .i64) (.pair (.int .i64) .unit))) x16.2.2.2.2.2.2.2 false)], (some ([36522971137, 15745047, 15745061], 0))⟩
def L24_alive_Q10 (x14 : Int × Int × Int × Int × Bool × (List (Int × Int × Unit)) × Int × Int × Int × (List (Int × Int × Int × Unit))) : St :=
  ⟨[(1, .ptr 15384 []), (3, .int .i64 x14.1), (4, .int .i64 x14.2.1), (5, .int .i64 x14.2.2.1), (6, .int .i64 8), (7, .dead), (8, .dead), (31, .dead), (33, .tup [.int .i64 x14.2.2.2.1, .bool x14.2.2.2.2.1]), (34, .dead), (35, .dead)], [(15384, .var (.pair (.opq 0) (.pair (.int .i64) .unit)) (.agg [.ptr 15745050 [], .int .i64 2]) false), (15745047, .row 165 (.pair (.int .i64) (.pair (.int .i64) .unit)) x14.2.2.2.2.2.1 false), (15745050, .var (.pair (.sl (.pair (.int .i64) (.pair (.int .i64) .unit))) (.pair (.sl (.pair (.int .i64) (.pair (.int .i64) (.pair (.int .i64) .unit)))) (.pair (.pair (.int .i64) (.pair (.int .i64) (.pair (.int .i64) .unit))) .unit))) (.agg [.own 15745047, .own 15745061, .agg [.int .i64 x14.2.2.2.2.2.2.1, .int .i64 x14.2.2.2.2.2.2.2.1, .int .i64 x14.2.2.2.2.2.2.2.2.1]]) false), (15745061, .row 79 (.pair (.int .i64) (.pair (.int .i64) (.pair (.int .i64) .unit))) x14.2.2.2.2.2.2.2.2.2 false)], none⟩
def L24_alive_Q11 (x19 : Int × Int × Bool × (List (Int × Int × Unit)) × Int × Int × Int × (List (Int × Int × Int × Unit)) × List Int) : St :=
  ⟨[(0, .ptr 15384 []), (1, .int .i64 1), (6, .int .i64 x19.1), (8, .int .i64 2), (9, .int .i64 x19.2.1), (16, .bool x19.2.2.1)], [(15384, .var (.pair (.opq 0) (.pair (.int .i64) .unit)) (.agg [.ptr 15745050 [], .int .i64 2]) false), (15745047, .row 165 (.pair (.int .i64) (.pair (.int .i64) .unit)) x19.2.2.2.1 false), (15745050, .var (.pair (.sl (.pair (.int .i64) (.pair (.int .i64) .unit))) (.pair (.sl (.pair (.int .i64) (.pair (.int .i64) (.pair (.int .i64) .unit)))) (.pair (.pair (.int .i64) (.pair (.int .i64) (.pair (.int .i64) .unit))) .unit))) (.agg [.own 15745047, .own 15745061, .agg [.int .i64 x19.2.2.2.2.1, .int .i64 x19.2.2.2.2.2.1, .int .i64 x19.2.2.2.2.2.2.1]]) false), (15745061, .row 79 (.pair (.int .i64) (.pair (.int .i64) (.pair (.int .i64) .unit))) x19.2.2.2.2.2.2.2.1 false), (41897971713, .row 3 (.int .i64) x19.2.2.2.2.2.2.2.2 false)], (some ([47260389377, 15745047, 15745061], 0))⟩
def L24_alive_Q12 (x17 : Int × Int × Int × Int × Bool × Int × Bool × (List (Int × Int × Unit)) × Int × Int × Int × (List (Int × Int × Int × Unit)) × List Int) : St :=
  ⟨[(1, .ptr 15384 []), (3, .int .i64 x17.1), (4, .int .i64 x17.2.1), (5, .int .i64 x17.2.2.1), (6, .int .i64 8), (7, .int .i64 x17.2.2.2.1), (8, .bool x17.2.2.2.2.1), (9, .own 41897971713), (10, .int .i64 0), (12, .dead), (41, .dead), (43, .tup [.int .i64 x17.2.2.2.2.2.1, .bool x17.2.2.2.2.2.2.1]), (44, .dead), (45, .dead)], [(15384, .var (.pair (.opq 0) (.pair (.int .i64) .unit)) (.agg [.ptr 15745050 [], .int .i64 2]) false), (15745047, .row 165 (.pair (.int .i64) (.pair (.int .i64) .unit)) x17.2.2.2.2.2.2.2.1 false), (15745050, .var (.pair (.sl (.pair (.int .i64) (.pair (.int .i64) .unit))) (.pair (.sl (.pair (.int .i64) (.pair (.int .i64) (.pair (.int .i64) .unit)))) (.pair (.pair (.int .i64) (.pair (.int .i64) (.pair (.int .i64) .unit))) .unit))) (.agg [.own 15745047, .own 15745061, .agg [.int .i64 x17.2.2.2.2.2.2.2.2.1, .int .i64 x17.2.2.2.2.2.2.2.2.2.1, .int .i64 x17.2.2.2.2.2.2.2.2.2.2.1]]) false), (15745061, .row 79 (.pair (.int .i64) (.pair (.int .i64) (.pair (.int .i64) .unit))) x17.2.2.2.2.2.2.2.2.2.2.2.1 false), (41897971713, .row 3 (.int .i64) x17.2.2.2.2.2.2.2.2.2.2.2.2 false)], none⟩
def L24_alive_Q13 (x21 : (List (Int × Int × Unit)) × Int × Int × Int × (List (Int × Int × Int × Unit))) : St :=
  ⟨[(0, .dead), (1, .ptr 15384 []), (80, .bool true), (82, .int .i64 2), (83, .dead), (84, .dead), (85, .dead), (86, .dead), (87, .dead), (88, .dead), (89, .dead), (90, .dead)], [(15384, .var (.pair (.opq 0) (.pair (.int .i64) .unit)) (.agg [.ptr 15745050 [], .int .i64 2]) false), (15745047, .row 165 (.pair (.int .i64) (.pair (.int .i64) .unit)) x21.1 false), (15745050, .var (.pair (.sl (.pair (.int .i64) (.pair (.int .i64) .unit))) (.pair (.sl (.pair (.int .i64) (.pair (.int .i64) (.pair (.int .i64) .unit)))) (.pair (.pair (.int .i64) (.pair (.int .i64) (.pair (.int .i64) .unit))) .unit))) (.agg [.own 15745047, .own 15745061, .agg [.int .i64 x21.2.1, .int .i64 x21.2.2.1, .int .i64 x21.2.2.2.1]]) false), (15745061, .row 79 (.pair (.int .i64) (.pair (.int .i64) (.pair (.int .i64) .unit))) x21.2.2.2.2 false)], none⟩
def L24_alive_Q14 (x22 : List Int) : St :=
  ⟨[(0, .dead), (85, .bool true), (87, .own 92295169), (88, .dead), (89, .dead), (90, .dead)], [(92295169, .row 3 (.int .i64) x22 false)], none⟩
def L24_alive_Q15 (x20 : Bool) : St :=
  ⟨[(0, .bool x20)], [], none⟩
def L24_alive_Q16 (x26 : Int × Int × Bool × (List (Int × Int × Unit)) × Int × Int × Int × (List (Int × Int × Int × Unit))) : St :=
  ⟨[(0, .ptr 15384 []), (1, .int .i64 1), (6, .int .i64 x26.1), (8, .int .i64 2), (9, .int .i64 x26.2.1), (16, .bool x26.2.2.1)], [(15384, .var (.pair (.opq 0) (.pair (.int .i64) .unit)) (.agg [.ptr 15745050 [], .int .i64 2]) false), (15745047, .row 165 (.pair (.int .i64) (.pair (.int .i64) .unit)) x26.2.2.2.1 false), (15745050, .var (.pair (.sl (.pair (.int .i64) (.pair (.int .i64) .unit))) (.pair (.sl (.pair (.int .i64) (.pair (.int .i64) (.pair (.int .i64) .unit)))) (.pair (.pair (.int .i64) (.pair (.int .i64) (.pair (.int .i64) .unit))) .unit))) (.agg [.own 15745047, .own 15745061, .agg [.int .i64 x26.2.2.2.2.1, .int .i64 x26.2.2.2.2.2.1, .int .i64 x26.2.2.2.2.2.2.1]]) false), (15745061, .row 79 (.pair (.int .i64) (.pair (.int .i64) (.pair (.int .i64) .unit))) x26.2.2.2.2.2.2.2 false), (41897971713, .none)], (some ([47260389377, 15745047, 15745061], 0))⟩
def L24_alive_Q17 (x24 : Int × Int × Int × Int × Bool × Int × Int × Bool × (List (Int × Int × Unit)) × Int × Int × Int × (List (Int × Int × Int × Unit))) : St :=
  ⟨[(1, .ptr 15384 []), (3, .int .i64 x24.1), (4, .int .i64 x24.2.1), (5, .int .i64 x24.2.2.1), (6, .int .i64 8), (7, .int .i64 x24.2.2.2.1), (8, .bool x24.2.2.2.2.1), (9, .con (.slice none 0 0)), (10, .int .i64 x24.2.2.2.2.2.1), (12, .dead), (41, .dead), (43, .tup [.int .i64 x24.2.2.2.2.2.2.1, .bool x24.2.2.2.2.2.2.2.1]), (44, .dead), (45, .dead)], [(15384, .var (.pair (.opq 0) (.pair (.int .i64) .unit)) (.agg [.ptr 15745050 [], .int .i64 2]) false), (15745047, .row 165 (.pair (.int .i64) (.pair (.int .i64) .unit)) x24.2.2.2.2.2.2.2.2.1 false), (15745050, .var (.pair (.sl (.pair (.int .i64) (.pair (.int .i64) .unit))) (.pair (.sl (.pair (.int .i64) (.pair (.int .i64) (.pair (.int .i64) .unit)))) (.pair (.pair (.int .i64) (.pair (.int .i64) (.pair (.int .i64) .unit))) .unit))) (.agg [.own 15745047, .own 15745061, .agg [.int .i64 x24.2.2.2.2.2.2.2.2.2.1, .int .i64 x24.2.2.2.2.2.2.2.2.2.2.1, .int .i64 x24.2.2.2.2.2.2.2.2.2.2.2.1]]) false), (15745061, .row 79 (.pair (.int .i64) (.pair (.int .i64) (.pair (.int .i64) .unit))) x24.2.2.2.2.2.2.2.2.2.2.2.2 false), (41897971713, .none)], none⟩
def L24_alive_Q18 (x28 : (List (Int × Int × Unit)) × Int × Int × Int × (List (Int × Int × Int × Unit))) : St :=
  ⟨[(0, .dead), (1, .ptr 15384 []), (80, .bool true), (82, .int .i64 2), (83, .dead), (84, .dead), (85, .dead), (86, .dead), (87, .dead), (88, .dead), (89, .dead), (90, .dead)], [(15384, .var (.pair (.opq 0) (.pair (.int .i64) .unit)) (.agg [.ptr 15745050 [], .int .i64 2]) false), (15745047, .row 165 (.pair (.int .i64) (.pair (.int .i64) .unit)) x28.1 false), (15745050, .var (.pair (.sl (.pair (.int .i64) (.pair (.int .i64) .unit))) (.pair (.sl (.pair (.int .i64) (.pair (.int .i64) (.pair (.int .i64) .unit)))) (.pair (.pair (.int .i64) (.pair (.int .i64) (.pair (.int .i64) .unit))) .unit))) (.agg [.own 15745047, .own 15745061, .agg [.int .i64 x28.2.1, .int .i64 x28.2.2.1, .int .i64 x28.2.2.2.1]]) false), (15745061, .row 79 (.pair (.int .i64) (.pair (.int .i64) (.pair (.int .i64) .unit))) x28.2.2.2.2 false)], none⟩
def L24_alive_Q19 (x29 : List Int) : St :=
  ⟨[(0, .dead), (85, .bool true), (87, .own 92295169), (88, .dead), (89, .dead), (90, .dead)], [(92295169, .row 3 (.int .i64) x29 false)], none⟩
def L24_alive_Q20 (x27 : Bool) : St :=
  ⟨[(0, .bool x27)], [], none⟩
def kp_L24_alive : List (Nat × List Nat) := [(0, []), (1, [1, 2]), (2, [1, 22]), (3, [0]), (4, [1, 3, 4, 5, 6]), (5, [1, 3, 4, 5, 6, 7, 8]), (6, [1, 3, 4, 5, 6, 7, 8, 9, 10]), (7, [1, 3, 4, 5, 6, 7, 8, 9, 10, 12]), (8, [0]), (5000008, []), (25000014, []), (20000014, [1, 2, 13, 14, 15, 16]), (25000024, []), (20000024, [1, 3, 4, 5, 6, 24, 25, 26, 27, 28, 29, 30]), (25000026, []), (20000026, [1, 3, 4, 5, 6, 24, 26, 27, 28, 29, 30]), (25000028, []), (20000028, [1, 3, 4, 5, 6, 24, 26, 28, 29, 30]), (25000030, []), (20000030, [1, 3, 4, 5, 6, 24, 26, 28, 30]), (25000033, []), (20000033, [1, 3, 4, 5, 6, 7, 8, 31, 33, 34, 35]), (25000043, []), (20000043, [1, 3, 4, 5, 6, 7, 8, 9, 10, 12, 41, 43, 44, 45]), (25000082, []), (20000082, [0, 1, 80, 82, 83, 84, 85, 86, 87, 88, 89, 90]), (25000087, []), (20000087, [0, 85, 87, 88, 89, 90]), (4000008, []), (6000008, []), (24000014, [15384, 15745047, 15745050, 15745061]), (26000014, []), (24000024, [15384, 15745047, 15745050, 15745061]), (26000024, []), (24000026, [15384, 15745047, 15745050, 15745061]), (26000026, []), (24000028, [15384, 15745047, 15745050, 15745061]), (26000028, []), (24000030, [15384, 15745047, 15745050, 15745061]), (26000030, []), (24000033, [15384, 15745047, 15745050, 15745061]), (26000033, []), (24000043, [15384, 15745047, 15745050, 15745061, 41897971713]), (26000043, []), (24000082, [15384, 15745047, 15745050, 15745061]), (26000082, []), (24000087, [92295169]), (26000087, []), (4000000, []), (4000001, [15384, 15745047, 15745050, 15745061]), (4000002, [15384, 15745047, 15745050, 15745061]), (4000004, [15384, 15745047, 15745050, 15745061]), (4000005, [15384, 15745047, 15745050, 15745061]), (4000006, [15384, 15745047, 15745050, 15745061, 41897971713]), (4000007, [15384, 15745047, 15745050, 15745061, 41897971713]), (14000006, [41897971713])]
def od_L24_alive : List (Nat × Ord) := []
noncomputable def E_L24_alive : Env := ⟨0, 0, et_L24_alive, tt_L24_alive, fns_L24_alive, pr_L24_alive_49, od_L24_alive, kp_L24_alive, none, []⟩
set_option maxRecDepth 100000 in
set_option maxHeartbeats 40000000 in
theorem c_L24_alive : PCon Go.Proofs.Try.prog 43 lf_L24_alive := by
  rw [lq_L24_alive]
  refine lift_conR (E := E_L24_alive) (c := bodyOf Try.f43) (nt := 91) (rs := [.tmp 0]) (ts := [4]) (EnvC.sub (off := 0) (nt := 0) (ords := od_L24_alive) (keep := kp_L24_alive) (yl := none) tt_ok et_ok fns_L24_alive_ok (pr_L24_alive_49_ok) (ItsOk.nil _) tt_L24_alive_ok et_L24_alive_ok) (PrOk.of mixed_ok) Go.Proofs.Try.func43 rfl (by decide) rfl rfl rfl (pureR_one (e := .bool) rfl) ?_
  intro x r hw hs
  repeat'
    (try (conv => whnf)
     first
       | (with_reducible have hs := letv_out hs)
       | (refine draw_and (by kernel_rfl) ?_)
       | (refine both_mk ?_ ?_)
       | (refine br_bool (fun h => ?_) (fun h => ?_) <;> first | have hs := cT h hs | have hs := cF h hs)
       | (refine bind_elim hs fun v hb hs => ?_; first | refine ck_R02_Same rfl hb ?_ | refine ck_slices_Contains_int_int rfl hb ?_ | refine cm_queue_Pool_Pop rfl hb ?_ | refine cm_queue_Pool_Push rfl hb ?_ | refine cm_queue_Pool_List rfl hb ?_)
       | refine chk_elim hs fun hs => ?_
       | (have hs := letv_out hs)
       | exact fin_some hs rfl
       | (intro b hb; first | have hs := nilq_elim hs b hb | have hs := nilqn_elim hs b hb)
       | exact hJ1 _ hs
       | exact hJ2 _ hs
       | exact hJ3 _ hs
       | exact hJ4 _ hs
       | exact hJ5 _ hs
       | exact hJ6 _ hs
       | exact hJ7 _ hs
       | exact hJ8 _ hs
       | exact hJ9 _ hs
       | exact hC1 _ hs
       | exact hC2 _ hs
       | exact hC3 _ hs
       | exact hC4 _ hs
       | exact hC5 _ hs
       | exact hC6 _ hs
       | exact hC7 _ hs
       | exact hC8 _ hs
       | exact hC9 _ hs
       | exact hC10 _ hs
       | exact hC11 _ hs
       | exact hC12 _ hs
       | exact hC13 _ hs
       | exact hC14 _ hs
       | exact hC15 _ hs
       | exact hC16 _ hs
       | exact hC17 _ hs
       | exact hC18 _ hs
       | exact hC19 _ hs
       | exact hC20 _ hs
       | (refine cut_out 1 L24_alive_Q1 hs (fun Jc1 kc1 hC1 hs => ?_) (fun xc1 hs => ?_))
       | (refine cut_out 2 L24_alive_Q2 hs (fun Jc2 kc2 hC2 hs => ?_) (fun xc2 hs => ?_))
       | (refine cut_out 3 L24_alive_Q3 hs (fun Jc3 kc3 hC3 hs => ?_) (fun xc3 hs => ?_))
       | (refine cut_out 4 L24_alive_Q4 hs (fun Jc4 kc4 hC4 hs => ?_) (fun xc4 hs => ?_))
       | (refine cut_out 5 L24_alive_Q5 hs (fun Jc5 kc5 hC5 hs => ?_) (fun xc5 hs => ?_))
       | (refine cut_out 6 L24_alive_Q6 hs (fun Jc6 kc6 hC6 hs => ?_) (fun xc6 hs => ?_))
       | (refine cut_out 7 L24_alive_Q7 hs (fun Jc7 kc7 hC7 hs => ?_) (fun xc7 hs => ?_))
       | (refine cut_out 8 L24_alive_Q8 hs (fun Jc8 kc8 hC8 hs => ?_) (fun xc8 hs => ?_))
       | (refine cut_out 9 L24_alive_Q9 hs (fun Jc9 kc9 hC9 hs => ?_) (fun xc9 hs => ?_))
       | (refine cut_out 10 L24_alive_Q10 hs (fun Jc10 kc10 hC10 hs => ?_) (fun xc10 hs => ?_))
       | (refine cut_out 11 L24_alive_Q11 hs (fun Jc11 kc11 hC11 hs => ?_) (fun xc11 hs => ?_))
       | (refine cut_out 12 L24_alive_Q12 hs (fun Jc12 kc12 hC12 hs => ?_) (fun xc12 hs => ?_))
       | (refine cut_out 13 L24_alive_Q13 hs (fun Jc13 kc13 hC13 hs => ?_) (fun xc13 hs => ?_))
       | (refine cut_out 14 L24_alive_Q14 hs (fun Jc14 kc14 hC14 hs => ?_) (fun xc14 hs => ?_))
       | (refine cut_out 15 L24_alive_Q15 hs (fun Jc15 kc15 hC15 hs => ?_) (fun xc15 hs => ?_))
       | (refine cut_out 16 L24_alive_Q16 hs (fun Jc16 kc16 hC16 hs => ?_) (fun xc16 hs => ?_))
       | (refine cut_out 17 L24_alive_Q17 hs (fun Jc17 kc17 hC17 hs => ?_) (fun xc17 hs => ?_))
       | (refine cut_out 18 L24_alive_Q18 hs (fun Jc18 kc18 hC18 hs => ?_) (fun xc18 hs => ?_))
       | (refine cut_out 19 L24_alive_Q19 hs (fun Jc19 kc19 hC19 hs => ?_) (fun xc19 hs => ?_))
       | (refine cut_out 20 L24_alive_Q20 hs (fun Jc20 kc20 hC20 hs => ?_) (fun xc20 hs => ?_))
       | (have hs := cT rfl hs)
       | (have hs := cF rfl hs)
       | ((with_reducible have hs : L24_alive_J2 _ _ _ = some _ := hs); unfold L24_alive_J2 at hs)
       | ((with_reducible have hs : L24_alive_C3 _ _ = some _ := hs); unfold L24_alive_C3 at hs)
       | ((with_reducible have hs : L24_alive_C5 _ _ = some _ := hs); unfold L24_alive_C5 at hs)
       | ((with_reducible have hs : L24_alive_C7 _ _ = some _ := hs); unfold L24_alive_C7 at hs)
       | ((with_reducible have hs : L24_alive_C10 _ _ = some _ := hs); unfold L24_alive_C10 at hs)
       | ((with_reducible have hs : L24_alive_C12 _ _ _ _ _ _ _ _ = some _ := hs); unfold L24_alive_C12 at hs)
       | ((with_reducible have hs : L24_alive_C17 _ _ _ = some _ := hs); unfold L24_alive_C17 at hs)
       | ((with_reducible have hs : loop (L24_alive_L1 _ _ _) _ = some _ := hs); refine vc_loopR (L24_alive_S1 _ _ _) L24_alive_M1 hs rfl ?_; intro J1 k1 x1 hJ1 hs)
       | ((with_reducible have hs : loop (L24_alive_L2 _ _) _ = some _ := hs); refine vc_loopR (L24_alive_S2 _ _ _ _) L24_alive_M2 hs rfl ?_; intro J2 k2 x2 hJ2 hs)
       | ((with_reducible have hs : loop (L24_alive_L3 _) _ = some _ := hs); refine vc_loopR (L24_alive_S3 _ _ _ _) L24_alive_M3 hs rfl ?_; intro J3 k3 x3 hJ3 hs)
       | ((with_reducible have hs : loop (L24_alive_L4 _ _) _ = some _ := hs); refine vc_loopR (L24_alive_S4 _ _ _ _) L24_alive_M4 hs rfl ?_; intro J4 k4 x4 hJ4 hs)
       | ((with_reducible have hs : loop (L24_alive_L5 _ _) _ = some _ := hs); refine vc_loopR (L24_alive_S5 _ _ _ _) L24_alive_M5 hs rfl ?_; intro J5 k5 x5 hJ5 hs)
       | ((with_reducible have hs : loop (L24_alive_L6 _ _) _ = some _ := hs); refine vc_loopR (L24_alive_S6 _ _ _ _) L24_alive_M6 hs rfl ?_; intro J6 k6 x6 hJ6 hs)
       | ((with_reducible have hs : loop (L24_alive_L7 _ _) _ = some _ := hs); refine vc_loopR (L24_alive_S7 _ _ _ _) L24_alive_M7 hs rfl ?_; intro J7 k7 x7 hJ7 hs)
       | ((with_reducible have hs : loop (L24_alive_L8 _ _ _) _ = some _ := hs); refine vc_loopR (L24_alive_S8 _ _ _ _) L24_alive_M8 hs rfl ?_; intro J8 k8 x8 hJ8 hs)
       | ((with_reducible have hs : loop (L24_alive_L9 _ _ _) _ = some _ := hs); refine vc_loopR (L24_alive_S9 _ _ _ _ _ _) L24_alive_M9 hs rfl ?_; intro J9 k9 x9 hJ9 hs)
       | (refine vc_loopR (L24_alive_S1 _ _ _) L24_alive_M1 hs rfl ?_; intro J1 k1 x1 hJ1 hs)
       | (refine vc_loopR (L24_alive_S2 _ _ _ _) L24_alive_M2 hs rfl ?_; intro J2 k2 x2 hJ2 hs)
       | (refine vc_loopR (L24_alive_S3 _ _ _ _) L24_alive_M3 hs rfl ?_; intro J3 k3 x3 hJ3 hs)
       | (refine vc_loopR (L24_alive_S4 _ _ _ _) L24_alive_M4 hs rfl ?_; intro J4 k4 x4 hJ4 hs)
       | (refine vc_loopR (L24_alive_S5 _ _ _ _) L24_alive_M5 hs rfl ?_; intro J5 k5 x5 hJ5 hs)
       | (refine vc_loopR (L24_alive_S6 _ _ _ _) L24_alive_M6 hs rfl ?_; intro J6 k6 x6 hJ6 hs)
       | (refine vc_loopR (L24_alive_S7 _ _ _ _) L24_alive_M7 hs rfl ?_; intro J7 k7 x7 hJ7 hs)
       | (refine vc_loopR (L24_alive_S8 _ _ _ _) L24_alive_M8 hs rfl ?_; intro J8 k8 x8 hJ8 hs)
       | (refine vc_loopR (L24_alive_S9 _ _ _ _ _ _) L24_alive_M9 hs rfl ?_; intro J9 k9 x9 hJ9 hs)
       | exact (none_ne hs).elim)
theorem cq_L24_alive : PCon Go.Proofs.Try.prog 43 (liftF .unit (unpack .bool) (fun x => L24_alive)) := lq_L24_alive ▸ c_L24_alive
end Go.Proofs.YtiicmhholjpcbaaV
