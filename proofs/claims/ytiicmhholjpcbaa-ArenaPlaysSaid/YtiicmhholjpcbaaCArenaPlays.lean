/- What becket/becketlaw02.ArenaPlays answers. -/
import Derived.Test.YtiicmhholjpcbaaVcTab
import Derived.Test.YtiicmhholjpcbaaDArenaPlays
import Derived.Test.YtiicmhholjpcbaaCL02
import Derived.Test.YtiicmhholjpcbaaCR02
import Derived.Test.YtiicmhholjpcbaaCarena
namespace Go.Proofs.YtiicmhholjpcbaaV
open Go.Proofs
set_option linter.unusedVariables false
noncomputable def lf_L02_ArenaPlays : List AV → Option AV := liftF (.pair (.int .i64) (.pair (.int .i64) (.pair (.sl (.pair (.int .u8) (.pair (.int .i64) (.pair (.int .i64) .unit)))) .unit))) (unpack .bool) (fun x => L02_ArenaPlays x.1 x.2.1 x.2.2.1)
theorem lq_L02_ArenaPlays : lf_L02_ArenaPlays = liftF (.pair (.int .i64) (.pair (.int .i64) (.pair (.sl (.pair (.int .u8) (.pair (.int .i64) (.pair (.int .i64) .unit)))) .unit))) (unpack .bool) (fun x => L02_ArenaPlays x.1 x.2.1 x.2.2.1) := rfl
attribute [irreducible] lf_L02_ArenaPlays
theorem ck_L02_ArenaPlays {vs : List AV} {k : AV → Prop} {x : ((.pair (.int .i64) (.pair (.int .i64) (.pair (.sl (.pair (.int .u8) (.pair (.int .i64) (.pair (.int .i64) .unit)))) .unit))) : Ty).den} {v : Bool} (h1 : pks (.pair (.int .i64) (.pair (.int .i64) (.pair (.sl (.pair (.int .u8) (.pair (.int .i64) (.pair (.int .i64) .unit)))) .unit))) vs = some x) (h2 : L02_ArenaPlays x.1 x.2.1 x.2.2.1 = some v) (h3 : k ((unpack .bool) v)) : callK (lf_L02_ArenaPlays vs) k := by
  rw [lq_L02_ArenaPlays]; exact callK_lift h1 h2 h3
def tt_L02_ArenaPlays : List (Nat × Ty) := [(3, .int .i64), (4, .bool), (5, .int .u8), (22, .sl (.pair (.int .u8) (.pair (.int .i64) (.pair (.int .i64) .unit)))), (23, .opq 0), (24, .int .i64), (29, .pair (.int .u8) (.pair (.int .i64) (.pair (.int .i64) .unit))), (39, .pair (.int .i64) (.pair (.sl (.int .i64)) (.pair (.sl (.pair (.int .i64) (.pair (.int .i64) .unit))) .unit))), (49, .sl (.pair (.int .i64) (.pair .bool (.pair (.int .i64) .unit)))), (51, .pair (.int .i64) (.pair (.int .i64) (.pair (.sl (.pair (.int .i64) (.pair .bool (.pair (.int .i64) .unit)))) .unit)))]
def et_L02_ArenaPlays : List (Nat × Nat) := [(22, 29), (49, 149)]
theorem tt_L02_ArenaPlays_ok : subT tt tt_L02_ArenaPlays = true := by kernel_rfl
theorem et_L02_ArenaPlays_ok : subE et et_L02_ArenaPlays = true := by kernel_rfl
noncomputable def fns_L02_ArenaPlays : List (Nat × (List AV → Option AV)) := [(16, lf_L02_alive), (21, lf_R02_New), (23, lf_R02_Set), (24, lf_R02_Drop), (25, lf_R02_Add)]
theorem fns_L02_ArenaPlays_ok : FnsOk Go.Proofs.Try.prog fns_L02_ArenaPlays := FnsOk.cons c_L02_alive (FnsOk.cons c_R02_New (FnsOk.cons c_R02_Set (FnsOk.cons c_R02_Drop (FnsOk.cons c_R02_Add (FnsOk.nil _)))))
noncomputable def pm_L02_ArenaPlays_17 : List (Nat × Proc) := (17, sumOr fs_arena_Table_int_Drop rk_arena_Table_int_Drop gm_arena_Table_int_Drop noP) :: []
theorem pm_L02_ArenaPlays_17_ok : PrsOk Go.Proofs.Try.prog pm_L02_ArenaPlays_17 := PrsOk.cons (sumOr_con ms_arena_Table_int_Drop no_con) (PrsOk.nil _)
noncomputable def pm_L02_ArenaPlays_18 : List (Nat × Proc) := (18, sumOr fs_arena_Table_int_Add rk_arena_Table_int_Add gm_arena_Table_int_Add noP) :: pm_L02_ArenaPlays_17
theorem pm_L02_ArenaPlays_18_ok : PrsOk Go.Proofs.Try.prog pm_L02_ArenaPlays_18 := PrsOk.cons (sumOr_con ms_arena_Table_int_Add no_con) (pm_L02_ArenaPlays_17_ok)
noncomputable def pm_L02_ArenaPlays_22 : List (Nat × Proc) := (22, sumOr fs_arena_Table_int_Set rk_arena_Table_int_Set gm_arena_Table_int_Set noP) :: pm_L02_ArenaPlays_18
theorem pm_L02_ArenaPlays_22_ok : PrsOk Go.Proofs.Try.prog pm_L02_ArenaPlays_22 := PrsOk.cons (sumOr_con ms_arena_Table_int_Set no_con) (pm_L02_ArenaPlays_18_ok)
noncomputable def pm_L02_ArenaPlays_26 : List (Nat × Proc) := (26, sumOr fs_L02_as rk_L02_as gm_L02_as noP) :: pm_L02_ArenaPlays_22
theorem pm_L02_ArenaPlays_26_ok : PrsOk Go.Proofs.Try.prog pm_L02_ArenaPlays_26 := PrsOk.cons (sumOr_con ms_L02_as no_con) (pm_L02_ArenaPlays_22_ok)
def kp_L02_ArenaPlays_15 : List (Nat × List Nat) := [(0, [0, 1]), (1, [0, 1, 19]), (2, [4, 5]), (3, [4, 5])]
def od_L02_ArenaPlays_15 : List (Nat × Ord) := []
noncomputable def E_L02_ArenaPlays_15 : Env := ⟨0, 0, et_L02_ArenaPlays, tt_L02_ArenaPlays, fns_L02_ArenaPlays, pm_L02_ArenaPlays_26, od_L02_ArenaPlays_15, kp_L02_ArenaPlays_15, none, []⟩
noncomputable def pr_L02_ArenaPlays_15 : List (Nat × Proc) := (15, procR E_L02_ArenaPlays_15 25 [.tmp 4, .tmp 5] (bodyOf Try.f15)) :: pm_L02_ArenaPlays_26
theorem pr_L02_ArenaPlays_15_ok : PrsOk Go.Proofs.Try.prog pr_L02_ArenaPlays_15 :=
  PrsOk.cons (proc_conR (E := E_L02_ArenaPlays_15) (EnvC.sub (off := 0) (nt := 0) (ords := od_L02_ArenaPlays_15) (keep := kp_L02_ArenaPlays_15) (yl := none) tt_ok et_ok fns_L02_ArenaPlays_ok (pm_L02_ArenaPlays_26_ok) (ItsOk.nil _) tt_L02_ArenaPlays_ok et_L02_ArenaPlays_ok) (PrOk.of mixed_ok) Go.Proofs.Try.func15 rfl (by decide) rfl rfl) (pm_L02_ArenaPlays_26_ok)
def L02_ArenaPlays_S1 (u0 : AV) (u1 : AV) (x1 : (List (Int × Int × Int × Unit)) × Int × Int × Int × List Int × (List (Int × Int × Unit)) × (List (Int × Bool × Int × Unit)) × Int × Int) : St :=
  ⟨[(7, u0), (9, u1), (59, .ro (.pair (.int .u8) (.pair (.int .i64) (.pair (.int .i64) .unit))) x1.1), (60, .int .i64 x1.2.1), (61, .int .i64 x1.2.2.1)], [(9, .var (.pair (.int .i64) (.pair (.sl (.int .i64)) (.pair (.sl (.pair (.int .i64) (.pair (.int .i64) .unit))) .unit))) (.agg [.int .i64 x1.2.2.2.1, .ro (.int .i64) x1.2.2.2.2.1, .ro (.pair (.int .i64) (.pair (.int .i64) .unit)) x1.2.2.2.2.2.1]) false), (33814, .row 149 (.pair (.int .i64) (.pair .bool (.pair (.int .i64) .unit))) x1.2.2.2.2.2.2.1 false), (33816, .var (.pair (.int .i64) (.pair (.int .i64) (.pair (.sl (.pair (.int .i64) (.pair .bool (.pair (.int .i64) .unit)))) .unit))) (.agg [.int .i64 x1.2.2.2.2.2.2.2.1, .int .i64 x1.2.2.2.2.2.2.2.2, .own 33814]) false)], none⟩
def L02_ArenaPlays_M1 : Msk := ⟨[7, 9, 59, 60, 61], [9, 33814, 33816], [], [], [], [], [], [], []⟩
def L02_ArenaPlays_S2 (u0 : AV) (u1 : AV) (x3 : (List (Int × Int × Int × Unit)) × Int × Int × Int × List Int × (List (Int × Int × Unit)) × (List (Int × Bool × Int × Unit)) × Int × Int) : St :=
  ⟨[(7, u0), (9, u1), (59, .ro (.pair (.int .u8) (.pair (.int .i64) (.pair (.int .i64) .unit))) x3.1), (60, .int .i64 x3.2.1), (61, .int .i64 x3.2.2.1)], [(9, .var (.pair (.int .i64) (.pair (.sl (.int .i64)) (.pair (.sl (.pair (.int .i64) (.pair (.int .i64) .unit))) .unit))) (.agg [.int .i64 x3.2.2.2.1, .ro (.int .i64) x3.2.2.2.2.1, .ro (.pair (.int .i64) (.pair (.int .i64) .unit)) x3.2.2.2.2.2.1]) false), (33814, .row 149 (.pair (.int .i64) (.pair .bool (.pair (.int .i64) .unit))) x3.2.2.2.2.2.2.1 false), (33816, .var (.pair (.int .i64) (.pair (.int .i64) (.pair (.sl (.pair (.int .i64) (.pair .bool (.pair (.int .i64) .unit)))) .unit))) (.agg [.int .i64 x3.2.2.2.2.2.2.2.1, .int .i64 x3.2.2.2.2.2.2.2.2, .own 33814]) false)], none⟩
def L02_ArenaPlays_M2 : Msk := ⟨[7, 9, 59, 60, 61], [9, 33814, 33816], [], [], [], [], [], [], []⟩
def L02_ArenaPlays_Q1 (x2 : Int × Int × (List (Int × Int × Int × Unit)) × Int × Int × Int × List Int × (List (Int × Int × Unit)) × Int × Int × Int × (List (Int × Bool × Int × Unit)) × Int × Int) : St :=
  ⟨[(7, .ptr 33816 []), (9, .ptr 9 []), (12, .ptr 12 []), (13, .int .i64 x2.1), (14, .int .i64 x2.2.1), (59, .ro (.pair (.int .u8) (.pair (.int .i64) (.pair (.int .i64) .unit))) x2.2.2.1), (60, .int .i64 x2.2.2.2.1), (61, .int .i64 x2.2.2.2.2.1)], [(9, .var (.pair (.int .i64) (.pair (.sl (.int .i64)) (.pair (.sl (.pair (.int .i64) (.pair (.int .i64) .unit))) .unit))) (.agg [.int .i64 x2.2.2.2.2.2.1, .ro (.int .i64) x2.2.2.2.2.2.2.1, .ro (.pair (.int .i64) (.pair (.int .i64) .unit)) x2.2.2.2.2.2.2.2.1]) false), (12, .var (.pair (.int .u8) (.pair (.int .i64) (.pair (.int .i64) .unit))) (.agg [.int .u8 x2.2.2.2.2.2.2.2.2.1, .int .i64 x2.2.2.2.2.2.2.2.2.2.1, .int .i64 x2.2.2.2.2.2.2.2.2.2.2.1]) false), (33814, .row 149 (.pair (.int .i64) (.pair .bool (.pair (.int .i64) .unit))) x2.2.2.2.2.2.2.2.2.2.2.2.1 false), (33816, .var (.pair (.int .i64) (.pair (.int .i64) (.pair (.sl (.pair (.int .i64) (.pair .bool (.pair (.int .i64) .unit)))) .unit))) (.agg [.int .i64 x2.2.2.2.2.2.2.2.2.2.2.2.2.1, .int .i64 x2.2.2.2.2.2.2.2.2.2.2.2.2.2, .own 33814]) false)], none⟩
def L02_ArenaPlays_Q2 (x4 : Int × Int × (List (Int × Int × Int × Unit)) × Int × Int × Int × List Int × (List (Int × Int × Unit)) × Int × Int × Int × (List (Int × Bool × Int × Unit)) × Int × Int) : St :=
  ⟨[(7, .ptr 33816 []), (9, .ptr 9 []), (12, .ptr 12 []), (13, .int .i64 x4.1), (14, .int .i64 x4.2.1), (59, .ro (.pair (.int .u8) (.pair (.int .i64) (.pair (.int .i64) .unit))) x4.2.2.1), (60, .int .i64 x4.2.2.2.1), (61, .int .i64 x4.2.2.2.2.1)], [(9, .var (.pair (.int .i64) (.pair (.sl (.int .i64)) (.pair (.sl (.pair (.int .i64) (.pair (.int .i64) .unit))) .unit))) (.agg [.int .i64 x4.2.2.2.2.2.1, .ro (.int .i64) x4.2.2.2.2.2.2.1, .ro (.pair (.int .i64) (.pair (.int .i64) .unit)) x4.2.2.2.2.2.2.2.1]) false), (12, .var (.pair (.int .u8) (.pair (.int .i64) (.pair (.int .i64) .unit))) (.agg [.int .u8 x4.2.2.2.2.2.2.2.2.1, .int .i64 x4.2.2.2.2.2.2.2.2.2.1, .int .i64 x4.2.2.2.2.2.2.2.2.2.2.1]) false), (33814, .row 149 (.pair (.int .i64) (.pair .bool (.pair (.int .i64) .unit))) x4.2.2.2.2.2.2.2.2.2.2.2.1 false), (33816, .var (.pair (.int .i64) (.pair (.int .i64) (.pair (.sl (.pair (.int .i64) (.pair .bool (.pair (.int .i64) .unit)))) .unit))) (.agg [.int .i64 x4.2.2.2.2.2.2.2.2.2.2.2.2.1, .int .i64 x4.2.2.2.2.2.2.2.2.2.2.2.2.2, .own 33814]) false)], none⟩
def kp_L02_ArenaPlays : List (Nat × List Nat) := [(0, [0, 1, 2]), (1, [0, 1, 2, 27]), (2, [6]), (3, [0, 1, 2, 7, 8]), (4, [2, 7, 8, 9, 10]), (5, [2, 7, 8, 9, 10, 42]), (6, [6]), (7, [2, 7, 9, 58]), (8, [6]), (9, [7, 9, 59, 60, 61]), (10, [7, 9, 59, 60, 61, 62]), (11, [7, 9, 12, 59, 60, 61]), (12, [7, 9, 12, 59, 60, 61]), (13, [7, 9, 12, 59, 60, 61, 67]), (14, [7, 9, 12, 59, 60, 61]), (15, [7, 9, 12, 13, 15, 59, 60, 61]), (16, [7, 9, 12, 13, 14, 15, 16, 59, 60, 61]), (17, [7, 9, 12, 13, 14, 59, 60, 61, 85]), (18, [6]), (19, [7, 9, 12, 59, 60, 61, 67, 86]), (20, [7, 9, 12, 13, 59, 60, 61]), (21, [7, 9, 12, 13, 14, 59, 60, 61]), (22, [7, 9, 12, 59, 60, 61, 67, 103]), (23, [7, 9, 12, 59, 60, 61, 103]), (24, [7, 9, 12, 13, 59, 60, 61]), (25, [7, 9, 12, 13, 14, 59, 60, 61]), (26, [7, 9, 59, 60, 61, 127]), (27, [6]), (28, [7, 9, 59, 60, 61]), (29, [6]), (12000002, []), (7000002, [7, 9, 12, 13, 14, 59, 60, 61]), (11000002, [9, 12, 33814, 33816]), (13000002, []), (4000000, []), (4000001, []), (4000002, []), (4000003, [33814, 33816]), (4000004, [9, 33814, 33816]), (4000005, [9, 33814, 33816]), (4000006, []), (4000007, [9, 33814, 33816]), (4000008, []), (4000009, [9, 33814, 33816]), (4000010, [9, 33814, 33816]), (4000011, [9, 12, 33814, 33816]), (4000012, [9, 12, 33814, 33816]), (4000013, [9, 12, 33814, 33816]), (4000014, [9, 12, 33814, 33816]), (4000015, [9, 12, 33814, 33816]), (4000016, [9, 12, 33814, 33816]), (4000017, [9, 12, 33814, 33816]), (4000018, []), (4000019, [9, 12, 33814, 33816]), (4000020, [9, 12, 33814, 33816]), (4000021, [9, 12, 33814, 33816]), (4000022, [9, 12, 33814, 33816]), (4000023, [9, 12, 33814, 33816]), (4000024, [9, 12, 33814, 33816]), (4000025, [9, 12, 33814, 33816]), (4000026, [9, 33814, 33816]), (4000027, []), (4000028, [9, 33814, 33816]), (4000029, [])]
def od_L02_ArenaPlays : List (Nat × Ord) := []
noncomputable def E_L02_ArenaPlays : Env := ⟨0, 0, et_L02_ArenaPlays, tt_L02_ArenaPlays, fns_L02_ArenaPlays, pr_L02_ArenaPlays_15, od_L02_ArenaPlays, kp_L02_ArenaPlays, none, []⟩
set_option maxRecDepth 100000 in
set_option maxHeartbeats 40000000 in
theorem c_L02_ArenaPlays : PCon Go.Proofs.Try.prog 4 lf_L02_ArenaPlays := by
  rw [lq_L02_ArenaPlays]
  refine lift_conR (E := E_L02_ArenaPlays) (c := bodyOf Try.f4) (nt := 135) (rs := [.tmp 6]) (ts := [4]) (EnvC.sub (off := 0) (nt := 0) (ords := od_L02_ArenaPlays) (keep := kp_L02_ArenaPlays) (yl := none) tt_ok et_ok fns_L02_ArenaPlays_ok (pr_L02_ArenaPlays_15_ok) (ItsOk.nil _) tt_L02_ArenaPlays_ok et_L02_ArenaPlays_ok) (PrOk.of mixed_ok) Go.Proofs.Try.func4 rfl (by decide) rfl rfl rfl (pureR_one (e := .bool) rfl) ?_
  intro x r hw hs
  repeat'
    (try (conv => whnf)
     first
       | (with_reducible have hs := letv_out hs)
       | (refine draw_and (by kernel_rfl) ?_)
       | (refine both_mk ?_ ?_)
       | (refine br_bool (fun h => ?_) (fun h => ?_) <;> first | have hs := cT h hs | have hs := cF h hs)
       | (refine bind_elim hs fun v hb hs => ?_; first | refine ck_L02_alive rfl hb ?_ | refine ck_R02_New rfl hb ?_ | refine ck_R02_Set rfl hb ?_ | refine ck_R02_Drop rfl hb ?_ | refine ck_R02_Add rfl hb ?_ | refine cm_arena_Table_int_Drop rfl hb ?_ | refine cm_arena_Table_int_Add rfl hb ?_ | refine cm_arena_Table_int_Set rfl hb ?_ | refine cm_L02_as rfl hb ?_)
       | refine chk_elim hs fun hs => ?_
       | (have hs := letv_out hs)
       | exact fin_some hs rfl
       | (intro b hb; first | have hs := nilq_elim hs b hb | have hs := nilqn_elim hs b hb)
       | exact hJ1 _ hs
       | exact hJ2 _ hs
       | exact hC1 _ hs
       | exact hC2 _ hs
       | (refine cut_out 1 L02_ArenaPlays_Q1 hs (fun Jc1 kc1 hC1 hs => ?_) (fun xc1 hs => ?_))
       | (refine cut_out 2 L02_ArenaPlays_Q2 hs (fun Jc2 kc2 hC2 hs => ?_) (fun xc2 hs => ?_))
       | (have hs := cT rfl hs)
       | (have hs := cF rfl hs)
       | (refine vc_loopR (L02_ArenaPlays_S1 _ _) L02_ArenaPlays_M1 hs rfl ?_; intro J1 k1 x1 hJ1 hs)
       | (refine vc_loopR (L02_ArenaPlays_S2 _ _) L02_ArenaPlays_M2 hs rfl ?_; intro J2 k2 x2 hJ2 hs)
       | exact (none_ne hs).elim)
theorem cq_L02_ArenaPlays : PCon Go.Proofs.Try.prog 4 (liftF (.pair (.int .i64) (.pair (.int .i64) (.pair (.sl (.pair (.int .u8) (.pair (.int .i64) (.pair (.int .i64) .unit)))) .unit))) (unpack .bool) (fun x => L02_ArenaPlays x.1 x.2.1 x.2.2.1)) := lq_L02_ArenaPlays ▸ c_L02_ArenaPlays
end Go.Proofs.YtiicmhholjpcbaaV
