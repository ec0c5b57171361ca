import Derived.Test.YtejedlpnejjnbaaSVcTab
import Derived.Test.YtejedlpnejjnbaaSDframe
import Derived.Test.YtejedlpnejjnbaaSCbase
namespace Go.Proofs.YtejedlpnejjnbaaSV
open Go.Proofs
set_option linter.unusedVariables false
noncomputable def lf_frame_place : List AV → Option AV := liftF (.pair (.int .i64) .unit) (unpack .bool) (fun x => frame_place x.1)
theorem lq_frame_place : lf_frame_place = liftF (.pair (.int .i64) .unit) (unpack .bool) (fun x => frame_place x.1) := rfl
attribute [irreducible] lf_frame_place
theorem ck_frame_place {vs : List AV} {k : AV → Prop} {x : ((.pair (.int .i64) .unit) : Ty).den} {v : Bool} (h1 : pks (.pair (.int .i64) .unit) vs = some x) (h2 : frame_place x.1 = some v) (h3 : k ((unpack .bool) v)) : callK (lf_frame_place vs) k := by
  rw [lq_frame_place]; exact callK_lift h1 h2 h3
def tt_frame_place : List (Nat × Ty) := [(3, .int .i64), (4, .bool)]
def et_frame_place : List (Nat × Nat) := []
theorem tt_frame_place_ok : subT tt tt_frame_place = true := by kernel_rfl
theorem et_frame_place_ok : subE et et_frame_place = true := by kernel_rfl
noncomputable def fns_frame_place : List (Nat × (List AV → Option AV)) := []
theorem fns_frame_place_ok : FnsOk Go.Proofs.Try.prog fns_frame_place := FnsOk.nil _
def kp_frame_place : List (Nat × List Nat) := [(0, [0]), (1, [2]), (4000000, []), (4000001, [])]
def od_frame_place : List (Nat × Ord) := []
noncomputable def E_frame_place : Env := ⟨0, 0, et_frame_place, tt_frame_place, fns_frame_place, [], od_frame_place, kp_frame_place, none, []⟩
set_option maxRecDepth 100000 in
set_option maxHeartbeats 40000000 in
theorem c_frame_place : PCon Go.Proofs.Try.prog 54 lf_frame_place := by
  rw [lq_frame_place]
  refine lift_conR (E := E_frame_place) (c := bodyOf Try.f54) (nt := 9) (rs := [.tmp 2]) (ts := [4]) (EnvC.sub (off := 0) (nt := 0) (ords := od_frame_place) (keep := kp_frame_place) (yl := none) tt_ok et_ok fns_frame_place_ok (PrsOk.nil _) (ItsOk.nil _) tt_frame_place_ok et_frame_place_ok) (PrOk.of mixed_ok) Go.Proofs.Try.func54 rfl (by decide) rfl rfl rfl (pureR_one (e := .bool) rfl) ?_
  intro x r hw hs
  repeat'
    (try (conv => whnf)
     first
       | (with_reducible have hs := letv_out hs)
       | (refine draw_and (by kernel_rfl) ?_)
       | (refine both_mk ?_ ?_)
       | (refine br_bool (fun h => ?_) (fun h => ?_) <;> first | have hs := cT h hs | have hs := cF h hs)
       | refine chk_elim hs fun hs => ?_
       | (have hs := letv_out hs)
       | exact fin_some hs rfl
       | (intro b hb; first | have hs := nilq_elim hs b hb | have hs := nilqn_elim hs b hb)
       | (have hs := cT rfl hs)
       | (have hs := cF rfl hs)
       | exact (none_ne hs).elim)
theorem cq_frame_place : PCon Go.Proofs.Try.prog 54 (liftF (.pair (.int .i64) .unit) (unpack .bool) (fun x => frame_place x.1)) := lq_frame_place ▸ c_frame_place
noncomputable def lf_frame_Fine_1 : List AV → Option AV := liftF (.pair (.int .i64) .unit) (unpack .bool) (fun x => frame_Fine_1 x.1)
theorem lq_frame_Fine_1 : lf_frame_Fine_1 = liftF (.pair (.int .i64) .unit) (unpack .bool) (fun x => frame_Fine_1 x.1) := rfl
attribute [irreducible] lf_frame_Fine_1
theorem ck_frame_Fine_1 {vs : List AV} {k : AV → Prop} {x : ((.pair (.int .i64) .unit) : Ty).den} {v : Bool} (h1 : pks (.pair (.int .i64) .unit) vs = some x) (h2 : frame_Fine_1 x.1 = some v) (h3 : k ((unpack .bool) v)) : callK (lf_frame_Fine_1 vs) k := by
  rw [lq_frame_Fine_1]; exact callK_lift h1 h2 h3
def tt_frame_Fine_1 : List (Nat × Ty) := [(3, .int .i64), (4, .bool)]
def et_frame_Fine_1 : List (Nat × Nat) := []
theorem tt_frame_Fine_1_ok : subT tt tt_frame_Fine_1 = true := by kernel_rfl
theorem et_frame_Fine_1_ok : subE et et_frame_Fine_1 = true := by kernel_rfl
noncomputable def fns_frame_Fine_1 : List (Nat × (List AV → Option AV)) := []
theorem fns_frame_Fine_1_ok : FnsOk Go.Proofs.Try.prog fns_frame_Fine_1 := FnsOk.nil _
def kp_frame_Fine_1 : List (Nat × List Nat) := [(0, [0]), (1, [2]), (4000000, []), (4000001, [])]
def od_frame_Fine_1 : List (Nat × Ord) := []
noncomputable def E_frame_Fine_1 : Env := ⟨0, 0, et_frame_Fine_1, tt_frame_Fine_1, fns_frame_Fine_1, [], od_frame_Fine_1, kp_frame_Fine_1, none, []⟩
set_option maxRecDepth 100000 in
set_option maxHeartbeats 40000000 in
theorem c_frame_Fine_1 : PCon Go.Proofs.Try.prog 56 lf_frame_Fine_1 := by
  rw [lq_frame_Fine_1]
  refine lift_conR (E := E_frame_Fine_1) (c := bodyOf Try.f56) (nt := 5) (rs := [.tmp 2]) (ts := [4]) (EnvC.sub (off := 0) (nt := 0) (ords := od_frame_Fine_1) (keep := kp_frame_Fine_1) (yl := none) tt_ok et_ok fns_frame_Fine_1_ok (PrsOk.nil _) (ItsOk.nil _) tt_frame_Fine_1_ok et_frame_Fine_1_ok) (PrOk.of mixed_ok) Go.Proofs.Try.func56 rfl (by decide) rfl rfl rfl (pureR_one (e := .bool) rfl) ?_
  intro x r hw hs
  repeat'
    (try (conv => whnf)
     first
       | (with_reducible have hs := letv_out hs)
       | (refine draw_and (by kernel_rfl) ?_)
       | (refine both_mk ?_ ?_)
       | (refine br_bool (fun h => ?_) (fun h => ?_) <;> first | have hs := cT h hs | have hs := cF h hs)
       | refine chk_elim hs fun hs => ?_
       | (have hs := letv_out hs)
       | exact fin_some hs rfl
       | (intro b hb; first | have hs := nilq_elim hs b hb | have hs := nilqn_elim hs b hb)
       | (have hs := cT rfl hs)
       | (have hs := cF rfl hs)
       | exact (none_ne hs).elim)
theorem cq_frame_Fine_1 : PCon Go.Proofs.Try.prog 56 (liftF (.pair (.int .i64) .unit) (unpack .bool) (fun x => frame_Fine_1 x.1)) := lq_frame_Fine_1 ▸ c_frame_Fine_1
noncomputable def lf_frame_Fine : List AV → Option AV := liftF (.pair (.pair (.int .i64) (.pair .bool (.pair (.arr 8 (.int .i64)) (.pair (.arr 16 (.int .i64)) (.pair (.int .i64) (.pair (.arr 8 (.int .i64)) .unit)))))) .unit) (unpack .bool) (fun x => frame_Fine x.1)
theorem lq_frame_Fine : lf_frame_Fine = liftF (.pair (.pair (.int .i64) (.pair .bool (.pair (.arr 8 (.int .i64)) (.pair (.arr 16 (.int .i64)) (.pair (.int .i64) (.pair (.arr 8 (.int .i64)) .unit)))))) .unit) (unpack .bool) (fun x => frame_Fine x.1) := rfl
attribute [irreducible] lf_frame_Fine
theorem ck_frame_Fine {vs : List AV} {k : AV → Prop} {x : ((.pair (.pair (.int .i64) (.pair .bool (.pair (.arr 8 (.int .i64)) (.pair (.arr 16 (.int .i64)) (.pair (.int .i64) (.pair (.arr 8 (.int .i64)) .unit)))))) .unit) : Ty).den} {v : Bool} (h1 : pks (.pair (.pair (.int .i64) (.pair .bool (.pair (.arr 8 (.int .i64)) (.pair (.arr 16 (.int .i64)) (.pair (.int .i64) (.pair (.arr 8 (.int .i64)) .unit)))))) .unit) vs = some x) (h2 : frame_Fine x.1 = some v) (h3 : k ((unpack .bool) v)) : callK (lf_frame_Fine vs) k := by
  rw [lq_frame_Fine]; exact callK_lift h1 h2 h3
def tt_frame_Fine : List (Nat × Ty) := [(3, .int .i64), (4, .bool), (36, .sl (.int .i64)), (60, .arr 8 (.int .i64)), (61, .arr 16 (.int .i64)), (67, .pair (.int .i64) (.pair .bool (.pair (.arr 8 (.int .i64)) (.pair (.arr 16 (.int .i64)) (.pair (.int .i64) (.pair (.arr 8 (.int .i64)) .unit)))))), (78, .opq 1)]
def et_frame_Fine : List (Nat × Nat) := [(36, 3)]
theorem tt_frame_Fine_ok : subT tt tt_frame_Fine = true := by kernel_rfl
theorem et_frame_Fine_ok : subE et et_frame_Fine = true := by kernel_rfl
noncomputable def fns_frame_Fine : List (Nat × (List AV → Option AV)) := [(41, lf_word_Fine), (54, lf_frame_place), (56, lf_frame_Fine_1)]
theorem fns_frame_Fine_ok : FnsOk Go.Proofs.Try.prog fns_frame_Fine := FnsOk.cons c_word_Fine (FnsOk.cons c_frame_place (FnsOk.cons c_frame_Fine_1 (FnsOk.nil _)))
def kp_frame_Fine_58 : List (Nat × List Nat) := [(0, [0, 1]), (1, [3])]
def od_frame_Fine_58 : List (Nat × Ord) := []
noncomputable def E_frame_Fine_58 : Env := ⟨0, 0, et_frame_Fine, tt_frame_Fine, fns_frame_Fine, [], od_frame_Fine_58, kp_frame_Fine_58, none, []⟩
noncomputable def pr_frame_Fine_58 : List (Nat × Proc) := (58, procR E_frame_Fine_58 8 [.tmp 3] (bodyOf Try.f58)) :: []
theorem pr_frame_Fine_58_ok : PrsOk Go.Proofs.Try.prog pr_frame_Fine_58 :=
  PrsOk.cons (proc_conR (E := E_frame_Fine_58) (EnvC.sub (off := 0) (nt := 0) (ords := od_frame_Fine_58) (keep := kp_frame_Fine_58) (yl := none) tt_ok et_ok fns_frame_Fine_ok (PrsOk.nil _) (ItsOk.nil _) tt_frame_Fine_ok et_frame_Fine_ok) (PrOk.of mixed_ok) Go.Proofs.Try.func58 rfl (by decide) rfl rfl) (PrsOk.nil _)
def kp_frame_Fine_59 : List (Nat × List Nat) := [(0, [0, 1]), (1, [0, 1, 7, 8]), (2, [0, 1, 7, 8, 9]), (3, [0, 1, 5, 7, 8]), (4, [0, 1, 5, 7, 8, 16]), (5, [4]), (6, [0, 1, 7, 8]), (7, [4])]
def od_frame_Fine_59 : List (Nat × Ord) := []
noncomputable def E_frame_Fine_59 : Env := ⟨0, 0, et_frame_Fine, tt_frame_Fine, fns_frame_Fine, pr_frame_Fine_58, od_frame_Fine_59, kp_frame_Fine_59, none, []⟩
noncomputable def pr_frame_Fine_59 : List (Nat × Proc) := (59, procR E_frame_Fine_59 19 [.tmp 4] (bodyOf Try.f59)) :: pr_frame_Fine_58
theorem pr_frame_Fine_59_ok : PrsOk Go.Proofs.Try.prog pr_frame_Fine_59 :=
  PrsOk.cons (proc_conR (E := E_frame_Fine_59) (EnvC.sub (off := 0) (nt := 0) (ords := od_frame_Fine_59) (keep := kp_frame_Fine_59) (yl := none) tt_ok et_ok fns_frame_Fine_ok (pr_frame_Fine_58_ok) (ItsOk.nil _) tt_frame_Fine_ok et_frame_Fine_ok) (PrOk.of mixed_ok) Go.Proofs.Try.func59 rfl (by decide) rfl rfl) (pr_frame_Fine_58_ok)
def kp_frame_Fine_57 : List (Nat × List Nat) := [(0, [0, 1]), (1, [4])]
def od_frame_Fine_57 : List (Nat × Ord) := []
noncomputable def E_frame_Fine_57 : Env := ⟨0, 0, et_frame_Fine, tt_frame_Fine, fns_frame_Fine, pr_frame_Fine_59, od_frame_Fine_57, kp_frame_Fine_57, none, []⟩
noncomputable def pr_frame_Fine_57 : List (Nat × Proc) := (57, procR E_frame_Fine_57 9 [.tmp 4] (bodyOf Try.f57)) :: pr_frame_Fine_59
theorem pr_frame_Fine_57_ok : PrsOk Go.Proofs.Try.prog pr_frame_Fine_57 :=
  PrsOk.cons (proc_conR (E := E_frame_Fine_57) (EnvC.sub (off := 0) (nt := 0) (ords := od_frame_Fine_57) (keep := kp_frame_Fine_57) (yl := none) tt_ok et_ok fns_frame_Fine_ok (pr_frame_Fine_59_ok) (ItsOk.nil _) tt_frame_Fine_ok et_frame_Fine_ok) (PrOk.of mixed_ok) Go.Proofs.Try.func57 rfl (by decide) rfl rfl) (pr_frame_Fine_59_ok)
def kp_frame_Fine_55 : List (Nat × List Nat) := [(0, [0, 3]), (1, [4])]
def od_frame_Fine_55 : List (Nat × Ord) := []
noncomputable def E_frame_Fine_55 : Env := ⟨0, 0, et_frame_Fine, tt_frame_Fine, fns_frame_Fine, pr_frame_Fine_57, od_frame_Fine_55, kp_frame_Fine_55, none, []⟩
noncomputable def pr_frame_Fine_55 : List (Nat × Proc) := (55, procR E_frame_Fine_55 9 [.tmp 4] (bodyOf Try.f55)) :: pr_frame_Fine_57
theorem pr_frame_Fine_55_ok : PrsOk Go.Proofs.Try.prog pr_frame_Fine_55 :=
  PrsOk.cons (proc_conR (E := E_frame_Fine_55) (EnvC.sub (off := 0) (nt := 0) (ords := od_frame_Fine_55) (keep := kp_frame_Fine_55) (yl := none) tt_ok et_ok fns_frame_Fine_ok (pr_frame_Fine_57_ok) (ItsOk.nil _) tt_frame_Fine_ok et_frame_Fine_ok) (PrOk.of mixed_ok) Go.Proofs.Try.func55 rfl (by decide) rfl rfl) (pr_frame_Fine_57_ok)
def frame_Fine_S1 (u0 : AV) (u1 : AV) (u2 : AV) (B4 : Blk) (B6 : Blk) (x2 : Int) : St :=
  ⟨[(0, u0), (1, u1), (7, u2), (8, .int .i64 x2)], [(1, B4), (21507, B6)], (some ([], 0))⟩
def frame_Fine_M1 : Msk := ⟨[0, 1, 7, 8], [1, 21507], [], [], [], [], [], [], [], [], []⟩
def frame_Fine_S2 (u0 : AV) (u1 : AV) (u2 : AV) (B4 : Blk) (B6 : Blk) (x4 : Int) : St :=
  ⟨[(0, u0), (1, u1), (7, u2), (8, .int .i64 x4)], [(1, B4), (27651, B6)], (some ([], 0))⟩
def frame_Fine_M2 : Msk := ⟨[0, 1, 7, 8], [1, 27651], [], [], [], [], [], [], [], [], []⟩
def frame_Fine_S3 (u0 : AV) (u1 : AV) (u2 : AV) (B4 : Blk) (B6 : Blk) (x6 : Int) : St :=
  ⟨[(0, u0), (1, u1), (7, u2), (8, .int .i64 x6)], [(1, B4), (34819, B6)], (some ([], 0))⟩
def frame_Fine_M3 : Msk := ⟨[0, 1, 7, 8], [1, 34819], [], [], [], [], [], [], [], [], []⟩
def frame_Fine_S4 (u0 : AV) (u1 : AV) (u2 : AV) (B4 : Blk) (B6 : Blk) (x8 : Int) : St :=
  ⟨[(0, u0), (1, u1), (7, u2), (8, .int .i64 x8)], [(1, B4), (40963, B6)], (some ([], 0))⟩
def frame_Fine_M4 : Msk := ⟨[0, 1, 7, 8], [1, 40963], [], [], [], [], [], [], [], [], []⟩
def frame_Fine_Q1 (x1 : Bool × Int × Bool × List Int × List Int × Int × List Int) : St :=
  ⟨[(1, .ptr 1 []), (17, .bool false), (20, .bool x1.1), (21, .dead), (22, .dead), (23, .dead), (24, .dead), (25, .dead), (26, .dead), (27, .dead), (28, .dead)], [(1, .var (.pair (.int .i64) (.pair .bool (.pair (.arr 8 (.int .i64)) (.pair (.arr 16 (.int .i64)) (.pair (.int .i64) (.pair (.arr 8 (.int .i64)) .unit)))))) (.agg [.int .i64 x1.2.1, .bool x1.2.2.1, .arr 8 (.int .i64) x1.2.2.2.1, .arr 16 (.int .i64) x1.2.2.2.2.1, .int .i64 x1.2.2.2.2.2.1, .arr 8 (.int .i64) x1.2.2.2.2.2.2]) true)], none⟩
def frame_Fine_Q2 (x3 : Bool × Int × Bool × List Int × List Int × Int × List Int) : St :=
  ⟨[(1, .ptr 1 []), (23, .bool false), (26, .bool x3.1), (27, .dead), (28, .dead)], [(1, .var (.pair (.int .i64) (.pair .bool (.pair (.arr 8 (.int .i64)) (.pair (.arr 16 (.int .i64)) (.pair (.int .i64) (.pair (.arr 8 (.int .i64)) .unit)))))) (.agg [.int .i64 x3.2.1, .bool x3.2.2.1, .arr 8 (.int .i64) x3.2.2.2.1, .arr 16 (.int .i64) x3.2.2.2.2.1, .int .i64 x3.2.2.2.2.2.1, .arr 8 (.int .i64) x3.2.2.2.2.2.2]) true)], none⟩
def frame_Fine_Q3 (x5 : Bool × Int × Bool × List Int × List Int × Int × List Int) : St :=
  ⟨[(1, .ptr 1 []), (2, .dead), (33, .bool x5.1), (34, .dead), (35, .dead), (36, .dead), (37, .dead), (38, .dead), (39, .dead), (40, .dead)], [(1, .var (.pair (.int .i64) (.pair .bool (.pair (.arr 8 (.int .i64)) (.pair (.arr 16 (.int .i64)) (.pair (.int .i64) (.pair (.arr 8 (.int .i64)) .unit)))))) (.agg [.int .i64 x5.2.1, .bool x5.2.2.1, .arr 8 (.int .i64) x5.2.2.2.1, .arr 16 (.int .i64) x5.2.2.2.2.1, .int .i64 x5.2.2.2.2.2.1, .arr 8 (.int .i64) x5.2.2.2.2.2.2]) true)], none⟩
def frame_Fine_Q4 (x7 : Bool) : St :=
  ⟨[(2, .dead), (34, .bool true), (39, .bool x7), (40, .dead)], [], none⟩
def kp_frame_Fine : List (Nat × List Nat) := [(0, [1]), (1, [1, 28]), (2, [2]), (3, [2]), (25000020, []), (20000020, [1, 17, 20, 21, 22, 23, 24, 25, 26, 27, 28]), (25000026, []), (20000026, [1, 23, 26, 27, 28]), (25000033, []), (20000033, [1, 2, 33, 34, 35, 36, 37, 38, 39, 40]), (25000039, []), (20000039, [2, 34, 39, 40]), (24000020, [1]), (26000020, []), (24000026, [1]), (26000026, []), (24000033, [1]), (26000033, []), (24000039, []), (26000039, []), (4000000, [1]), (4000001, [1]), (4000002, []), (4000003, [])]
def od_frame_Fine : List (Nat × Ord) := []
noncomputable def E_frame_Fine : Env := ⟨0, 0, et_frame_Fine, tt_frame_Fine, fns_frame_Fine, pr_frame_Fine_55, od_frame_Fine, kp_frame_Fine, none, []⟩
set_option maxRecDepth 100000 in
set_option maxHeartbeats 40000000 in
theorem c_frame_Fine : PCon Go.Proofs.Try.prog 50 lf_frame_Fine := by
  rw [lq_frame_Fine]
  refine lift_conR (E := E_frame_Fine) (c := bodyOf Try.f50) (nt := 41) (rs := [.tmp 2]) (ts := [4]) (EnvC.sub (off := 0) (nt := 0) (ords := od_frame_Fine) (keep := kp_frame_Fine) (yl := none) tt_ok et_ok fns_frame_Fine_ok (pr_frame_Fine_55_ok) (ItsOk.nil _) tt_frame_Fine_ok et_frame_Fine_ok) (PrOk.of mixed_ok) Go.Proofs.Try.func50 rfl (by decide) rfl rfl rfl (pureR_one (e := .bool) rfl) ?_
  intro x r hw hs
  repeat'
    (try (conv => whnf)
     first
       | (with_reducible have hs := letv_out hs)
       | (refine draw_and (by kernel_rfl) ?_)
       | (refine both_mk ?_ ?_)
       | (refine br_bool (fun h => ?_) (fun h => ?_) <;> first | have hs := cT h hs | have hs := cF h hs)
       | (refine bind_elim hs fun v hb hs => ?_; first | refine ck_word_Fine rfl hb ?_ | refine ck_frame_place rfl hb ?_ | refine ck_frame_Fine_1 rfl hb ?_)
       | refine chk_elim hs fun hs => ?_
       | (have hs := letv_out hs)
       | exact fin_some hs rfl
       | (intro b hb; first | have hs := nilq_elim hs b hb | have hs := nilqn_elim hs b hb)
       | exact hJ1 _ hs
       | exact hJ2 _ hs
       | exact hJ3 _ hs
       | exact hJ4 _ hs
       | exact hC1 _ hs
       | exact hC2 _ hs
       | exact hC3 _ hs
       | exact hC4 _ hs
       | (refine cut_out 1 frame_Fine_Q1 hs (fun Jc1 kc1 hC1 hs => ?_) (fun xc1 hs => ?_))
       | (refine cut_out 2 frame_Fine_Q2 hs (fun Jc2 kc2 hC2 hs => ?_) (fun xc2 hs => ?_))
       | (refine cut_out 3 frame_Fine_Q3 hs (fun Jc3 kc3 hC3 hs => ?_) (fun xc3 hs => ?_))
       | (refine cut_out 4 frame_Fine_Q4 hs (fun Jc4 kc4 hC4 hs => ?_) (fun xc4 hs => ?_))
       | (have hs := cT rfl hs)
       | (have hs := cF rfl hs)
       | ((with_reducible have hs : frame_Fine_C1 _ _ = some _ := hs); unfold frame_Fine_C1 at hs)
       | ((with_reducible have hs : frame_Fine_C2 _ _ = some _ := hs); unfold frame_Fine_C2 at hs)
       | ((with_reducible have hs : frame_Fine_C3 _ _ = some _ := hs); unfold frame_Fine_C3 at hs)
       | ((with_reducible have hs : frame_Fine_C4 _ _ = some _ := hs); unfold frame_Fine_C4 at hs)
       | ((with_reducible have hs : loop (frame_Fine_L1 _ _ _ _) _ = some _ := hs); refine vc_loopR (frame_Fine_S1 _ _ _ _ _) frame_Fine_M1 hs rfl ?_; intro J1 k1 x1 hJ1 hs)
       | ((with_reducible have hs : loop (frame_Fine_L2 _ _ _ _) _ = some _ := hs); refine vc_loopR (frame_Fine_S2 _ _ _ _ _) frame_Fine_M2 hs rfl ?_; intro J2 k2 x2 hJ2 hs)
       | ((with_reducible have hs : loop (frame_Fine_L3 _ _ _ _) _ = some _ := hs); refine vc_loopR (frame_Fine_S3 _ _ _ _ _) frame_Fine_M3 hs rfl ?_; intro J3 k3 x3 hJ3 hs)
       | ((with_reducible have hs : loop (frame_Fine_L4 _ _ _) _ = some _ := hs); refine vc_loopR (frame_Fine_S4 _ _ _ _ _) frame_Fine_M4 hs rfl ?_; intro J4 k4 x4 hJ4 hs)
       | (refine vc_loopR (frame_Fine_S1 _ _ _ _ _) frame_Fine_M1 hs rfl ?_; intro J1 k1 x1 hJ1 hs)
       | (refine vc_loopR (frame_Fine_S2 _ _ _ _ _) frame_Fine_M2 hs rfl ?_; intro J2 k2 x2 hJ2 hs)
       | (refine vc_loopR (frame_Fine_S3 _ _ _ _ _) frame_Fine_M3 hs rfl ?_; intro J3 k3 x3 hJ3 hs)
       | (refine vc_loopR (frame_Fine_S4 _ _ _ _ _) frame_Fine_M4 hs rfl ?_; intro J4 k4 x4 hJ4 hs)
       | exact (none_ne hs).elim)
theorem cq_frame_Fine : PCon Go.Proofs.Try.prog 50 (liftF (.pair (.pair (.int .i64) (.pair .bool (.pair (.arr 8 (.int .i64)) (.pair (.arr 16 (.int .i64)) (.pair (.int .i64) (.pair (.arr 8 (.int .i64)) .unit)))))) .unit) (unpack .bool) (fun x => frame_Fine x.1)) := lq_frame_Fine ▸ c_frame_Fine
noncomputable def lf_frame_New : List AV → Option AV := liftF (.pair (.int .i64) .unit) (unpR (.pair (.pair (.int .i64) (.pair .bool (.pair (.arr 8 (.int .i64)) (.pair (.arr 16 (.int .i64)) (.pair (.int .i64) (.pair (.arr 8 (.int .i64)) .unit)))))) (.pair (.int .i64) .unit))) (fun x => frame_New x.1)
theorem lq_frame_New : lf_frame_New = liftF (.pair (.int .i64) .unit) (unpR (.pair (.pair (.int .i64) (.pair .bool (.pair (.arr 8 (.int .i64)) (.pair (.arr 16 (.int .i64)) (.pair (.int .i64) (.pair (.arr 8 (.int .i64)) .unit)))))) (.pair (.int .i64) .unit))) (fun x => frame_New x.1) := rfl
attribute [irreducible] lf_frame_New
theorem ck_frame_New {vs : List AV} {k : AV → Prop} {x : ((.pair (.int .i64) .unit) : Ty).den} {v : (Int × Bool × (List Int) × (List Int) × Int × (List Int) × Unit) × Int × Unit} (h1 : pks (.pair (.int .i64) .unit) vs = some x) (h2 : frame_New x.1 = some v) (h3 : k ((unpR (.pair (.pair (.int .i64) (.pair .bool (.pair (.arr 8 (.int .i64)) (.pair (.arr 16 (.int .i64)) (.pair (.int .i64) (.pair (.arr 8 (.int .i64)) .unit)))))) (.pair (.int .i64) .unit))) v)) : callK (lf_frame_New vs) k := by
  rw [lq_frame_New]; exact callK_lift h1 h2 h3
def tt_frame_New : List (Nat × Ty) := [(3, .int .i64), (4, .bool), (27, .int .i64), (60, .arr 8 (.int .i64)), (67, .pair (.int .i64) (.pair .bool (.pair (.arr 8 (.int .i64)) (.pair (.arr 16 (.int .i64)) (.pair (.int .i64) (.pair (.arr 8 (.int .i64)) .unit))))))]
def et_frame_New : List (Nat × Nat) := []
theorem tt_frame_New_ok : subT tt tt_frame_New = true := by kernel_rfl
theorem et_frame_New_ok : subE et et_frame_New = true := by kernel_rfl
noncomputable def fns_frame_New : List (Nat × (List AV → Option AV)) := [(41, lf_word_Fine)]
theorem fns_frame_New_ok : FnsOk Go.Proofs.Try.prog fns_frame_New := FnsOk.cons c_word_Fine (FnsOk.nil _)
def kp_frame_New : List (Nat × List Nat) := [(0, [0, 2]), (1, [0, 2, 6]), (2, [2, 3]), (3, [2, 3]), (4000000, [2]), (4000001, [2]), (4000002, [2]), (4000003, [2])]
def od_frame_New : List (Nat × Ord) := []
noncomputable def E_frame_New : Env := ⟨0, 0, et_frame_New, tt_frame_New, fns_frame_New, [], od_frame_New, kp_frame_New, none, []⟩
set_option maxRecDepth 100000 in
set_option maxHeartbeats 40000000 in
theorem c_frame_New : PCon Go.Proofs.Try.prog 42 lf_frame_New := by
  rw [lq_frame_New]
  refine lift_conR (E := E_frame_New) (c := bodyOf Try.f42) (nt := 11) (rs := [.cell 2 67, .tmp 3]) (ts := [67, 27]) (EnvC.sub (off := 0) (nt := 0) (ords := od_frame_New) (keep := kp_frame_New) (yl := none) tt_ok et_ok fns_frame_New_ok (PrsOk.nil _) (ItsOk.nil _) tt_frame_New_ok et_frame_New_ok) (PrOk.of mixed_ok) Go.Proofs.Try.func42 rfl (by decide) rfl rfl rfl (pureR_many (e := (.pair (.pair (.int .i64) (.pair .bool (.pair (.arr 8 (.int .i64)) (.pair (.arr 16 (.int .i64)) (.pair (.int .i64) (.pair (.arr 8 (.int .i64)) .unit)))))) (.pair (.int .i64) .unit))) rfl) ?_
  intro x r hw hs
  repeat'
    (try (conv => whnf)
     first
       | (with_reducible have hs := letv_out hs)
       | (refine draw_and (by kernel_rfl) ?_)
       | (refine both_mk ?_ ?_)
       | (refine br_bool (fun h => ?_) (fun h => ?_) <;> first | have hs := cT h hs | have hs := cF h hs)
       | (refine bind_elim hs fun v hb hs => ?_; first | refine ck_word_Fine rfl hb ?_)
       | refine chk_elim hs fun hs => ?_
       | (have hs := letv_out hs)
       | exact fin_some hs rfl
       | (intro b hb; first | have hs := nilq_elim hs b hb | have hs := nilqn_elim hs b hb)
       | (have hs := cT rfl hs)
       | (have hs := cF rfl hs)
       | exact (none_ne hs).elim)
theorem cq_frame_New : PCon Go.Proofs.Try.prog 42 (liftF (.pair (.int .i64) .unit) (unpR (.pair (.pair (.int .i64) (.pair .bool (.pair (.arr 8 (.int .i64)) (.pair (.arr 16 (.int .i64)) (.pair (.int .i64) (.pair (.arr 8 (.int .i64)) .unit)))))) (.pair (.int .i64) .unit))) (fun x => frame_New x.1)) := lq_frame_New ▸ c_frame_New
end Go.Proofs.YtejedlpnejjnbaaSV
