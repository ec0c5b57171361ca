import Derived.Test.YtbkccpddkpclaaaGreatDoorBVcTab
import Derived.Test.YtbkccpddkpclaaaGreatDoorBDDReady
import Derived.Test.YtbkccpddkpclaaaGreatDoorBCCRg0b
import Derived.Test.YtbkccpddkpclaaaGreatDoorBCCRg0a
namespace Go.Proofs.YtbkccpddkpclaaaGreatDoorV
open Go.Proofs
set_option linter.unusedVariables false
noncomputable def lf_ready_View_guards : List AV → Option AV := liftF (.pair (.pair (.int .i64) (.pair (.sl tyA0) (.pair (.sl (.pair (.pair .bool tyA3) (.pair (.pair (.arr 4 (.int .u64)) (.pair (.arr 4 (.int .u64)) .unit)) tyA3))) tyA1))) tyA3) (unpack tyA24) (fun x => ready_View_guards x.1 x.2.1)
theorem lq_ready_View_guards : lf_ready_View_guards = liftF (.pair (.pair (.int .i64) (.pair (.sl tyA0) (.pair (.sl (.pair (.pair .bool tyA3) (.pair (.pair (.arr 4 (.int .u64)) (.pair (.arr 4 (.int .u64)) .unit)) tyA3))) tyA1))) tyA3) (unpack tyA24) (fun x => ready_View_guards x.1 x.2.1) := rfl
attribute [irreducible] lf_ready_View_guards
theorem ck_ready_View_guards {vs : List AV} {k : AV → Prop} {x : ((.pair (.pair (.int .i64) (.pair (.sl tyA0) (.pair (.sl (.pair (.pair .bool tyA3) (.pair (.pair (.arr 4 (.int .u64)) (.pair (.arr 4 (.int .u64)) .unit)) tyA3))) tyA1))) tyA3) : Ty).den} {v : List tzA31} (h1 : pks (.pair (.pair (.int .i64) (.pair (.sl tyA0) (.pair (.sl (.pair (.pair .bool tyA3) (.pair (.pair (.arr 4 (.int .u64)) (.pair (.arr 4 (.int .u64)) .unit)) tyA3))) tyA1))) tyA3) vs = some x) (h2 : ready_View_guards x.1 x.2.1 = some v) (h3 : k ((unpack tyA24) v)) : callK (lf_ready_View_guards vs) k := by
  rw [lq_ready_View_guards]; exact callK_lift h1 h2 h3
def tt_ready_View_guards : List (Nat × Ty) := [(3, .int .i64), (37, .sl tyA13), (40, .pair (.int .i64) (.pair (.sl tyA0) (.pair (.sl (.pair (.pair .bool tyA3) (.pair (.pair (.arr 4 (.int .u64)) (.pair (.arr 4 (.int .u64)) .unit)) tyA3))) tyA1))), (59, .sl (.pair (.int .i64) tyA7)), (61, .pair (.int .i64) (.pair tyA24 .unit))]
def et_ready_View_guards : List (Nat × Nat) := [(37, 61), (59, 63)]
theorem tt_ready_View_guards_ok : subT tt tt_ready_View_guards = true := by kernel_rfl
theorem et_ready_View_guards_ok : subE et et_ready_View_guards = true := by kernel_rfl
noncomputable def fns_ready_View_guards : List (Nat × (List AV → Option AV)) := []
theorem fns_ready_View_guards_ok : FnsOk Go.Proofs.Tryz.prog fns_ready_View_guards := FnsOk.nil _
def ready_View_guards_S1 (u0 : AV) (u1 : AV) (u2 : AV) (x1 : Int) : St :=
  ⟨[(1, u0), (8, u1), (9, u2), (10, .int .i64 x1)], [], none⟩
def ready_View_guards_M1 : Msk := ⟨[1, 8, 9, 10], [], [], [], [], [], [], [], []⟩
def kp_ready_View_guards : List (Nat × List Nat) := [(0, [1, 2]), (1, [1, 8, 9, 10]), (2, [1, 8, 9, 10, 11]), (3, [1, 6, 8, 9, 10]), (4, [1, 6, 8, 9, 10, 17]), (5, [4]), (6, [1, 8, 9, 10]), (7, [4]), (4000000, [2]), (4000001, []), (4000002, []), (4000003, [6]), (4000004, [6]), (4000005, []), (4000006, []), (4000007, [])]
def od_ready_View_guards : List (Nat × Ord) := []
noncomputable def E_ready_View_guards : Env := ⟨0, 0, et_ready_View_guards, tt_ready_View_guards, fns_ready_View_guards, [], od_ready_View_guards, kp_ready_View_guards, none, []⟩
set_option maxRecDepth 100000 in
set_option maxHeartbeats 40000000 in
theorem c_ready_View_guards : PCon Go.Proofs.Tryz.prog 20 lf_ready_View_guards := by
  rw [lq_ready_View_guards]
  refine lift_conR (E := E_ready_View_guards) (c := bodyOf Tryz.f20) (nt := 21) (rs := [.tmp 4]) (ts := [59]) (EnvC.sub (off := 0) (nt := 0) (ords := od_ready_View_guards) (keep := kp_ready_View_guards) (yl := none) tt_ok et_ok fns_ready_View_guards_ok (PrsOk.nil _) (ItsOk.nil _) tt_ready_View_guards_ok et_ready_View_guards_ok) (PrOk.of mixed_ok) Go.Proofs.Tryz.func20 rfl (by decide) rfl rfl rfl (pureR_one (e := tyA24) rfl) ?_
  intro x r hw hs
  repeat'
    (try (conv => whnf)
     first
       | (with_reducible have hs := letv_out hs)
       | (refine draw_and (by kernel_rfl) ?_)
       | (refine both_mk ?_ ?_)
       | (refine br_bool (fun h => ?_) (fun h => ?_) <;> first | have hs := cT h hs | have hs := cF h hs)
       | refine chk_elim hs fun hs => ?_
       | (have hs := letv_out hs)
       | exact fin_some hs rfl
       | (intro b hb; first | have hs := nilq_elim hs b hb | have hs := nilqn_elim hs b hb)
       | exact hJ1 _ hs
       | (have hs := cT rfl hs)
       | (have hs := cF rfl hs)
       | ((with_reducible have hs : loop (ready_View_guards_L1 _ _ _) _ = some _ := hs); refine vc_loopR (ready_View_guards_S1 _ _ _) ready_View_guards_M1 hs rfl ?_; intro J1 k1 x1 hJ1 hs)
       | (refine vc_loopR (ready_View_guards_S1 _ _ _) ready_View_guards_M1 hs rfl ?_; intro J1 k1 x1 hJ1 hs)
       | exact (none_ne hs).elim)
noncomputable def lf_ready_moves : List AV → Option AV := liftF tyA3 (unpack (.int .i64)) (fun x => ready_moves x.1)
theorem lq_ready_moves : lf_ready_moves = liftF tyA3 (unpack (.int .i64)) (fun x => ready_moves x.1) := rfl
attribute [irreducible] lf_ready_moves
theorem ck_ready_moves {vs : List AV} {k : AV → Prop} {x : (tyA3 : Ty).den} {v : Int} (h1 : pks tyA3 vs = some x) (h2 : ready_moves x.1 = some v) (h3 : k ((unpack (.int .i64)) v)) : callK (lf_ready_moves vs) k := by
  rw [lq_ready_moves]; exact callK_lift h1 h2 h3
def tt_ready_moves : List (Nat × Ty) := [(3, .int .i64)]
def et_ready_moves : List (Nat × Nat) := []
theorem tt_ready_moves_ok : subT tt tt_ready_moves = true := by kernel_rfl
theorem et_ready_moves_ok : subE et et_ready_moves = true := by kernel_rfl
noncomputable def fns_ready_moves : List (Nat × (List AV → Option AV)) := []
theorem fns_ready_moves_ok : FnsOk Go.Proofs.Tryz.prog fns_ready_moves := FnsOk.nil _
def kp_ready_moves : List (Nat × List Nat) := [(0, [0]), (1, [2]), (4000000, []), (4000001, [])]
def od_ready_moves : List (Nat × Ord) := []
noncomputable def E_ready_moves : Env := ⟨0, 0, et_ready_moves, tt_ready_moves, fns_ready_moves, [], od_ready_moves, kp_ready_moves, none, []⟩
set_option maxRecDepth 100000 in
set_option maxHeartbeats 40000000 in
theorem c_ready_moves : PCon Go.Proofs.Tryz.prog 36 lf_ready_moves := by
  rw [lq_ready_moves]
  refine lift_conR (E := E_ready_moves) (c := bodyOf Tryz.f36) (nt := 6) (rs := [.tmp 2]) (ts := [3]) (EnvC.sub (off := 0) (nt := 0) (ords := od_ready_moves) (keep := kp_ready_moves) (yl := none) tt_ok et_ok fns_ready_moves_ok (PrsOk.nil _) (ItsOk.nil _) tt_ready_moves_ok et_ready_moves_ok) (PrOk.of mixed_ok) Go.Proofs.Tryz.func36 rfl (by decide) rfl rfl rfl (pureR_one (e := (.int .i64)) rfl) ?_
  intro x r hw hs
  repeat'
    (try (conv => whnf)
     first
       | (with_reducible have hs := letv_out hs)
       | (refine draw_and (by kernel_rfl) ?_)
       | (refine both_mk ?_ ?_)
       | (refine br_bool (fun h => ?_) (fun h => ?_) <;> first | have hs := cT h hs | have hs := cF h hs)
       | refine chk_elim hs fun hs => ?_
       | (have hs := letv_out hs)
       | exact fin_some hs rfl
       | (intro b hb; first | have hs := nilq_elim hs b hb | have hs := nilqn_elim hs b hb)
       | (have hs := cT rfl hs)
       | (have hs := cF rfl hs)
       | exact (none_ne hs).elim)
noncomputable def lf_ready_one : List AV → Option AV := liftF (.pair (.int .i64) tyA19) (unpack tyA7) (fun x => ready_one x.1 x.2.1 x.2.2.1)
theorem lq_ready_one : lf_ready_one = liftF (.pair (.int .i64) tyA19) (unpack tyA7) (fun x => ready_one x.1 x.2.1 x.2.2.1) := rfl
attribute [irreducible] lf_ready_one
theorem ck_ready_one {vs : List AV} {k : AV → Prop} {x : ((.pair (.int .i64) tyA19) : Ty).den} {v : Int × Int × Int × Int × Unit} (h1 : pks (.pair (.int .i64) tyA19) vs = some x) (h2 : ready_one x.1 x.2.1 x.2.2.1 = some v) (h3 : k ((unpack tyA7) v)) : callK (lf_ready_one vs) k := by
  rw [lq_ready_one]; exact callK_lift h1 h2 h3
def tt_ready_one : List (Nat × Ty) := [(3, .int .i64), (32, .pair (.int .i64) tyA14), (63, .pair (.int .i64) tyA7)]
def et_ready_one : List (Nat × Nat) := []
theorem tt_ready_one_ok : subT tt tt_ready_one = true := by kernel_rfl
theorem et_ready_one_ok : subE et et_ready_one = true := by kernel_rfl
noncomputable def fns_ready_one : List (Nat × (List AV → Option AV)) := []
theorem fns_ready_one_ok : FnsOk Go.Proofs.Tryz.prog fns_ready_one := FnsOk.nil _
def kp_ready_one : List (Nat × List Nat) := [(0, [0, 1, 5, 6]), (1, [6]), (4000000, [5, 6]), (4000001, [6])]
def od_ready_one : List (Nat × Ord) := []
noncomputable def E_ready_one : Env := ⟨0, 0, et_ready_one, tt_ready_one, fns_ready_one, [], od_ready_one, kp_ready_one, none, []⟩
set_option maxRecDepth 100000 in
set_option maxHeartbeats 40000000 in
theorem c_ready_one : PCon Go.Proofs.Tryz.prog 49 lf_ready_one := by
  rw [lq_ready_one]
  refine lift_conR (E := E_ready_one) (c := bodyOf Tryz.f49) (nt := 12) (rs := [.cell 6 32]) (ts := [32]) (EnvC.sub (off := 0) (nt := 0) (ords := od_ready_one) (keep := kp_ready_one) (yl := none) tt_ok et_ok fns_ready_one_ok (PrsOk.nil _) (ItsOk.nil _) tt_ready_one_ok et_ready_one_ok) (PrOk.of mixed_ok) Go.Proofs.Tryz.func49 rfl (by decide) rfl rfl rfl (pureR_one (e := tyA7) rfl) ?_
  intro x r hw hs
  repeat'
    (try (conv => whnf)
     first
       | (with_reducible have hs := letv_out hs)
       | (refine draw_and (by kernel_rfl) ?_)
       | (refine both_mk ?_ ?_)
       | (refine br_bool (fun h => ?_) (fun h => ?_) <;> first | have hs := cT h hs | have hs := cF h hs)
       | refine chk_elim hs fun hs => ?_
       | (have hs := letv_out hs)
       | exact fin_some hs rfl
       | (intro b hb; first | have hs := nilq_elim hs b hb | have hs := nilqn_elim hs b hb)
       | (have hs := cT rfl hs)
       | (have hs := cF rfl hs)
       | exact (none_ne hs).elim)
noncomputable def lf_ready_View_end : List AV → Option AV := liftF (.pair (.pair (.int .i64) (.pair (.sl tyA0) (.pair (.sl (.pair (.pair .bool tyA3) (.pair (.pair (.arr 4 (.int .u64)) (.pair (.arr 4 (.int .u64)) .unit)) tyA3))) tyA1))) tyA19) (unpR tyA26) (fun x => ready_View_end x.1 x.2.1 x.2.2.1)
theorem lq_ready_View_end : lf_ready_View_end = liftF (.pair (.pair (.int .i64) (.pair (.sl tyA0) (.pair (.sl (.pair (.pair .bool tyA3) (.pair (.pair (.arr 4 (.int .u64)) (.pair (.arr 4 (.int .u64)) .unit)) tyA3))) tyA1))) tyA19) (unpR tyA26) (fun x => ready_View_end x.1 x.2.1 x.2.2.1) := rfl
attribute [irreducible] lf_ready_View_end
theorem ck_ready_View_end {vs : List AV} {k : AV → Prop} {x : ((.pair (.pair (.int .i64) (.pair (.sl tyA0) (.pair (.sl (.pair (.pair .bool tyA3) (.pair (.pair (.arr 4 (.int .u64)) (.pair (.arr 4 (.int .u64)) .unit)) tyA3))) tyA1))) tyA19) : Ty).den} {v : tzA8 × Bool × Unit} (h1 : pks (.pair (.pair (.int .i64) (.pair (.sl tyA0) (.pair (.sl (.pair (.pair .bool tyA3) (.pair (.pair (.arr 4 (.int .u64)) (.pair (.arr 4 (.int .u64)) .unit)) tyA3))) tyA1))) tyA19) vs = some x) (h2 : ready_View_end x.1 x.2.1 x.2.2.1 = some v) (h3 : k ((unpR tyA26) v)) : callK (lf_ready_View_end vs) k := by
  rw [lq_ready_View_end]; exact callK_lift h1 h2 h3
def tt_ready_View_end : List (Nat × Ty) := [(3, .int .i64), (4, .bool), (26, .sl (.int .i64)), (32, .pair (.int .i64) tyA14), (35, .sl tyA0), (40, .pair (.int .i64) (.pair (.sl tyA0) (.pair (.sl (.pair (.pair .bool tyA3) (.pair (.pair (.arr 4 (.int .u64)) (.pair (.arr 4 (.int .u64)) .unit)) tyA3))) tyA1))), (63, .pair (.int .i64) tyA7), (73, .pair (.int .i64) tyA14), (126, .pair .bool tyA11), (128, .pair tyA7 tyA15)]
def et_ready_View_end : List (Nat × Nat) := [(26, 3), (35, 128)]
theorem tt_ready_View_end_ok : subT tt tt_ready_View_end = true := by kernel_rfl
theorem et_ready_View_end_ok : subE et et_ready_View_end = true := by kernel_rfl
noncomputable def fns_ready_View_end : List (Nat × (List AV → Option AV)) := [(36, lf_ready_moves), (49, lf_ready_one), (67, lf_channel_What), (74, lf_poison_Hit), (75, lf_claims_Head)]
theorem fns_ready_View_end_ok : FnsOk Go.Proofs.Tryz.prog fns_ready_View_end := FnsOk.cons c_ready_moves (FnsOk.cons c_ready_one (FnsOk.cons c_channel_What (FnsOk.cons c_poison_Hit (FnsOk.cons c_claims_Head (FnsOk.nil _)))))
def ready_View_end_S1 (u0 : AV) (u1 : AV) (u2 : AV) (u3 : AV) (u4 : AV) (B6 : Blk) (B8 : Blk) (x1 : Int) : St :=
  ⟨[(5, u0), (6, u1), (11, u2), (68, u3), (69, u4), (70, .int .i64 x1)], [(5, B6), (6, B8)], none⟩
def ready_View_end_M1 : Msk := ⟨[5, 6, 11, 68, 69, 70], [5, 6], [], [], [], [], [], [], []⟩
def kp_ready_View_end : List (Nat × List Nat) := [(0, [1, 3, 5, 6]), (1, [1, 3, 5, 6, 26]), (2, [6, 7]), (3, [1, 5, 6, 8]), (4, [1, 5, 6, 8, 9, 10, 11]), (5, [1, 5, 6, 8, 9, 10, 11, 41]), (6, [1, 5, 6, 8, 9, 10, 11]), (7, [1, 5, 6, 8, 10, 11, 50]), (8, [6, 7]), (9, [1, 5, 6, 8, 11, 12, 13]), (10, [5, 6, 8, 11, 65]), (11, [6, 7]), (12, [5, 6, 11, 68, 69, 70]), (13, [5, 6, 11, 68, 69, 70, 71]), (14, [5, 6, 11, 15, 68, 69, 70]), (15, [5, 6, 11, 15, 68, 69, 70, 76]), (16, [6, 7]), (17, [5, 6, 11, 68, 69, 70]), (18, [6, 7]), (4000000, [3, 5, 6]), (4000001, [3, 5, 6]), (4000002, [6]), (4000003, [5, 6, 8]), (4000004, [5, 6, 8, 10]), (4000005, [5, 6, 8, 10]), (4000006, [5, 6, 8, 10]), (4000007, [5, 6, 8, 10]), (4000008, [6]), (4000009, [5, 6, 8]), (4000010, [5, 6, 8]), (4000011, [6]), (4000012, [5, 6]), (4000013, [5, 6]), (4000014, [5, 6]), (4000015, [5, 6]), (4000016, [6]), (4000017, [5, 6]), (4000018, [6])]
def od_ready_View_end : List (Nat × Ord) := [(4, (.one 0 (.one 1 (.one 2 (.one 3 (.one 4 (.one 5 (.one 6 (.one 100007 (.one 8 .nil)))))))))), (6, (.one 0 (.one 1 (.one 2 (.one 3 (.one 4 (.one 5 (.one 100006 (.one 7 .nil))))))))), (16, (.one 0 (.one 2 (.one 3 (.one 1 (.one 4 (.one 100005 (.one 6 .nil))))))))]
noncomputable def E_ready_View_end : Env := ⟨0, 0, et_ready_View_end, tt_ready_View_end, fns_ready_View_end, [], od_ready_View_end, kp_ready_View_end, none, []⟩
set_option maxRecDepth 100000 in
set_option maxHeartbeats 40000000 in
theorem c_ready_View_end : PCon Go.Proofs.Tryz.prog 46 lf_ready_View_end := by
  rw [lq_ready_View_end]
  refine lift_conR (E := E_ready_View_end) (c := bodyOf Tryz.f46) (nt := 84) (rs := [.cell 6 32, .tmp 7]) (ts := [32, 4]) (EnvC.sub (off := 0) (nt := 0) (ords := od_ready_View_end) (keep := kp_ready_View_end) (yl := none) tt_ok et_ok fns_ready_View_end_ok (PrsOk.nil _) (ItsOk.nil _) tt_ready_View_end_ok et_ready_View_end_ok) (PrOk.of mixed_ok) Go.Proofs.Tryz.func46 rfl (by decide) rfl rfl rfl (pureR_many (e := tyA26) rfl) ?_
  intro x r hw hs
  repeat'
    (try (conv => whnf)
     first
       | (with_reducible have hs := letv_out hs)
       | (refine draw_and (by kernel_rfl) ?_)
       | (refine both_mk ?_ ?_)
       | (refine br_bool (fun h => ?_) (fun h => ?_) <;> first | have hs := cT h hs | have hs := cF h hs)
       | (refine bind_elim hs fun v hb hs => ?_; first | refine ck_ready_moves rfl hb ?_ | refine ck_ready_one rfl hb ?_ | refine ck_channel_What rfl hb ?_ | refine ck_poison_Hit rfl hb ?_ | refine ck_claims_Head rfl hb ?_)
       | refine chk_elim hs fun hs => ?_
       | (have hs := letv_out hs)
       | exact fin_some hs rfl
       | (intro b hb; first | have hs := nilq_elim hs b hb | have hs := nilqn_elim hs b hb)
       | exact hJ1 _ hs
       | (have hs := cT rfl hs)
       | (have hs := cF rfl hs)
       | ((with_reducible have hs : loop (ready_View_end_L1 _ _ _ _) _ = some _ := hs); refine vc_loopR (ready_View_end_S1 _ _ _ _ _ _ _) ready_View_end_M1 hs rfl ?_; intro J1 k1 x1 hJ1 hs)
       | (refine vc_loopR (ready_View_end_S1 _ _ _ _ _ _ _) ready_View_end_M1 hs rfl ?_; intro J1 k1 x1 hJ1 hs)
       | exact (none_ne hs).elim)
noncomputable def lf_ready_View_at : List AV → Option AV := liftF (.pair (.pair (.int .i64) (.pair (.sl tyA0) (.pair (.sl (.pair (.pair .bool tyA3) (.pair (.pair (.arr 4 (.int .u64)) (.pair (.arr 4 (.int .u64)) .unit)) tyA3))) tyA1))) (.pair (.int .i64) tyA3)) (unpack .bool) (fun x => ready_View_at x.1 x.2.1 x.2.2.1)
theorem lq_ready_View_at : lf_ready_View_at = liftF (.pair (.pair (.int .i64) (.pair (.sl tyA0) (.pair (.sl (.pair (.pair .bool tyA3) (.pair (.pair (.arr 4 (.int .u64)) (.pair (.arr 4 (.int .u64)) .unit)) tyA3))) tyA1))) (.pair (.int .i64) tyA3)) (unpack .bool) (fun x => ready_View_at x.1 x.2.1 x.2.2.1) := rfl
attribute [irreducible] lf_ready_View_at
theorem ck_ready_View_at {vs : List AV} {k : AV → Prop} {x : ((.pair (.pair (.int .i64) (.pair (.sl tyA0) (.pair (.sl (.pair (.pair .bool tyA3) (.pair (.pair (.arr 4 (.int .u64)) (.pair (.arr 4 (.int .u64)) .unit)) tyA3))) tyA1))) (.pair (.int .i64) tyA3)) : Ty).den} {v : Bool} (h1 : pks (.pair (.pair (.int .i64) (.pair (.sl tyA0) (.pair (.sl (.pair (.pair .bool tyA3) (.pair (.pair (.arr 4 (.int .u64)) (.pair (.arr 4 (.int .u64)) .unit)) tyA3))) tyA1))) (.pair (.int .i64) tyA3)) vs = some x) (h2 : ready_View_at x.1 x.2.1 x.2.2.1 = some v) (h3 : k ((unpack .bool) v)) : callK (lf_ready_View_at vs) k := by
  rw [lq_ready_View_at]; exact callK_lift h1 h2 h3
def tt_ready_View_at : List (Nat × Ty) := [(3, .int .i64), (4, .bool), (26, .sl (.int .i64)), (36, .sl (.pair (.pair .bool tyA3) (.pair (.pair (.arr 4 (.int .u64)) (.pair (.arr 4 (.int .u64)) .unit)) tyA3))), (40, .pair (.int .i64) (.pair (.sl tyA0) (.pair (.sl (.pair (.pair .bool tyA3) (.pair (.pair (.arr 4 (.int .u64)) (.pair (.arr 4 (.int .u64)) .unit)) tyA3))) tyA1))), (132, .arr 4 (.int .u64)), (134, .pair (.arr 4 (.int .u64)) (.pair (.arr 4 (.int .u64)) .unit)), (136, .pair (.pair .bool tyA3) (.pair (.pair (.arr 4 (.int .u64)) (.pair (.arr 4 (.int .u64)) .unit)) tyA3))]
def et_ready_View_at : List (Nat × Nat) := [(26, 3), (36, 136)]
theorem tt_ready_View_at_ok : subT tt tt_ready_View_at = true := by kernel_rfl
theorem et_ready_View_at_ok : subE et et_ready_View_at = true := by kernel_rfl
noncomputable def fns_ready_View_at : List (Nat × (List AV → Option AV)) := [(34, lf_bartab_Ready), (50, lf_slices_Contains_int_int), (76, lf_bitset_Has)]
theorem fns_ready_View_at_ok : FnsOk Go.Proofs.Tryz.prog fns_ready_View_at := FnsOk.cons c_bartab_Ready (FnsOk.cons c_slices_Contains_int_int (FnsOk.cons c_bitset_Has (FnsOk.nil _)))
def kp_ready_View_at : List (Nat × List Nat) := [(0, [1, 2, 3]), (1, [6]), (4000000, [3]), (4000001, [])]
def od_ready_View_at : List (Nat × Ord) := []
noncomputable def E_ready_View_at : Env := ⟨0, 0, et_ready_View_at, tt_ready_View_at, fns_ready_View_at, [], od_ready_View_at, kp_ready_View_at, none, []⟩
set_option maxRecDepth 100000 in
set_option maxHeartbeats 40000000 in
theorem c_ready_View_at : PCon Go.Proofs.Tryz.prog 47 lf_ready_View_at := by
  rw [lq_ready_View_at]
  refine lift_conR (E := E_ready_View_at) (c := bodyOf Tryz.f47) (nt := 23) (rs := [.tmp 6]) (ts := [4]) (EnvC.sub (off := 0) (nt := 0) (ords := od_ready_View_at) (keep := kp_ready_View_at) (yl := none) tt_ok et_ok fns_ready_View_at_ok (PrsOk.nil _) (ItsOk.nil _) tt_ready_View_at_ok et_ready_View_at_ok) (PrOk.of mixed_ok) Go.Proofs.Tryz.func47 rfl (by decide) rfl rfl rfl (pureR_one (e := .bool) rfl) ?_
  intro x r hw hs
  repeat'
    (try (conv => whnf)
     first
       | (with_reducible have hs := letv_out hs)
       | (refine draw_and (by kernel_rfl) ?_)
       | (refine both_mk ?_ ?_)
       | (refine br_bool (fun h => ?_) (fun h => ?_) <;> first | have hs := cT h hs | have hs := cF h hs)
       | (refine bind_elim hs fun v hb hs => ?_; first | refine ck_bartab_Ready rfl hb ?_ | refine ck_slices_Contains_int_int rfl hb ?_ | refine ck_bitset_Has rfl hb ?_)
       | refine chk_elim hs fun hs => ?_
       | (have hs := letv_out hs)
       | exact fin_some hs rfl
       | (intro b hb; first | have hs := nilq_elim hs b hb | have hs := nilqn_elim hs b hb)
       | (have hs := cT rfl hs)
       | (have hs := cF rfl hs)
       | exact (none_ne hs).elim)
noncomputable def lf_ready_View_due : List AV → Option AV := liftF (.pair (.pair (.int .i64) (.pair (.sl tyA0) (.pair (.sl (.pair (.pair .bool tyA3) (.pair (.pair (.arr 4 (.int .u64)) (.pair (.arr 4 (.int .u64)) .unit)) tyA3))) tyA1))) tyA19) (unpack .bool) (fun x => ready_View_due x.1 x.2.1 x.2.2.1)
theorem lq_ready_View_due : lf_ready_View_due = liftF (.pair (.pair (.int .i64) (.pair (.sl tyA0) (.pair (.sl (.pair (.pair .bool tyA3) (.pair (.pair (.arr 4 (.int .u64)) (.pair (.arr 4 (.int .u64)) .unit)) tyA3))) tyA1))) tyA19) (unpack .bool) (fun x => ready_View_due x.1 x.2.1 x.2.2.1) := rfl
attribute [irreducible] lf_ready_View_due
theorem ck_ready_View_due {vs : List AV} {k : AV → Prop} {x : ((.pair (.pair (.int .i64) (.pair (.sl tyA0) (.pair (.sl (.pair (.pair .bool tyA3) (.pair (.pair (.arr 4 (.int .u64)) (.pair (.arr 4 (.int .u64)) .unit)) tyA3))) tyA1))) tyA19) : Ty).den} {v : Bool} (h1 : pks (.pair (.pair (.int .i64) (.pair (.sl tyA0) (.pair (.sl (.pair (.pair .bool tyA3) (.pair (.pair (.arr 4 (.int .u64)) (.pair (.arr 4 (.int .u64)) .unit)) tyA3))) tyA1))) tyA19) vs = some x) (h2 : ready_View_due x.1 x.2.1 x.2.2.1 = some v) (h3 : k ((unpack .bool) v)) : callK (lf_ready_View_due vs) k := by
  rw [lq_ready_View_due]; exact callK_lift h1 h2 h3
def tt_ready_View_due : List (Nat × Ty) := [(3, .int .i64), (4, .bool), (38, .sl tyA14), (40, .pair (.int .i64) (.pair (.sl tyA0) (.pair (.sl (.pair (.pair .bool tyA3) (.pair (.pair (.arr 4 (.int .u64)) (.pair (.arr 4 (.int .u64)) .unit)) tyA3))) tyA1))), (63, .pair (.int .i64) tyA7), (80, .pair (.int .i64) (.pair (.int .i64) tyA3)), (159, .opq 1)]
def et_ready_View_due : List (Nat × Nat) := [(38, 80)]
theorem tt_ready_View_due_ok : subT tt tt_ready_View_due = true := by kernel_rfl
theorem et_ready_View_due_ok : subE et et_ready_View_due = true := by kernel_rfl
noncomputable def fns_ready_View_due : List (Nat × (List AV → Option AV)) := [(39, lf_clock_Due)]
theorem fns_ready_View_due_ok : FnsOk Go.Proofs.Tryz.prog fns_ready_View_due := FnsOk.cons c_clock_Due (FnsOk.nil _)
def kp_ready_View_due_78 : List (Nat × List Nat) := [(0, [1, 2, 3, 4]), (1, [5])]
def od_ready_View_due_78 : List (Nat × Ord) := []
noncomputable def E_ready_View_due_78 : Env := ⟨0, 0, et_ready_View_due, tt_ready_View_due, fns_ready_View_due, [], od_ready_View_due_78, kp_ready_View_due_78, none, []⟩
noncomputable def pr_ready_View_due_78 : List (Nat × Proc) := (78, procR E_ready_View_due_78 21 [.tmp 5] (bodyOf Tryz.f78)) :: []
theorem pr_ready_View_due_78_ok : PrsOk Go.Proofs.Tryz.prog pr_ready_View_due_78 :=
  PrsOk.cons (proc_conR (E := E_ready_View_due_78) (EnvC.sub (off := 0) (nt := 0) (ords := od_ready_View_due_78) (keep := kp_ready_View_due_78) (yl := none) tt_ok et_ok fns_ready_View_due_ok (PrsOk.nil _) (ItsOk.nil _) tt_ready_View_due_ok et_ready_View_due_ok) (PrOk.of mixed_ok) Go.Proofs.Tryz.func78 rfl (by decide) rfl rfl) (PrsOk.nil _)
def kp_ready_View_due_105 : List (Nat × List Nat) := [(0, [0, 1]), (1, [0, 1, 7, 8]), (2, [0, 1, 7, 8, 9]), (3, [0, 1, 5, 7, 8]), (4, [0, 1, 5, 7, 8, 16]), (5, [4]), (6, [0, 1, 7, 8]), (7, [4])]
def od_ready_View_due_105 : List (Nat × Ord) := []
noncomputable def E_ready_View_due_105 : Env := ⟨0, 0, et_ready_View_due, tt_ready_View_due, fns_ready_View_due, pr_ready_View_due_78, od_ready_View_due_105, kp_ready_View_due_105, none, []⟩
noncomputable def pr_ready_View_due_105 : List (Nat × Proc) := (105, procR E_ready_View_due_105 19 [.tmp 4] (bodyOf Tryz.f105)) :: pr_ready_View_due_78
theorem pr_ready_View_due_105_ok : PrsOk Go.Proofs.Tryz.prog pr_ready_View_due_105 :=
  PrsOk.cons (proc_conR (E := E_ready_View_due_105) (EnvC.sub (off := 0) (nt := 0) (ords := od_ready_View_due_105) (keep := kp_ready_View_due_105) (yl := none) tt_ok et_ok fns_ready_View_due_ok (pr_ready_View_due_78_ok) (ItsOk.nil _) tt_ready_View_due_ok et_ready_View_due_ok) (PrOk.of mixed_ok) Go.Proofs.Tryz.func105 rfl (by decide) rfl rfl) (pr_ready_View_due_78_ok)
def kp_ready_View_due_77 : List (Nat × List Nat) := [(0, [0, 1]), (1, [4])]
def od_ready_View_due_77 : List (Nat × Ord) := []
noncomputable def E_ready_View_due_77 : Env := ⟨0, 0, et_ready_View_due, tt_ready_View_due, fns_ready_View_due, pr_ready_View_due_105, od_ready_View_due_77, kp_ready_View_due_77, none, []⟩
noncomputable def pr_ready_View_due_77 : List (Nat × Proc) := (77, procR E_ready_View_due_77 9 [.tmp 4] (bodyOf Tryz.f77)) :: pr_ready_View_due_105
theorem pr_ready_View_due_77_ok : PrsOk Go.Proofs.Tryz.prog pr_ready_View_due_77 :=
  PrsOk.cons (proc_conR (E := E_ready_View_due_77) (EnvC.sub (off := 0) (nt := 0) (ords := od_ready_View_due_77) (keep := kp_ready_View_due_77) (yl := none) tt_ok et_ok fns_ready_View_due_ok (pr_ready_View_due_105_ok) (ItsOk.nil _) tt_ready_View_due_ok et_ready_View_due_ok) (PrOk.of mixed_ok) Go.Proofs.Tryz.func77 rfl (by decide) rfl rfl) (pr_ready_View_due_105_ok)
def ready_View_due_S1 (u0 : AV) (u1 : AV) (u2 : AV) (B4 : Blk) (B6 : Blk) (B8 : Blk) (x2 : Int) : St :=
  ⟨[(0, u0), (1, u1), (7, u2), (8, .int .i64 x2)], [(3, B4), (4, B6), (5, B8)], (some ([11819566084], 0))⟩
def ready_View_due_M1 : Msk := ⟨[0, 1, 7, 8], [3, 4, 5], [], [], [11819566084], [], [], [], []⟩
def ready_View_due_Q1 (x1 : Bool) : St :=
  ⟨[(6, .dead), (10, .bool x1)], [], none⟩
def kp_ready_View_due : List (Nat × List Nat) := [(0, [3, 4, 5]), (1, [6]), (25000010, []), (20000010, [6, 10]), (24000010, []), (26000010, []), (4000000, [3, 4, 5]), (4000001, [])]
def od_ready_View_due : List (Nat × Ord) := []
noncomputable def E_ready_View_due : Env := ⟨0, 0, et_ready_View_due, tt_ready_View_due, fns_ready_View_due, pr_ready_View_due_77, od_ready_View_due, kp_ready_View_due, none, []⟩
set_option maxRecDepth 100000 in
set_option maxHeartbeats 40000000 in
theorem c_ready_View_due : PCon Go.Proofs.Tryz.prog 48 lf_ready_View_due := by
  rw [lq_ready_View_due]
  refine lift_conR (E := E_ready_View_due) (c := bodyOf Tryz.f48) (nt := 11) (rs := [.tmp 6]) (ts := [4]) (EnvC.sub (off := 0) (nt := 0) (ords := od_ready_View_due) (keep := kp_ready_View_due) (yl := none) tt_ok et_ok fns_ready_View_due_ok (pr_ready_View_due_77_ok) (ItsOk.nil _) tt_ready_View_due_ok et_ready_View_due_ok) (PrOk.of mixed_ok) Go.Proofs.Tryz.func48 rfl (by decide) rfl rfl rfl (pureR_one (e := .bool) rfl) ?_
  intro x r hw hs
  repeat'
    (try (conv => whnf)
     first
       | (with_reducible have hs := letv_out hs)
       | (refine draw_and (by kernel_rfl) ?_)
       | (refine both_mk ?_ ?_)
       | (refine br_bool (fun h => ?_) (fun h => ?_) <;> first | have hs := cT h hs | have hs := cF h hs)
       | (refine bind_elim hs fun v hb hs => ?_; first | refine ck_clock_Due rfl hb ?_)
       | refine chk_elim hs fun hs => ?_
       | (have hs := letv_out hs)
       | exact fin_some hs rfl
       | (intro b hb; first | have hs := nilq_elim hs b hb | have hs := nilqn_elim hs b hb)
       | exact hJ1 _ hs
       | exact hC1 _ hs
       | (refine cut_out 1 ready_View_due_Q1 hs (fun Jc1 kc1 hC1 hs => ?_) (fun xc1 hs => ?_))
       | (have hs := cT rfl hs)
       | (have hs := cF rfl hs)
       | ((with_reducible have hs : loop (ready_View_due_L1 _ _ _ _ _) _ = some _ := hs); refine vc_loopR (ready_View_due_S1 _ _ _ _ _ _) ready_View_due_M1 hs rfl ?_; intro J1 k1 x1 hJ1 hs)
       | (refine vc_loopR (ready_View_due_S1 _ _ _ _ _ _) ready_View_due_M1 hs rfl ?_; intro J1 k1 x1 hJ1 hs)
       | exact (none_ne hs).elim)
noncomputable def lf_ready_View_of : List AV → Option AV := liftF (.pair (.pair (.int .i64) (.pair (.sl tyA0) (.pair (.sl (.pair (.pair .bool tyA3) (.pair (.pair (.arr 4 (.int .u64)) (.pair (.arr 4 (.int .u64)) .unit)) tyA3))) tyA1))) tyA19) (unpR tyA26) (fun x => ready_View_of x.1 x.2.1 x.2.2.1)
theorem lq_ready_View_of : lf_ready_View_of = liftF (.pair (.pair (.int .i64) (.pair (.sl tyA0) (.pair (.sl (.pair (.pair .bool tyA3) (.pair (.pair (.arr 4 (.int .u64)) (.pair (.arr 4 (.int .u64)) .unit)) tyA3))) tyA1))) tyA19) (unpR tyA26) (fun x => ready_View_of x.1 x.2.1 x.2.2.1) := rfl
attribute [irreducible] lf_ready_View_of
theorem ck_ready_View_of {vs : List AV} {k : AV → Prop} {x : ((.pair (.pair (.int .i64) (.pair (.sl tyA0) (.pair (.sl (.pair (.pair .bool tyA3) (.pair (.pair (.arr 4 (.int .u64)) (.pair (.arr 4 (.int .u64)) .unit)) tyA3))) tyA1))) tyA19) : Ty).den} {v : tzA8 × Bool × Unit} (h1 : pks (.pair (.pair (.int .i64) (.pair (.sl tyA0) (.pair (.sl (.pair (.pair .bool tyA3) (.pair (.pair (.arr 4 (.int .u64)) (.pair (.arr 4 (.int .u64)) .unit)) tyA3))) tyA1))) tyA19) vs = some x) (h2 : ready_View_of x.1 x.2.1 x.2.2.1 = some v) (h3 : k ((unpR tyA26) v)) : callK (lf_ready_View_of vs) k := by
  rw [lq_ready_View_of]; exact callK_lift h1 h2 h3
def tt_ready_View_of : List (Nat × Ty) := [(3, .int .i64), (4, .bool), (26, .sl (.int .i64)), (32, .pair (.int .i64) tyA14), (40, .pair (.int .i64) (.pair (.sl tyA0) (.pair (.sl (.pair (.pair .bool tyA3) (.pair (.pair (.arr 4 (.int .u64)) (.pair (.arr 4 (.int .u64)) .unit)) tyA3))) tyA1))), (63, .pair (.int .i64) tyA7)]
def et_ready_View_of : List (Nat × Nat) := [(26, 3)]
theorem tt_ready_View_of_ok : subT tt tt_ready_View_of = true := by kernel_rfl
theorem et_ready_View_of_ok : subE et et_ready_View_of = true := by kernel_rfl
noncomputable def fns_ready_View_of : List (Nat × (List AV → Option AV)) := [(46, lf_ready_View_end), (47, lf_ready_View_at), (48, lf_ready_View_due), (49, lf_ready_one), (50, lf_slices_Contains_int_int)]
theorem fns_ready_View_of_ok : FnsOk Go.Proofs.Tryz.prog fns_ready_View_of := FnsOk.cons c_ready_View_end (FnsOk.cons c_ready_View_at (FnsOk.cons c_ready_View_due (FnsOk.cons c_ready_one (FnsOk.cons c_slices_Contains_int_int (FnsOk.nil _)))))
def ready_View_of_Q1 (x1 : Unit) : St :=
  ⟨[(6, .ptr 6 [])], [(6, .var tyA7 (.agg [.int .i64 0, .int .i64 0, .int .i64 0, .int .i64 0]) false)], none⟩
def kp_ready_View_of : List (Nat × List Nat) := [(0, [1, 3, 5, 6]), (1, [1, 3, 5, 6, 9]), (2, [1, 3, 5, 6, 9, 10]), (3, [1, 3, 5, 6, 9, 10]), (4, [6, 7]), (5, [1, 3, 5, 6, 9, 19]), (6, [5, 6, 25]), (7, [6, 7]), (8, [1, 3, 5, 6, 9, 29]), (9, [1, 5, 6, 34]), (10, [6, 7]), (11, [1, 3, 5, 6, 9, 38]), (12, [1, 5, 6, 45]), (13, [6, 7]), (14, [1, 5, 6, 49]), (15, [6, 7]), (16, [6, 7]), (12000000, []), (7000000, [6]), (11000000, [6]), (13000000, []), (4000000, [3, 5, 6]), (4000001, [3, 5, 6]), (4000002, [3, 5, 6]), (4000003, [3, 5, 6]), (4000004, [6]), (4000005, [3, 5, 6]), (4000006, [5, 6]), (4000007, [6]), (4000008, [3, 5, 6]), (4000009, [5, 6]), (4000010, [6]), (4000011, [3, 5, 6]), (4000012, [5, 6]), (4000013, [6]), (4000014, [5, 6]), (4000015, [6]), (4000016, [6])]
def od_ready_View_of : List (Nat × Ord) := []
noncomputable def E_ready_View_of : Env := ⟨0, 0, et_ready_View_of, tt_ready_View_of, fns_ready_View_of, [], od_ready_View_of, kp_ready_View_of, none, []⟩
set_option maxRecDepth 100000 in
set_option maxHeartbeats 40000000 in
theorem c_ready_View_of : PCon Go.Proofs.Tryz.prog 21 lf_ready_View_of := by
  rw [lq_ready_View_of]
  refine lift_conR (E := E_ready_View_of) (c := bodyOf Tryz.f21) (nt := 55) (rs := [.cell 6 32, .tmp 7]) (ts := [32, 4]) (EnvC.sub (off := 0) (nt := 0) (ords := od_ready_View_of) (keep := kp_ready_View_of) (yl := none) tt_ok et_ok fns_ready_View_of_ok (PrsOk.nil _) (ItsOk.nil _) tt_ready_View_of_ok et_ready_View_of_ok) (PrOk.of mixed_ok) Go.Proofs.Tryz.func21 rfl (by decide) rfl rfl rfl (pureR_many (e := tyA26) rfl) ?_
  intro x r hw hs
  repeat'
    (try (conv => whnf)
     first
       | (with_reducible have hs := letv_out hs)
       | (refine draw_and (by kernel_rfl) ?_)
       | (refine both_mk ?_ ?_)
       | (refine br_bool (fun h => ?_) (fun h => ?_) <;> first | have hs := cT h hs | have hs := cF h hs)
       | (refine bind_elim hs fun v hb hs => ?_; first | refine ck_ready_View_end rfl hb ?_ | refine ck_ready_View_at rfl hb ?_ | refine ck_ready_View_due rfl hb ?_ | refine ck_ready_one rfl hb ?_ | refine ck_slices_Contains_int_int rfl hb ?_)
       | refine chk_elim hs fun hs => ?_
       | (have hs := letv_out hs)
       | exact fin_some hs rfl
       | (intro b hb; first | have hs := nilq_elim hs b hb | have hs := nilqn_elim hs b hb)
       | exact hC1 _ hs
       | (refine cut_out 1 ready_View_of_Q1 hs (fun Jc1 kc1 hC1 hs => ?_) (fun xc1 hs => ?_))
       | (have hs := cT rfl hs)
       | (have hs := cF rfl hs)
       | exact (none_ne hs).elim)
noncomputable def lf_ready_Which : List AV → Option AV := liftF (.pair (.pair (.int .i64) (.pair (.sl tyA0) (.pair (.sl (.pair (.pair .bool tyA3) (.pair (.pair (.arr 4 (.int .u64)) (.pair (.arr 4 (.int .u64)) .unit)) tyA3))) tyA1))) (.pair (.int .i64) tyA3)) (unpR tyA26) (fun x => ready_Which x.1 x.2.1 x.2.2.1)
theorem lq_ready_Which : lf_ready_Which = liftF (.pair (.pair (.int .i64) (.pair (.sl tyA0) (.pair (.sl (.pair (.pair .bool tyA3) (.pair (.pair (.arr 4 (.int .u64)) (.pair (.arr 4 (.int .u64)) .unit)) tyA3))) tyA1))) (.pair (.int .i64) tyA3)) (unpR tyA26) (fun x => ready_Which x.1 x.2.1 x.2.2.1) := rfl
attribute [irreducible] lf_ready_Which
theorem ck_ready_Which {vs : List AV} {k : AV → Prop} {x : ((.pair (.pair (.int .i64) (.pair (.sl tyA0) (.pair (.sl (.pair (.pair .bool tyA3) (.pair (.pair (.arr 4 (.int .u64)) (.pair (.arr 4 (.int .u64)) .unit)) tyA3))) tyA1))) (.pair (.int .i64) tyA3)) : Ty).den} {v : tzA8 × Bool × Unit} (h1 : pks (.pair (.pair (.int .i64) (.pair (.sl tyA0) (.pair (.sl (.pair (.pair .bool tyA3) (.pair (.pair (.arr 4 (.int .u64)) (.pair (.arr 4 (.int .u64)) .unit)) tyA3))) tyA1))) (.pair (.int .i64) tyA3)) vs = some x) (h2 : ready_Which x.1 x.2.1 x.2.2.1 = some v) (h3 : k ((unpR tyA26) v)) : callK (lf_ready_Which vs) k := by
  rw [lq_ready_Which]; exact callK_lift h1 h2 h3
def tt_ready_Which : List (Nat × Ty) := [(3, .int .i64), (4, .bool), (32, .pair (.int .i64) tyA14), (40, .pair (.int .i64) (.pair (.sl tyA0) (.pair (.sl (.pair (.pair .bool tyA3) (.pair (.pair (.arr 4 (.int .u64)) (.pair (.arr 4 (.int .u64)) .unit)) tyA3))) tyA1))), (59, .sl (.pair (.int .i64) tyA7)), (63, .pair (.int .i64) tyA7)]
def et_ready_Which : List (Nat × Nat) := [(59, 63)]
theorem tt_ready_Which_ok : subT tt tt_ready_Which = true := by kernel_rfl
theorem et_ready_Which_ok : subE et et_ready_Which = true := by kernel_rfl
noncomputable def fns_ready_Which : List (Nat × (List AV → Option AV)) := [(20, lf_ready_View_guards), (21, lf_ready_View_of)]
theorem fns_ready_Which_ok : FnsOk Go.Proofs.Tryz.prog fns_ready_Which := FnsOk.cons c_ready_View_guards (FnsOk.cons c_ready_View_of (FnsOk.nil _))
def ready_Which_S1 (u0 : AV) (u1 : AV) (u2 : AV) (u3 : AV) (u4 : AV) (u5 : AV) (B7 : Blk) (B9 : Blk) (x1 : Int) : St :=
  ⟨[(1, u0), (2, u1), (3, u2), (6, u3), (12, u4), (13, u5), (14, .int .i64 x1)], [(3, B7), (6, B9)], none⟩
def ready_Which_M1 : Msk := ⟨[1, 2, 3, 6, 12, 13, 14], [3, 6], [], [], [], [], [], [], []⟩
def kp_ready_Which : List (Nat × List Nat) := [(0, [1, 2, 3, 6]), (1, [1, 2, 3, 6, 12, 13, 14]), (2, [1, 2, 3, 6, 12, 13, 14, 15]), (3, [1, 2, 3, 6, 9, 12, 13, 14]), (4, [1, 2, 3, 6, 9, 12, 13, 14, 21]), (5, [6, 7]), (6, [1, 2, 3, 6, 12, 13, 14]), (7, [6, 7]), (4000000, [3, 6]), (4000001, [3, 6]), (4000002, [3, 6]), (4000003, [3, 6, 9]), (4000004, [3, 6, 9]), (4000005, [6]), (4000006, [3, 6]), (4000007, [6])]
def od_ready_Which : List (Nat × Ord) := []
noncomputable def E_ready_Which : Env := ⟨0, 0, et_ready_Which, tt_ready_Which, fns_ready_Which, [], od_ready_Which, kp_ready_Which, none, []⟩
set_option maxRecDepth 100000 in
set_option maxHeartbeats 40000000 in
theorem c_ready_Which : PCon Go.Proofs.Tryz.prog 7 lf_ready_Which := by
  rw [lq_ready_Which]
  refine lift_conR (E := E_ready_Which) (c := bodyOf Tryz.f7) (nt := 30) (rs := [.cell 6 32, .tmp 7]) (ts := [32, 4]) (EnvC.sub (off := 0) (nt := 0) (ords := od_ready_Which) (keep := kp_ready_Which) (yl := none) tt_ok et_ok fns_ready_Which_ok (PrsOk.nil _) (ItsOk.nil _) tt_ready_Which_ok et_ready_Which_ok) (PrOk.of mixed_ok) Go.Proofs.Tryz.func7 rfl (by decide) rfl rfl rfl (pureR_many (e := tyA26) rfl) ?_
  intro x r hw hs
  repeat'
    (try (conv => whnf)
     first
       | (with_reducible have hs := letv_out hs)
       | (refine draw_and (by kernel_rfl) ?_)
       | (refine both_mk ?_ ?_)
       | (refine br_bool (fun h => ?_) (fun h => ?_) <;> first | have hs := cT h hs | have hs := cF h hs)
       | (refine bind_elim hs fun v hb hs => ?_; first | refine ck_ready_View_guards rfl hb ?_ | refine ck_ready_View_of rfl hb ?_)
       | refine chk_elim hs fun hs => ?_
       | (have hs := letv_out hs)
       | exact fin_some hs rfl
       | (intro b hb; first | have hs := nilq_elim hs b hb | have hs := nilqn_elim hs b hb)
       | exact hJ1 _ hs
       | (have hs := cT rfl hs)
       | (have hs := cF rfl hs)
       | ((with_reducible have hs : loop (ready_Which_L1 _ _ _ _ _) _ = some _ := hs); refine vc_loopR (ready_Which_S1 _ _ _ _ _ _ _ _) ready_Which_M1 hs rfl ?_; intro J1 k1 x1 hJ1 hs)
       | (refine vc_loopR (ready_Which_S1 _ _ _ _ _ _ _ _) ready_Which_M1 hs rfl ?_; intro J1 k1 x1 hJ1 hs)
       | exact (none_ne hs).elim)
noncomputable def lf_ready_Guards : List AV → Option AV := liftF (.pair (.pair (.int .i64) (.pair (.sl tyA0) (.pair (.sl (.pair (.pair .bool tyA3) (.pair (.pair (.arr 4 (.int .u64)) (.pair (.arr 4 (.int .u64)) .unit)) tyA3))) tyA1))) tyA3) (unpack (.sl (.int .i64))) (fun x => ready_Guards x.1 x.2.1)
theorem lq_ready_Guards : lf_ready_Guards = liftF (.pair (.pair (.int .i64) (.pair (.sl tyA0) (.pair (.sl (.pair (.pair .bool tyA3) (.pair (.pair (.arr 4 (.int .u64)) (.pair (.arr 4 (.int .u64)) .unit)) tyA3))) tyA1))) tyA3) (unpack (.sl (.int .i64))) (fun x => ready_Guards x.1 x.2.1) := rfl
attribute [irreducible] lf_ready_Guards
theorem ck_ready_Guards {vs : List AV} {k : AV → Prop} {x : ((.pair (.pair (.int .i64) (.pair (.sl tyA0) (.pair (.sl (.pair (.pair .bool tyA3) (.pair (.pair (.arr 4 (.int .u64)) (.pair (.arr 4 (.int .u64)) .unit)) tyA3))) tyA1))) tyA3) : Ty).den} {v : List Int} (h1 : pks (.pair (.pair (.int .i64) (.pair (.sl tyA0) (.pair (.sl (.pair (.pair .bool tyA3) (.pair (.pair (.arr 4 (.int .u64)) (.pair (.arr 4 (.int .u64)) .unit)) tyA3))) tyA1))) tyA3) vs = some x) (h2 : ready_Guards x.1 x.2.1 = some v) (h3 : k ((unpack (.sl (.int .i64))) v)) : callK (lf_ready_Guards vs) k := by
  rw [lq_ready_Guards]; exact callK_lift h1 h2 h3
def tt_ready_Guards : List (Nat × Ty) := [(3, .int .i64), (26, .sl (.int .i64)), (32, .pair (.int .i64) tyA14), (40, .pair (.int .i64) (.pair (.sl tyA0) (.pair (.sl (.pair (.pair .bool tyA3) (.pair (.pair (.arr 4 (.int .u64)) (.pair (.arr 4 (.int .u64)) .unit)) tyA3))) tyA1))), (59, .sl (.pair (.int .i64) tyA7)), (63, .pair (.int .i64) tyA7)]
def et_ready_Guards : List (Nat × Nat) := [(26, 3), (59, 63)]
theorem tt_ready_Guards_ok : subT tt tt_ready_Guards = true := by kernel_rfl
theorem et_ready_Guards_ok : subE et et_ready_Guards = true := by kernel_rfl
noncomputable def fns_ready_Guards : List (Nat × (List AV → Option AV)) := [(20, lf_ready_View_guards), (21, lf_ready_View_of)]
theorem fns_ready_Guards_ok : FnsOk Go.Proofs.Tryz.prog fns_ready_Guards := FnsOk.cons c_ready_View_guards (FnsOk.cons c_ready_View_of (FnsOk.nil _))
def ready_Guards_S1 (u0 : AV) (u1 : AV) (u2 : AV) (u3 : AV) (u4 : AV) (B6 : Blk) (x1 : Int × List Int) : St :=
  ⟨[(1, u0), (2, u1), (5, u2), (12, u3), (13, u4), (14, .int .i64 x1.1)], [(2, B6), (30, .row 3 (.int .i64) x1.2 false)], none⟩
def ready_Guards_M1 : Msk := ⟨[1, 2, 5, 12, 13, 14], [2, 30], [(5, 30, 26)], [], [], [], [], [], []⟩
def kp_ready_Guards : List (Nat × List Nat) := [(0, [1, 2]), (1, [1, 2, 5]), (2, [1, 2, 5, 12, 13, 14]), (3, [1, 2, 5, 12, 13, 14, 15]), (4, [1, 2, 5, 7, 12, 13, 14]), (5, [1, 2, 5, 7, 9, 12, 13, 14]), (6, [1, 2, 5, 7, 12, 13, 14, 25]), (7, [1, 2, 5, 12, 13, 14]), (8, [1, 2, 5, 12, 13, 14]), (9, [4]), (4000000, [2]), (4000001, [2]), (4000002, [2]), (4000003, [2, 30]), (4000004, [2, 7, 30]), (4000005, [2, 7, 30]), (4000006, [2, 7, 30]), (4000007, [2, 30]), (4000008, [2, 30]), (4000009, [30])]
def od_ready_Guards : List (Nat × Ord) := []
noncomputable def E_ready_Guards : Env := ⟨0, 0, et_ready_Guards, tt_ready_Guards, fns_ready_Guards, [], od_ready_Guards, kp_ready_Guards, none, []⟩
set_option maxRecDepth 100000 in
set_option maxHeartbeats 40000000 in
theorem c_ready_Guards : PCon Go.Proofs.Tryz.prog 12 lf_ready_Guards := by
  rw [lq_ready_Guards]
  refine lift_conR (E := E_ready_Guards) (c := bodyOf Tryz.f12) (nt := 33) (rs := [.tmp 4]) (ts := [26]) (EnvC.sub (off := 0) (nt := 0) (ords := od_ready_Guards) (keep := kp_ready_Guards) (yl := none) tt_ok et_ok fns_ready_Guards_ok (PrsOk.nil _) (ItsOk.nil _) tt_ready_Guards_ok et_ready_Guards_ok) (PrOk.of mixed_ok) Go.Proofs.Tryz.func12 rfl (by decide) rfl rfl rfl (pureR_one (e := (.sl (.int .i64))) rfl) ?_
  intro x r hw hs
  repeat'
    (try (conv => whnf)
     first
       | (with_reducible have hs := letv_out hs)
       | (refine draw_and (by kernel_rfl) ?_)
       | (refine both_mk ?_ ?_)
       | (refine br_bool (fun h => ?_) (fun h => ?_) <;> first | have hs := cT h hs | have hs := cF h hs)
       | (refine bind_elim hs fun v hb hs => ?_; first | refine ck_ready_View_guards rfl hb ?_ | refine ck_ready_View_of rfl hb ?_)
       | refine chk_elim hs fun hs => ?_
       | (have hs := letv_out hs)
       | exact fin_some hs rfl
       | (intro b hb; first | have hs := nilq_elim hs b hb | have hs := nilqn_elim hs b hb)
       | exact hJ1 _ hs
       | (have hs := cT rfl hs)
       | (have hs := cF rfl hs)
       | ((with_reducible have hs : loop (ready_Guards_L1 _ _ _ _) _ = some _ := hs); refine vc_loopR (ready_Guards_S1 _ _ _ _ _ _) ready_Guards_M1 hs rfl ?_; intro J1 k1 x1 hJ1 hs)
       | (refine vc_loopR (ready_Guards_S1 _ _ _ _ _ _) ready_Guards_M1 hs rfl ?_; intro J1 k1 x1 hJ1 hs)
       | exact (none_ne hs).elim)
noncomputable def lf_ready_Events : List AV → Option AV := liftF (.pair (.pair (.int .i64) (.pair (.sl tyA0) (.pair (.sl (.pair (.pair .bool tyA3) (.pair (.pair (.arr 4 (.int .u64)) (.pair (.arr 4 (.int .u64)) .unit)) tyA3))) tyA1))) .unit) (unpack (.sl tyA7)) (fun x => ready_Events x.1)
theorem lq_ready_Events : lf_ready_Events = liftF (.pair (.pair (.int .i64) (.pair (.sl tyA0) (.pair (.sl (.pair (.pair .bool tyA3) (.pair (.pair (.arr 4 (.int .u64)) (.pair (.arr 4 (.int .u64)) .unit)) tyA3))) tyA1))) .unit) (unpack (.sl tyA7)) (fun x => ready_Events x.1) := rfl
attribute [irreducible] lf_ready_Events
theorem ck_ready_Events {vs : List AV} {k : AV → Prop} {x : ((.pair (.pair (.int .i64) (.pair (.sl tyA0) (.pair (.sl (.pair (.pair .bool tyA3) (.pair (.pair (.arr 4 (.int .u64)) (.pair (.arr 4 (.int .u64)) .unit)) tyA3))) tyA1))) .unit) : Ty).den} {v : List tzA8} (h1 : pks (.pair (.pair (.int .i64) (.pair (.sl tyA0) (.pair (.sl (.pair (.pair .bool tyA3) (.pair (.pair (.arr 4 (.int .u64)) (.pair (.arr 4 (.int .u64)) .unit)) tyA3))) tyA1))) .unit) vs = some x) (h2 : ready_Events x.1 = some v) (h3 : k ((unpack (.sl tyA7)) v)) : callK (lf_ready_Events vs) k := by
  rw [lq_ready_Events]; exact callK_lift h1 h2 h3
def tt_ready_Events : List (Nat × Ty) := [(3, .int .i64), (4, .bool), (26, .sl (.int .i64)), (32, .pair (.int .i64) tyA14), (35, .sl tyA0), (36, .sl (.pair (.pair .bool tyA3) (.pair (.pair (.arr 4 (.int .u64)) (.pair (.arr 4 (.int .u64)) .unit)) tyA3))), (37, .sl tyA13), (38, .sl tyA14), (40, .pair (.int .i64) (.pair (.sl tyA0) (.pair (.sl (.pair (.pair .bool tyA3) (.pair (.pair (.arr 4 (.int .u64)) (.pair (.arr 4 (.int .u64)) .unit)) tyA3))) tyA1))), (57, .sl tyA7), (59, .sl (.pair (.int .i64) tyA7)), (61, .pair (.int .i64) (.pair tyA24 .unit)), (63, .pair (.int .i64) tyA7), (80, .pair (.int .i64) (.pair (.int .i64) tyA3)), (97, .sl (.pair (.int .i64) tyA3)), (100, .pair (.int .i64) tyA3), (103, .opq 1)]
def et_ready_Events : List (Nat × Nat) := [(26, 3), (35, 128), (36, 136), (37, 61), (38, 80), (57, 32), (59, 63), (97, 100)]
theorem tt_ready_Events_ok : subT tt tt_ready_Events = true := by kernel_rfl
theorem et_ready_Events_ok : subE et et_ready_Events = true := by kernel_rfl
noncomputable def fns_ready_Events : List (Nat × (List AV → Option AV)) := [(21, lf_ready_View_of), (34, lf_bartab_Ready), (35, lf_chantab_Moves), (36, lf_ready_moves), (39, lf_clock_Due)]
theorem fns_ready_Events_ok : FnsOk Go.Proofs.Tryz.prog fns_ready_Events := FnsOk.cons c_ready_View_of (FnsOk.cons c_bartab_Ready (FnsOk.cons c_chantab_Moves (FnsOk.cons c_ready_moves (FnsOk.cons c_clock_Due (FnsOk.nil _)))))
def kp_ready_Events_68 : List (Nat × List Nat) := [(0, [2, 4]), (1, [5])]
def od_ready_Events_68 : List (Nat × Ord) := []
noncomputable def E_ready_Events_68 : Env := ⟨0, 0, et_ready_Events, tt_ready_Events, fns_ready_Events, [], od_ready_Events_68, kp_ready_Events_68, none, []⟩
noncomputable def pr_ready_Events_68 : List (Nat × Proc) := (68, procR E_ready_Events_68 10 [.tmp 5] (bodyOf Tryz.f68)) :: []
theorem pr_ready_Events_68_ok : PrsOk Go.Proofs.Tryz.prog pr_ready_Events_68 :=
  PrsOk.cons (proc_conR (E := E_ready_Events_68) (EnvC.sub (off := 0) (nt := 0) (ords := od_ready_Events_68) (keep := kp_ready_Events_68) (yl := none) tt_ok et_ok fns_ready_Events_ok (PrsOk.nil _) (ItsOk.nil _) tt_ready_Events_ok et_ready_Events_ok) (PrOk.of mixed_ok) Go.Proofs.Tryz.func68 rfl (by decide) rfl rfl) (PrsOk.nil _)
def kp_ready_Events_37 : List (Nat × List Nat) := [(0, [1, 2]), (1, [1, 2, 5]), (2, [1, 2, 5, 13, 14, 15]), (3, [1, 2, 5, 13, 14, 15, 16]), (4, [1, 2, 5, 7, 13, 14, 15]), (5, [1, 2, 5, 7, 13, 14, 15, 20, 21, 22]), (6, [1, 2, 5, 7, 13, 14, 15, 20, 21, 22, 23]), (7, [1, 2, 5, 7, 9, 13, 14, 15, 20, 21, 22]), (8, [1, 2, 5, 7, 9, 10, 11, 13, 14, 15, 20, 21, 22]), (9, [1, 2, 5, 7, 10, 13, 14, 15, 20, 21, 22, 40]), (10, [1, 2, 5, 7, 13, 14, 15, 20, 21, 22]), (11, [1, 2, 5, 7, 13, 14, 15, 20, 21, 22]), (12, [1, 2, 5, 13, 14, 15]), (13, [4]), (12000003, []), (7000003, [1, 2, 5, 7, 13, 14, 15, 20, 21, 22]), (4710411000003, [1, 22, 46081, 47106, 47111, 47148]), (4710413000003, [47113, 47114, 48275459, 48275460, 47147, 47148, 47111]), (7577611000003, [1, 22, 74753, 75778, 75783, 75820]), (7577613000003, [75785, 75786, 77635587, 77635588, 75819, 75820, 75783]), (8089611000003, [1, 22, 79873, 80898, 80903, 80940]), (8089613000003, [80905, 80906, 82878467, 82878468, 80939, 80940, 80903])]
def od_ready_Events_37 : List (Nat × Ord) := []
noncomputable def E_ready_Events_37 : Env := ⟨0, 0, et_ready_Events, tt_ready_Events, fns_ready_Events, pr_ready_Events_68, od_ready_Events_37, kp_ready_Events_37, none, []⟩
noncomputable def pr_ready_Events_37 : List (Nat × Proc) := (37, procR E_ready_Events_37 48 [.tmp 4] (bodyOf Tryz.f37)) :: pr_ready_Events_68
theorem pr_ready_Events_37_ok : PrsOk Go.Proofs.Tryz.prog pr_ready_Events_37 :=
  PrsOk.cons (proc_conR (E := E_ready_Events_37) (EnvC.sub (off := 0) (nt := 0) (ords := od_ready_Events_37) (keep := kp_ready_Events_37) (yl := none) tt_ok et_ok fns_ready_Events_ok (pr_ready_Events_68_ok) (ItsOk.nil _) tt_ready_Events_ok et_ready_Events_ok) (PrOk.of mixed_ok) Go.Proofs.Tryz.func37 rfl (by decide) rfl rfl) (pr_ready_Events_68_ok)
def kp_ready_Events_38 : List (Nat × List Nat) := [(0, [1]), (1, [2])]
def od_ready_Events_38 : List (Nat × Ord) := []
noncomputable def E_ready_Events_38 : Env := ⟨0, 0, et_ready_Events, tt_ready_Events, fns_ready_Events, pr_ready_Events_37, od_ready_Events_38, kp_ready_Events_38, none, []⟩
noncomputable def pr_ready_Events_38 : List (Nat × Proc) := (38, procR E_ready_Events_38 4 [.tmp 2] (bodyOf Tryz.f38)) :: pr_ready_Events_37
theorem pr_ready_Events_38_ok : PrsOk Go.Proofs.Tryz.prog pr_ready_Events_38 :=
  PrsOk.cons (proc_conR (E := E_ready_Events_38) (EnvC.sub (off := 0) (nt := 0) (ords := od_ready_Events_38) (keep := kp_ready_Events_38) (yl := none) tt_ok et_ok fns_ready_Events_ok (pr_ready_Events_37_ok) (ItsOk.nil _) tt_ready_Events_ok et_ready_Events_ok) (PrOk.of mixed_ok) Go.Proofs.Tryz.func38 rfl (by decide) rfl rfl) (pr_ready_Events_37_ok)
def ready_Events_S1 (u0 : AV) (u1 : AV) (u2 : AV) (u3 : AV) (B5 : Blk) (x3 : tzA6 × Int × Int × tzA10 × Int × Int × Int × (List tzA2) × (List tzA4) × tzA6 × tzA9 × List Int × (List tzA8) × Int × (List tzA2) × (List tzA4) × tzA6 × tzA9 × List Int × Int × tzA10 × (List tzA8)) : St :=
  ⟨[(1, u0), (2, u1), (5, u2), (7, u3), (13, .ro tyA13 x3.1), (14, .int .i64 x3.2.1), (15, .int .i64 x3.2.2.1), (20, .ro (.pair (.int .i64) tyA7) x3.2.2.2.1), (21, .int .i64 x3.2.2.2.2.1), (22, .int .i64 x3.2.2.2.2.2.1)], [(1, .var (.pair (.int .i64) (.pair (.sl tyA0) (.pair (.sl (.pair (.pair .bool tyA3) (.pair (.pair (.arr 4 (.int .u64)) (.pair (.arr 4 (.int .u64)) .unit)) tyA3))) tyA1))) (.agg [.int .i64 x3.2.2.2.2.2.2.1, .ro tyA0 x3.2.2.2.2.2.2.2.1, .ro (.pair (.pair .bool tyA3) (.pair (.pair (.arr 4 (.int .u64)) (.pair (.arr 4 (.int .u64)) .unit)) tyA3)) x3.2.2.2.2.2.2.2.2.1, .ro tyA13 x3.2.2.2.2.2.2.2.2.2.1, .ro tyA14 x3.2.2.2.2.2.2.2.2.2.2.1, .ro (.int .i64) x3.2.2.2.2.2.2.2.2.2.2.2.1]) false), (22, .row 32 tyA7 x3.2.2.2.2.2.2.2.2.2.2.2.2.1 false), (46081, B5), (47106, .var (.pair (.int .i64) (.pair (.sl tyA0) (.pair (.sl (.pair (.pair .bool tyA3) (.pair (.pair (.arr 4 (.int .u64)) (.pair (.arr 4 (.int .u64)) .unit)) tyA3))) tyA1))) (.agg [.int .i64 x3.2.2.2.2.2.2.2.2.2.2.2.2.2.1, .ro tyA0 x3.2.2.2.2.2.2.2.2.2.2.2.2.2.2.1, .ro (.pair (.pair .bool tyA3) (.pair (.pair (.arr 4 (.int .u64)) (.pair (.arr 4 (.int .u64)) .unit)) tyA3)) x3.2.2.2.2.2.2.2.2.2.2.2.2.2.2.2.1, .ro tyA13 x3.2.2.2.2.2.2.2.2.2.2.2.2.2.2.2.2.1, .ro tyA14 x3.2.2.2.2.2.2.2.2.2.2.2.2.2.2.2.2.2.1, .ro (.int .i64) x3.2.2.2.2.2.2.2.2.2.2.2.2.2.2.2.2.2.2.1]) false), (47111, .var tyA13 (.agg [.int .i64 x3.2.2.2.2.2.2.2.2.2.2.2.2.2.2.2.2.2.2.2.1, .ro (.pair (.int .i64) tyA7) x3.2.2.2.2.2.2.2.2.2.2.2.2.2.2.2.2.2.2.2.2.1]) false), (47148, .row 32 tyA7 x3.2.2.2.2.2.2.2.2.2.2.2.2.2.2.2.2.2.2.2.2.2 false)], (some ([47111, 47113, 47114, 48275459, 48275460, 47147, 47148], 0))⟩
def ready_Events_M1 : Msk := ⟨[1, 2, 5, 7, 13, 14, 15, 20, 21, 22], [1, 22, 46081, 47106, 47111, 47148], [], [], [47111, 47113, 47114, 48275459, 48275460, 47147, 47148], [], [], [], []⟩
def ready_Events_S2 (u0 : AV) (u1 : AV) (u2 : AV) (B4 : Blk) (x2 : tzA6 × Int × Int × Int × (List tzA2) × (List tzA4) × tzA6 × tzA9 × List Int × (List tzA8) × Int × (List tzA2) × (List tzA4) × tzA6 × tzA9 × List Int × (List tzA8)) : St :=
  ⟨[(1, u0), (2, u1), (5, u2), (13, .ro tyA13 x2.1), (14, .int .i64 x2.2.1), (15, .int .i64 x2.2.2.1)], [(1, .var (.pair (.int .i64) (.pair (.sl tyA0) (.pair (.sl (.pair (.pair .bool tyA3) (.pair (.pair (.arr 4 (.int .u64)) (.pair (.arr 4 (.int .u64)) .unit)) tyA3))) tyA1))) (.agg [.int .i64 x2.2.2.2.1, .ro tyA0 x2.2.2.2.2.1, .ro (.pair (.pair .bool tyA3) (.pair (.pair (.arr 4 (.int .u64)) (.pair (.arr 4 (.int .u64)) .unit)) tyA3)) x2.2.2.2.2.2.1, .ro tyA13 x2.2.2.2.2.2.2.1, .ro tyA14 x2.2.2.2.2.2.2.2.1, .ro (.int .i64) x2.2.2.2.2.2.2.2.2.1]) false), (22, .row 32 tyA7 x2.2.2.2.2.2.2.2.2.2.1 false), (46081, B4), (47106, .var (.pair (.int .i64) (.pair (.sl tyA0) (.pair (.sl (.pair (.pair .bool tyA3) (.pair (.pair (.arr 4 (.int .u64)) (.pair (.arr 4 (.int .u64)) .unit)) tyA3))) tyA1))) (.agg [.int .i64 x2.2.2.2.2.2.2.2.2.2.2.1, .ro tyA0 x2.2.2.2.2.2.2.2.2.2.2.2.1, .ro (.pair (.pair .bool tyA3) (.pair (.pair (.arr 4 (.int .u64)) (.pair (.arr 4 (.int .u64)) .unit)) tyA3)) x2.2.2.2.2.2.2.2.2.2.2.2.2.1, .ro tyA13 x2.2.2.2.2.2.2.2.2.2.2.2.2.2.1, .ro tyA14 x2.2.2.2.2.2.2.2.2.2.2.2.2.2.2.1, .ro (.int .i64) x2.2.2.2.2.2.2.2.2.2.2.2.2.2.2.2.1]) false), (47148, .row 32 tyA7 x2.2.2.2.2.2.2.2.2.2.2.2.2.2.2.2.2 false)], (some ([47111, 47113, 47114, 48275459, 48275460, 47147, 47148], 0))⟩
def ready_Events_M2 : Msk := ⟨[1, 2, 5, 13, 14, 15], [1, 22, 46081, 47106, 47148], [(5, 47148, 57)], [], [47111, 47113, 47114, 48275459, 48275460, 47147, 47148], [], [], [], []⟩
def ready_Events_S3 (u0 : AV) (u1 : AV) (u2 : AV) (u3 : AV) (B5 : Blk) (x7 : tzA6 × Int × Int × tzA10 × Int × Int × Int × (List tzA2) × (List tzA4) × tzA6 × tzA9 × List Int × (List tzA8) × Int × (List tzA2) × (List tzA4) × tzA6 × tzA9 × List Int × Int × tzA10 × (List tzA8)) : St :=
  ⟨[(1, u0), (2, u1), (5, u2), (7, u3), (13, .ro tyA13 x7.1), (14, .int .i64 x7.2.1), (15, .int .i64 x7.2.2.1), (20, .ro (.pair (.int .i64) tyA7) x7.2.2.2.1), (21, .int .i64 x7.2.2.2.2.1), (22, .int .i64 x7.2.2.2.2.2.1)], [(1, .var (.pair (.int .i64) (.pair (.sl tyA0) (.pair (.sl (.pair (.pair .bool tyA3) (.pair (.pair (.arr 4 (.int .u64)) (.pair (.arr 4 (.int .u64)) .unit)) tyA3))) tyA1))) (.agg [.int .i64 x7.2.2.2.2.2.2.1, .ro tyA0 x7.2.2.2.2.2.2.2.1, .ro (.pair (.pair .bool tyA3) (.pair (.pair (.arr 4 (.int .u64)) (.pair (.arr 4 (.int .u64)) .unit)) tyA3)) x7.2.2.2.2.2.2.2.2.1, .ro tyA13 x7.2.2.2.2.2.2.2.2.2.1, .ro tyA14 x7.2.2.2.2.2.2.2.2.2.2.1, .ro (.int .i64) x7.2.2.2.2.2.2.2.2.2.2.2.1]) false), (22, .row 32 tyA7 x7.2.2.2.2.2.2.2.2.2.2.2.2.1 false), (74753, B5), (75778, .var (.pair (.int .i64) (.pair (.sl tyA0) (.pair (.sl (.pair (.pair .bool tyA3) (.pair (.pair (.arr 4 (.int .u64)) (.pair (.arr 4 (.int .u64)) .unit)) tyA3))) tyA1))) (.agg [.int .i64 x7.2.2.2.2.2.2.2.2.2.2.2.2.2.1, .ro tyA0 x7.2.2.2.2.2.2.2.2.2.2.2.2.2.2.1, .ro (.pair (.pair .bool tyA3) (.pair (.pair (.arr 4 (.int .u64)) (.pair (.arr 4 (.int .u64)) .unit)) tyA3)) x7.2.2.2.2.2.2.2.2.2.2.2.2.2.2.2.1, .ro tyA13 x7.2.2.2.2.2.2.2.2.2.2.2.2.2.2.2.2.1, .ro tyA14 x7.2.2.2.2.2.2.2.2.2.2.2.2.2.2.2.2.2.1, .ro (.int .i64) x7.2.2.2.2.2.2.2.2.2.2.2.2.2.2.2.2.2.2.1]) false), (75783, .var tyA13 (.agg [.int .i64 x7.2.2.2.2.2.2.2.2.2.2.2.2.2.2.2.2.2.2.2.1, .ro (.pair (.int .i64) tyA7) x7.2.2.2.2.2.2.2.2.2.2.2.2.2.2.2.2.2.2.2.2.1]) false), (75820, .row 32 tyA7 x7.2.2.2.2.2.2.2.2.2.2.2.2.2.2.2.2.2.2.2.2.2 false)], (some ([75783, 75785, 75786, 77635587, 77635588, 75819, 75820], 0))⟩
def ready_Events_M3 : Msk := ⟨[1, 2, 5, 7, 13, 14, 15, 20, 21, 22], [1, 22, 74753, 75778, 75783, 75820], [], [], [75783, 75785, 75786, 77635587, 77635588, 75819, 75820], [], [], [], []⟩
def ready_Events_S4 (u0 : AV) (u1 : AV) (u2 : AV) (B4 : Blk) (x6 : tzA6 × Int × Int × Int × (List tzA2) × (List tzA4) × tzA6 × tzA9 × List Int × (List tzA8) × Int × (List tzA2) × (List tzA4) × tzA6 × tzA9 × List Int × (List tzA8)) : St :=
  ⟨[(1, u0), (2, u1), (5, u2), (13, .ro tyA13 x6.1), (14, .int .i64 x6.2.1), (15, .int .i64 x6.2.2.1)], [(1, .var (.pair (.int .i64) (.pair (.sl tyA0) (.pair (.sl (.pair (.pair .bool tyA3) (.pair (.pair (.arr 4 (.int .u64)) (.pair (.arr 4 (.int .u64)) .unit)) tyA3))) tyA1))) (.agg [.int .i64 x6.2.2.2.1, .ro tyA0 x6.2.2.2.2.1, .ro (.pair (.pair .bool tyA3) (.pair (.pair (.arr 4 (.int .u64)) (.pair (.arr 4 (.int .u64)) .unit)) tyA3)) x6.2.2.2.2.2.1, .ro tyA13 x6.2.2.2.2.2.2.1, .ro tyA14 x6.2.2.2.2.2.2.2.1, .ro (.int .i64) x6.2.2.2.2.2.2.2.2.1]) false), (22, .row 32 tyA7 x6.2.2.2.2.2.2.2.2.2.1 false), (74753, B4), (75778, .var (.pair (.int .i64) (.pair (.sl tyA0) (.pair (.sl (.pair (.pair .bool tyA3) (.pair (.pair (.arr 4 (.int .u64)) (.pair (.arr 4 (.int .u64)) .unit)) tyA3))) tyA1))) (.agg [.int .i64 x6.2.2.2.2.2.2.2.2.2.2.1, .ro tyA0 x6.2.2.2.2.2.2.2.2.2.2.2.1, .ro (.pair (.pair .bool tyA3) (.pair (.pair (.arr 4 (.int .u64)) (.pair (.arr 4 (.int .u64)) .unit)) tyA3)) x6.2.2.2.2.2.2.2.2.2.2.2.2.1, .ro tyA13 x6.2.2.2.2.2.2.2.2.2.2.2.2.2.1, .ro tyA14 x6.2.2.2.2.2.2.2.2.2.2.2.2.2.2.1, .ro (.int .i64) x6.2.2.2.2.2.2.2.2.2.2.2.2.2.2.2.1]) false), (75820, .row 32 tyA7 x6.2.2.2.2.2.2.2.2.2.2.2.2.2.2.2.2 false)], (some ([75783, 75785, 75786, 77635587, 77635588, 75819, 75820], 0))⟩
def ready_Events_M4 : Msk := ⟨[1, 2, 5, 13, 14, 15], [1, 22, 74753, 75778, 75820], [(5, 75820, 57)], [], [75783, 75785, 75786, 77635587, 77635588, 75819, 75820], [], [], [], []⟩
def ready_Events_S5 (u0 : AV) (u1 : AV) (u2 : AV) (u3 : AV) (B5 : Blk) (x11 : tzA6 × Int × Int × tzA10 × Int × Int × Int × (List tzA2) × (List tzA4) × tzA6 × tzA9 × List Int × (List tzA8) × Int × (List tzA2) × (List tzA4) × tzA6 × tzA9 × List Int × Int × tzA10 × (List tzA8)) : St :=
  ⟨[(1, u0), (2, u1), (5, u2), (7, u3), (13, .ro tyA13 x11.1), (14, .int .i64 x11.2.1), (15, .int .i64 x11.2.2.1), (20, .ro (.pair (.int .i64) tyA7) x11.2.2.2.1), (21, .int .i64 x11.2.2.2.2.1), (22, .int .i64 x11.2.2.2.2.2.1)], [(1, .var (.pair (.int .i64) (.pair (.sl tyA0) (.pair (.sl (.pair (.pair .bool tyA3) (.pair (.pair (.arr 4 (.int .u64)) (.pair (.arr 4 (.int .u64)) .unit)) tyA3))) tyA1))) (.agg [.int .i64 x11.2.2.2.2.2.2.1, .ro tyA0 x11.2.2.2.2.2.2.2.1, .ro (.pair (.pair .bool tyA3) (.pair (.pair (.arr 4 (.int .u64)) (.pair (.arr 4 (.int .u64)) .unit)) tyA3)) x11.2.2.2.2.2.2.2.2.1, .ro tyA13 x11.2.2.2.2.2.2.2.2.2.1, .ro tyA14 x11.2.2.2.2.2.2.2.2.2.2.1, .ro (.int .i64) x11.2.2.2.2.2.2.2.2.2.2.2.1]) false), (22, .row 32 tyA7 x11.2.2.2.2.2.2.2.2.2.2.2.2.1 false), (79873, B5), (80898, .var (.pair (.int .i64) (.pair (.sl tyA0) (.pair (.sl (.pair (.pair .bool tyA3) (.pair (.pair (.arr 4 (.int .u64)) (.pair (.arr 4 (.int .u64)) .unit)) tyA3))) tyA1))) (.agg [.int .i64 x11.2.2.2.2.2.2.2.2.2.2.2.2.2.1, .ro tyA0 x11.2.2.2.2.2.2.2.2.2.2.2.2.2.2.1, .ro (.pair (.pair .bool tyA3) (.pair (.pair (.arr 4 (.int .u64)) (.pair (.arr 4 (.int .u64)) .unit)) tyA3)) x11.2.2.2.2.2.2.2.2.2.2.2.2.2.2.2.1, .ro tyA13 x11.2.2.2.2.2.2.2.2.2.2.2.2.2.2.2.2.1, .ro tyA14 x11.2.2.2.2.2.2.2.2.2.2.2.2.2.2.2.2.2.1, .ro (.int .i64) x11.2.2.2.2.2.2.2.2.2.2.2.2.2.2.2.2.2.2.1]) false), (80903, .var tyA13 (.agg [.int .i64 x11.2.2.2.2.2.2.2.2.2.2.2.2.2.2.2.2.2.2.2.1, .ro (.pair (.int .i64) tyA7) x11.2.2.2.2.2.2.2.2.2.2.2.2.2.2.2.2.2.2.2.2.1]) false), (80940, .row 32 tyA7 x11.2.2.2.2.2.2.2.2.2.2.2.2.2.2.2.2.2.2.2.2.2 false)], (some ([80903, 80905, 80906, 82878467, 82878468, 80939, 80940], 0))⟩
def ready_Events_M5 : Msk := ⟨[1, 2, 5, 7, 13, 14, 15, 20, 21, 22], [1, 22, 79873, 80898, 80903, 80940], [], [], [80903, 80905, 80906, 82878467, 82878468, 80939, 80940], [], [], [], []⟩
def ready_Events_S6 (u0 : AV) (u1 : AV) (u2 : AV) (B4 : Blk) (x10 : tzA6 × Int × Int × Int × (List tzA2) × (List tzA4) × tzA6 × tzA9 × List Int × (List tzA8) × Int × (List tzA2) × (List tzA4) × tzA6 × tzA9 × List Int × (List tzA8)) : St :=
  ⟨[(1, u0), (2, u1), (5, u2), (13, .ro tyA13 x10.1), (14, .int .i64 x10.2.1), (15, .int .i64 x10.2.2.1)], [(1, .var (.pair (.int .i64) (.pair (.sl tyA0) (.pair (.sl (.pair (.pair .bool tyA3) (.pair (.pair (.arr 4 (.int .u64)) (.pair (.arr 4 (.int .u64)) .unit)) tyA3))) tyA1))) (.agg [.int .i64 x10.2.2.2.1, .ro tyA0 x10.2.2.2.2.1, .ro (.pair (.pair .bool tyA3) (.pair (.pair (.arr 4 (.int .u64)) (.pair (.arr 4 (.int .u64)) .unit)) tyA3)) x10.2.2.2.2.2.1, .ro tyA13 x10.2.2.2.2.2.2.1, .ro tyA14 x10.2.2.2.2.2.2.2.1, .ro (.int .i64) x10.2.2.2.2.2.2.2.2.1]) false), (22, .row 32 tyA7 x10.2.2.2.2.2.2.2.2.2.1 false), (79873, B4), (80898, .var (.pair (.int .i64) (.pair (.sl tyA0) (.pair (.sl (.pair (.pair .bool tyA3) (.pair (.pair (.arr 4 (.int .u64)) (.pair (.arr 4 (.int .u64)) .unit)) tyA3))) tyA1))) (.agg [.int .i64 x10.2.2.2.2.2.2.2.2.2.2.1, .ro tyA0 x10.2.2.2.2.2.2.2.2.2.2.2.1, .ro (.pair (.pair .bool tyA3) (.pair (.pair (.arr 4 (.int .u64)) (.pair (.arr 4 (.int .u64)) .unit)) tyA3)) x10.2.2.2.2.2.2.2.2.2.2.2.2.1, .ro tyA13 x10.2.2.2.2.2.2.2.2.2.2.2.2.2.1, .ro tyA14 x10.2.2.2.2.2.2.2.2.2.2.2.2.2.2.1, .ro (.int .i64) x10.2.2.2.2.2.2.2.2.2.2.2.2.2.2.2.1]) false), (80940, .row 32 tyA7 x10.2.2.2.2.2.2.2.2.2.2.2.2.2.2.2.2 false)], (some ([80903, 80905, 80906, 82878467, 82878468, 80939, 80940], 0))⟩
def ready_Events_M6 : Msk := ⟨[1, 2, 5, 13, 14, 15], [1, 22, 79873, 80898, 80940], [(5, 80940, 57)], [], [80903, 80905, 80906, 82878467, 82878468, 80939, 80940], [], [], [], []⟩
def ready_Events_S7 (u0 : AV) (u1 : AV) (u2 : AV) (u3 : AV) (B5 : Blk) (x13 : Int × (List tzA8)) : St :=
  ⟨[(1, u0), (3, u1), (48, u2), (49, u3), (50, .int .i64 x13.1)], [(1, B5), (22, .row 32 tyA7 x13.2 false)], none⟩
def ready_Events_M7 : Msk := ⟨[1, 3, 48, 49, 50], [1, 22], [], [], [], [], [], [], []⟩
def ready_Events_S8 (u0 : AV) (u1 : AV) (u2 : AV) (u3 : AV) (B5 : Blk) (x14 : Int × (List tzA8)) : St :=
  ⟨[(1, u0), (3, u1), (26, u2), (27, u3), (28, .int .i64 x14.1)], [(1, B5), (22, .row 32 tyA7 x14.2 false)], none⟩
def ready_Events_M8 : Msk := ⟨[1, 3, 26, 27, 28], [1, 22], [], [], [], [], [], [], []⟩
def ready_Events_S9 (u0 : AV) (u1 : AV) (u2 : AV) (u3 : AV) (B5 : Blk) (x15 : Int × (List tzA8)) : St :=
  ⟨[(1, u0), (3, u1), (12, u2), (13, u3), (14, .int .i64 x15.1)], [(1, B5), (22, .row 32 tyA7 x15.2 false)], none⟩
def ready_Events_M9 : Msk := ⟨[1, 3, 12, 13, 14], [1, 22], [(3, 22, 57)], [], [], [], [], [], []⟩
def ready_Events_Q1 (x4 : tzA6 × Int × Int × tzA10 × Int × Int × Int × (List tzA2) × (List tzA4) × tzA6 × tzA9 × List Int × (List tzA8) × Int × (List tzA2) × (List tzA4) × tzA6 × tzA9 × List Int × Int × tzA10 × (List tzA8)) : St :=
  ⟨[(1, .fn (.func 68) [] [.ptr 46081 []]), (2, .ptr 47106 []), (5, .own 47148), (7, .ptr 47111 []), (13, .ro tyA13 x4.1), (14, .int .i64 x4.2.1), (15, .int .i64 x4.2.2.1), (20, .ro (.pair (.int .i64) tyA7) x4.2.2.2.1), (21, .int .i64 x4.2.2.2.2.1), (22, .int .i64 x4.2.2.2.2.2.1)], [(1, .var (.pair (.int .i64) (.pair (.sl tyA0) (.pair (.sl (.pair (.pair .bool tyA3) (.pair (.pair (.arr 4 (.int .u64)) (.pair (.arr 4 (.int .u64)) .unit)) tyA3))) tyA1))) (.agg [.int .i64 x4.2.2.2.2.2.2.1, .ro tyA0 x4.2.2.2.2.2.2.2.1, .ro (.pair (.pair .bool tyA3) (.pair (.pair (.arr 4 (.int .u64)) (.pair (.arr 4 (.int .u64)) .unit)) tyA3)) x4.2.2.2.2.2.2.2.2.1, .ro tyA13 x4.2.2.2.2.2.2.2.2.2.1, .ro tyA14 x4.2.2.2.2.2.2.2.2.2.2.1, .ro (.int .i64) x4.2.2.2.2.2.2.2.2.2.2.2.1]) false), (22, .row 32 tyA7 x4.2.2.2.2.2.2.2.2.2.2.2.2.1 false), (46081, .var (.int .i64) (.int .i64 5) false), (47106, .var (.pair (.int .i64) (.pair (.sl tyA0) (.pair (.sl (.pair (.pair .bool tyA3) (.pair (.pair (.arr 4 (.int .u64)) (.pair (.arr 4 (.int .u64)) .unit)) tyA3))) tyA1))) (.agg [.int .i64 x4.2.2.2.2.2.2.2.2.2.2.2.2.2.1, .ro tyA0 x4.2.2.2.2.2.2.2.2.2.2.2.2.2.2.1, .ro (.pair (.pair .bool tyA3) (.pair (.pair (.arr 4 (.int .u64)) (.pair (.arr 4 (.int .u64)) .unit)) tyA3)) x4.2.2.2.2.2.2.2.2.2.2.2.2.2.2.2.1, .ro tyA13 x4.2.2.2.2.2.2.2.2.2.2.2.2.2.2.2.2.1, .ro tyA14 x4.2.2.2.2.2.2.2.2.2.2.2.2.2.2.2.2.2.1, .ro (.int .i64) x4.2.2.2.2.2.2.2.2.2.2.2.2.2.2.2.2.2.2.1]) false), (47111, .var tyA13 (.agg [.int .i64 x4.2.2.2.2.2.2.2.2.2.2.2.2.2.2.2.2.2.2.2.1, .ro (.pair (.int .i64) tyA7) x4.2.2.2.2.2.2.2.2.2.2.2.2.2.2.2.2.2.2.2.2.1]) false), (47148, .row 32 tyA7 x4.2.2.2.2.2.2.2.2.2.2.2.2.2.2.2.2.2.2.2.2.2 false)], (some ([47113, 47114, 48275459, 48275460, 47147, 47148, 47111], 0))⟩
def ready_Events_Q2 (x1 : Int × (List tzA2) × (List tzA4) × tzA6 × tzA9 × List Int × (List tzA8)) : St :=
  ⟨[(1, .ptr 1 []), (3, .own 22)], [(1, .var (.pair (.int .i64) (.pair (.sl tyA0) (.pair (.sl (.pair (.pair .bool tyA3) (.pair (.pair (.arr 4 (.int .u64)) (.pair (.arr 4 (.int .u64)) .unit)) tyA3))) tyA1))) (.agg [.int .i64 x1.1, .ro tyA0 x1.2.1, .ro (.pair (.pair .bool tyA3) (.pair (.pair (.arr 4 (.int .u64)) (.pair (.arr 4 (.int .u64)) .unit)) tyA3)) x1.2.2.1, .ro tyA13 x1.2.2.2.1, .ro tyA14 x1.2.2.2.2.1, .ro (.int .i64) x1.2.2.2.2.2.1]) false), (22, .row 32 tyA7 x1.2.2.2.2.2.2 false)], none⟩
def ready_Events_Q3 (x8 : tzA6 × Int × Int × tzA10 × Int × Int × Int × (List tzA2) × (List tzA4) × tzA6 × tzA9 × List Int × (List tzA8) × Int × (List tzA2) × (List tzA4) × tzA6 × tzA9 × List Int × Int × tzA10 × (List tzA8)) : St :=
  ⟨[(1, .fn (.func 68) [] [.ptr 74753 []]), (2, .ptr 75778 []), (5, .own 75820), (7, .ptr 75783 []), (13, .ro tyA13 x8.1), (14, .int .i64 x8.2.1), (15, .int .i64 x8.2.2.1), (20, .ro (.pair (.int .i64) tyA7) x8.2.2.2.1), (21, .int .i64 x8.2.2.2.2.1), (22, .int .i64 x8.2.2.2.2.2.1)], [(1, .var (.pair (.int .i64) (.pair (.sl tyA0) (.pair (.sl (.pair (.pair .bool tyA3) (.pair (.pair (.arr 4 (.int .u64)) (.pair (.arr 4 (.int .u64)) .unit)) tyA3))) tyA1))) (.agg [.int .i64 x8.2.2.2.2.2.2.1, .ro tyA0 x8.2.2.2.2.2.2.2.1, .ro (.pair (.pair .bool tyA3) (.pair (.pair (.arr 4 (.int .u64)) (.pair (.arr 4 (.int .u64)) .unit)) tyA3)) x8.2.2.2.2.2.2.2.2.1, .ro tyA13 x8.2.2.2.2.2.2.2.2.2.1, .ro tyA14 x8.2.2.2.2.2.2.2.2.2.2.1, .ro (.int .i64) x8.2.2.2.2.2.2.2.2.2.2.2.1]) false), (22, .row 32 tyA7 x8.2.2.2.2.2.2.2.2.2.2.2.2.1 false), (74753, .var (.int .i64) (.int .i64 7) false), (75778, .var (.pair (.int .i64) (.pair (.sl tyA0) (.pair (.sl (.pair (.pair .bool tyA3) (.pair (.pair (.arr 4 (.int .u64)) (.pair (.arr 4 (.int .u64)) .unit)) tyA3))) tyA1))) (.agg [.int .i64 x8.2.2.2.2.2.2.2.2.2.2.2.2.2.1, .ro tyA0 x8.2.2.2.2.2.2.2.2.2.2.2.2.2.2.1, .ro (.pair (.pair .bool tyA3) (.pair (.pair (.arr 4 (.int .u64)) (.pair (.arr 4 (.int .u64)) .unit)) tyA3)) x8.2.2.2.2.2.2.2.2.2.2.2.2.2.2.2.1, .ro tyA13 x8.2.2.2.2.2.2.2.2.2.2.2.2.2.2.2.2.1, .ro tyA14 x8.2.2.2.2.2.2.2.2.2.2.2.2.2.2.2.2.2.1, .ro (.int .i64) x8.2.2.2.2.2.2.2.2.2.2.2.2.2.2.2.2.2.2.1]) false), (75783, .var tyA13 (.agg [.int .i64 x8.2.2.2.2.2.2.2.2.2.2.2.2.2.2.2.2.2.2.2.1, .ro (.pair (.int .i64) tyA7) x8.2.2.2.2.2.2.2.2.2.2.2.2.2.2.2.2.2.2.2.2.1]) false), (75820, .row 32 tyA7 x8.2.2.2.2.2.2.2.2.2.2.2.2.2.2.2.2.2.2.2.2.2 false)], (some ([75785, 75786, 77635587, 77635588, 75819, 75820, 75783], 0))⟩
def ready_Events_Q4 (x5 : Int × (List tzA2) × (List tzA4) × tzA6 × tzA9 × List Int × (List tzA8)) : St :=
  ⟨[(1, .ptr 1 []), (3, .own 22)], [(1, .var (.pair (.int .i64) (.pair (.sl tyA0) (.pair (.sl (.pair (.pair .bool tyA3) (.pair (.pair (.arr 4 (.int .u64)) (.pair (.arr 4 (.int .u64)) .unit)) tyA3))) tyA1))) (.agg [.int .i64 x5.1, .ro tyA0 x5.2.1, .ro (.pair (.pair .bool tyA3) (.pair (.pair (.arr 4 (.int .u64)) (.pair (.arr 4 (.int .u64)) .unit)) tyA3)) x5.2.2.1, .ro tyA13 x5.2.2.2.1, .ro tyA14 x5.2.2.2.2.1, .ro (.int .i64) x5.2.2.2.2.2.1]) false), (22, .row 32 tyA7 x5.2.2.2.2.2.2 false)], none⟩
def ready_Events_Q5 (x12 : tzA6 × Int × Int × tzA10 × Int × Int × Int × (List tzA2) × (List tzA4) × tzA6 × tzA9 × List Int × (List tzA8) × Int × (List tzA2) × (List tzA4) × tzA6 × tzA9 × List Int × Int × tzA10 × (List tzA8)) : St :=
  ⟨[(1, .fn (.func 68) [] [.ptr 79873 []]), (2, .ptr 80898 []), (5, .own 80940), (7, .ptr 80903 []), (13, .ro tyA13 x12.1), (14, .int .i64 x12.2.1), (15, .int .i64 x12.2.2.1), (20, .ro (.pair (.int .i64) tyA7) x12.2.2.2.1), (21, .int .i64 x12.2.2.2.2.1), (22, .int .i64 x12.2.2.2.2.2.1)], [(1, .var (.pair (.int .i64) (.pair (.sl tyA0) (.pair (.sl (.pair (.pair .bool tyA3) (.pair (.pair (.arr 4 (.int .u64)) (.pair (.arr 4 (.int .u64)) .unit)) tyA3))) tyA1))) (.agg [.int .i64 x12.2.2.2.2.2.2.1, .ro tyA0 x12.2.2.2.2.2.2.2.1, .ro (.pair (.pair .bool tyA3) (.pair (.pair (.arr 4 (.int .u64)) (.pair (.arr 4 (.int .u64)) .unit)) tyA3)) x12.2.2.2.2.2.2.2.2.1, .ro tyA13 x12.2.2.2.2.2.2.2.2.2.1, .ro tyA14 x12.2.2.2.2.2.2.2.2.2.2.1, .ro (.int .i64) x12.2.2.2.2.2.2.2.2.2.2.2.1]) false), (22, .row 32 tyA7 x12.2.2.2.2.2.2.2.2.2.2.2.2.1 false), (79873, .var (.int .i64) (.int .i64 8) false), (80898, .var (.pair (.int .i64) (.pair (.sl tyA0) (.pair (.sl (.pair (.pair .bool tyA3) (.pair (.pair (.arr 4 (.int .u64)) (.pair (.arr 4 (.int .u64)) .unit)) tyA3))) tyA1))) (.agg [.int .i64 x12.2.2.2.2.2.2.2.2.2.2.2.2.2.1, .ro tyA0 x12.2.2.2.2.2.2.2.2.2.2.2.2.2.2.1, .ro (.pair (.pair .bool tyA3) (.pair (.pair (.arr 4 (.int .u64)) (.pair (.arr 4 (.int .u64)) .unit)) tyA3)) x12.2.2.2.2.2.2.2.2.2.2.2.2.2.2.2.1, .ro tyA13 x12.2.2.2.2.2.2.2.2.2.2.2.2.2.2.2.2.1, .ro tyA14 x12.2.2.2.2.2.2.2.2.2.2.2.2.2.2.2.2.2.1, .ro (.int .i64) x12.2.2.2.2.2.2.2.2.2.2.2.2.2.2.2.2.2.2.1]) false), (80903, .var tyA13 (.agg [.int .i64 x12.2.2.2.2.2.2.2.2.2.2.2.2.2.2.2.2.2.2.2.1, .ro (.pair (.int .i64) tyA7) x12.2.2.2.2.2.2.2.2.2.2.2.2.2.2.2.2.2.2.2.2.1]) false), (80940, .row 32 tyA7 x12.2.2.2.2.2.2.2.2.2.2.2.2.2.2.2.2.2.2.2.2.2 false)], (some ([80905, 80906, 82878467, 82878468, 80939, 80940, 80903], 0))⟩
def ready_Events_Q6 (x9 : (List tzA8)) : St :=
  ⟨[(2, .own 22)], [(22, .row 32 tyA7 x9 false)], none⟩
def kp_ready_Events : List (Nat × List Nat) := [(0, [1]), (1, [1, 3]), (2, [1, 3, 12, 13, 14]), (3, [1, 3, 12, 13, 14, 15]), (4, [1, 3, 5, 12, 13, 14]), (5, [1, 3, 12, 13, 14]), (6, [1, 3, 12, 13, 14]), (7, [1, 3, 26, 27, 28]), (8, [1, 3, 26, 27, 28, 29]), (9, [1, 3, 7, 26, 27, 28]), (10, [1, 3, 26, 27, 28]), (11, [1, 3, 26, 27, 28]), (12, [1, 3]), (13, [1, 3, 48, 49, 50]), (14, [1, 3, 48, 49, 50, 51]), (15, [1, 3, 9, 48, 49, 50]), (16, [1, 3, 9, 48, 49, 50, 58]), (17, [1, 3, 48, 49, 50]), (18, [1, 3, 48, 49, 50]), (19, [1, 3]), (20, [2]), (5000012, []), (5000019, []), (5000020, []), (4000012, [1, 22]), (6000012, []), (4000019, [1, 22]), (6000019, []), (4000020, [22]), (6000020, []), (4000000, [1]), (4000001, [1]), (4000002, [1]), (4000003, [1, 22]), (4000004, [1, 22]), (4000005, [1, 22]), (4000006, [1, 22]), (4000007, [1, 22]), (4000008, [1, 22]), (4000009, [1, 7, 22]), (4000010, [1, 22]), (4000011, [1, 22]), (4000013, [1, 22]), (4000014, [1, 22]), (4000015, [1, 9, 22]), (4000016, [1, 9, 22]), (4000017, [1, 22]), (4000018, [1, 22])]
def od_ready_Events : List (Nat × Ord) := [(10, (.one 0 (.one 1 (.one 2 (.one 4 (.one 5 (.one 3 (.one 6 (.one 7 (.one 100008 (.one 9 .nil))))))))))), (12, (.one 0 (.alt (.cons 1 (.one 200002 (.one 200003 (.one 200004 (.one 5 .nil)))) (.cons 2 (.one 200001 (.one 200003 (.one 200004 (.one 5 .nil)))) .nil))))), (19, (.one 0 (.alt (.cons 1 (.one 200002 (.one 200003 (.one 200004 (.one 5 .nil)))) (.cons 2 (.one 200001 (.one 200003 (.one 200004 (.one 5 .nil)))) .nil))))), (20, (.one 0 (.alt (.cons 1 (.one 200002 (.one 200003 (.one 200004 (.one 5 .nil)))) (.cons 2 (.one 200001 (.one 200003 (.one 200004 (.one 5 .nil)))) .nil)))))]
noncomputable def E_ready_Events : Env := ⟨0, 0, et_ready_Events, tt_ready_Events, fns_ready_Events, pr_ready_Events_38, od_ready_Events, kp_ready_Events, none, []⟩
set_option maxRecDepth 100000 in
set_option maxHeartbeats 40000000 in
theorem c_ready_Events : PCon Go.Proofs.Tryz.prog 15 lf_ready_Events := by
  rw [lq_ready_Events]
  refine lift_conR (E := E_ready_Events) (c := bodyOf Tryz.f15) (nt := 80) (rs := [.tmp 2]) (ts := [57]) (EnvC.sub (off := 0) (nt := 0) (ords := od_ready_Events) (keep := kp_ready_Events) (yl := none) tt_ok et_ok fns_ready_Events_ok (pr_ready_Events_38_ok) (ItsOk.nil _) tt_ready_Events_ok et_ready_Events_ok) (PrOk.of mixed_ok) Go.Proofs.Tryz.func15 rfl (by decide) rfl rfl rfl (pureR_one (e := (.sl tyA7)) rfl) ?_
  intro x r hw hs
  have hks := True.intro
  have hbs := True.intro
  repeat'
    (try (conv => whnf)
     first
       | (with_reducible have hs := letv_out hs)
       | (refine draw_and (by kernel_rfl) ?_)
       | (refine both_mk ?_ ?_)
       | (refine br_bool (fun h => ?_) (fun h => ?_) <;> first | have hs := cT h hs | have hs := cF h hs)
       | (refine bind_elim hs fun v hb hs => ?_; first | refine ck_ready_View_of rfl hb ?_ | refine ck_bartab_Ready rfl hb ?_ | refine ck_chantab_Moves rfl hb ?_ | refine ck_ready_moves rfl hb ?_ | refine ck_clock_Due rfl hb ?_)
       | refine chk_elim hs fun hs => ?_
       | (have hs := letv_out hs)
       | exact fin_some hs rfl
       | (intro b hb; first | have hs := nilq_elim hs b hb | have hs := nilqn_elim hs b hb)
       | exact hJ1 _ hs
       | exact hJ2 _ hs
       | exact hJ3 _ hs
       | exact hJ4 _ hs
       | exact hJ5 _ hs
       | exact hJ6 _ hs
       | exact hJ7 _ hs
       | exact hJ8 _ hs
       | exact hJ9 _ hs
       | exact hC1 _ hs
       | exact hC2 _ hs
       | exact hC3 _ hs
       | exact hC4 _ hs
       | exact hC5 _ hs
       | exact hC6 _ hs
       | (refine cut_out 1 ready_Events_Q1 hs (fun Jc1 kc1 hC1 hs => ?_) (fun xc1 hs => ?_))
       | (refine cut_out 2 ready_Events_Q2 hs (fun Jc2 kc2 hC2 hs => ?_) (fun xc2 hs => ?_))
       | (refine cut_out 3 ready_Events_Q3 hs (fun Jc3 kc3 hC3 hs => ?_) (fun xc3 hs => ?_))
       | (refine cut_out 4 ready_Events_Q4 hs (fun Jc4 kc4 hC4 hs => ?_) (fun xc4 hs => ?_))
       | (refine cut_out 5 ready_Events_Q5 hs (fun Jc5 kc5 hC5 hs => ?_) (fun xc5 hs => ?_))
       | (refine cut_out 6 ready_Events_Q6 hs (fun Jc6 kc6 hC6 hs => ?_) (fun xc6 hs => ?_))
       | (have hs := cT rfl hs)
       | (have hs := cF rfl hs)
       | ((with_reducible have hs : ready_Events_C2 _ _ _ = some _ := hs); unfold ready_Events_C2 at hs)
       | ((with_reducible have hs : ready_Events_C4 _ _ _ = some _ := hs); unfold ready_Events_C4 at hs)
       | ((with_reducible have hs : ready_Events_C6 _ _ = some _ := hs); unfold ready_Events_C6 at hs)
       | ((with_reducible have hs : ready_Events_R2 _ = some _ := hs); unfold ready_Events_R2 at hs)
       | ((with_reducible have hs : loop (ready_Events_L1 _) _ = some _ := hs); refine vc_loopR (ready_Events_S1 _ _ _ _ _) ready_Events_M1 hs rfl ?_; intro J1 k1 x1 hJ1 hs)
       | ((with_reducible have hs : loop (ready_Events_L2 _) _ = some _ := hs); refine vc_loopR (ready_Events_S2 _ _ _ _) ready_Events_M2 hs rfl ?_; intro J2 k2 x2 hJ2 hs)
       | ((with_reducible have hs : loop (ready_Events_L3 _) _ = some _ := hs); refine vc_loopR (ready_Events_S3 _ _ _ _ _) ready_Events_M3 hs rfl ?_; intro J3 k3 x3 hJ3 hs)
       | ((with_reducible have hs : loop (ready_Events_L4 _) _ = some _ := hs); refine vc_loopR (ready_Events_S4 _ _ _ _) ready_Events_M4 hs rfl ?_; intro J4 k4 x4 hJ4 hs)
       | ((with_reducible have hs : loop (ready_Events_L5 _) _ = some _ := hs); refine vc_loopR (ready_Events_S5 _ _ _ _ _) ready_Events_M5 hs rfl ?_; intro J5 k5 x5 hJ5 hs)
       | ((with_reducible have hs : loop (ready_Events_L6 _) _ = some _ := hs); refine vc_loopR (ready_Events_S6 _ _ _ _) ready_Events_M6 hs rfl ?_; intro J6 k6 x6 hJ6 hs)
       | ((with_reducible have hs : loop (ready_Events_L7 _ _) _ = some _ := hs); refine vc_loopR (ready_Events_S7 _ _ _ _ _) ready_Events_M7 hs rfl ?_; intro J7 k7 x7 hJ7 hs)
       | ((with_reducible have hs : loop (ready_Events_L8 _ _ _) _ = some _ := hs); refine vc_loopR (ready_Events_S8 _ _ _ _ _) ready_Events_M8 hs rfl ?_; intro J8 k8 x8 hJ8 hs)
       | ((with_reducible have hs : loop (ready_Events_L9 _ _ _) _ = some _ := hs); refine vc_loopR (ready_Events_S9 _ _ _ _ _) ready_Events_M9 hs rfl ?_; intro J9 k9 x9 hJ9 hs)
       | (refine vc_loopR (ready_Events_S1 _ _ _ _ _) ready_Events_M1 hs rfl ?_; intro J1 k1 x1 hJ1 hs)
       | (refine vc_loopR (ready_Events_S2 _ _ _ _) ready_Events_M2 hs rfl ?_; intro J2 k2 x2 hJ2 hs)
       | (refine vc_loopR (ready_Events_S3 _ _ _ _ _) ready_Events_M3 hs rfl ?_; intro J3 k3 x3 hJ3 hs)
       | (refine vc_loopR (ready_Events_S4 _ _ _ _) ready_Events_M4 hs rfl ?_; intro J4 k4 x4 hJ4 hs)
       | (refine vc_loopR (ready_Events_S5 _ _ _ _ _) ready_Events_M5 hs rfl ?_; intro J5 k5 x5 hJ5 hs)
       | (refine vc_loopR (ready_Events_S6 _ _ _ _) ready_Events_M6 hs rfl ?_; intro J6 k6 x6 hJ6 hs)
       | (refine vc_loopR (ready_Events_S7 _ _ _ _ _) ready_Events_M7 hs rfl ?_; intro J7 k7 x7 hJ7 hs)
       | (refine vc_loopR (ready_Events_S8 _ _ _ _ _) ready_Events_M8 hs rfl ?_; intro J8 k8 x8 hJ8 hs)
       | (refine vc_loopR (ready_Events_S9 _ _ _ _ _) ready_Events_M9 hs rfl ?_; intro J9 k9 x9 hJ9 hs)
       | (refine And.intro (by first | exact hks.1 | exact hks.2.1 | exact hks.2.2.1 | exact hks.2.2.2.1 | exact hks.2.2.2.2.1 | exact hks.2.2.2.2.2.1 | exact hks.2.2.2.2.2.2.1 | exact hks.2.2.2.2.2.2.2.1) ?_)
       | (first | refine ck_ready_View_of rfl hbs.1 ?_ | refine ck_bartab_Ready rfl hbs.1 ?_ | refine ck_chantab_Moves rfl hbs.1 ?_ | refine ck_ready_moves rfl hbs.1 ?_ | refine ck_clock_Due rfl hbs.1 ?_ | refine ck_ready_View_of rfl hbs.2.1 ?_ | refine ck_bartab_Ready rfl hbs.2.1 ?_ | refine ck_chantab_Moves rfl hbs.2.1 ?_ | refine ck_ready_moves rfl hbs.2.1 ?_ | refine ck_clock_Due rfl hbs.2.1 ?_ | refine ck_ready_View_of rfl hbs.2.2.1 ?_ | refine ck_bartab_Ready rfl hbs.2.2.1 ?_ | refine ck_chantab_Moves rfl hbs.2.2.1 ?_ | refine ck_ready_moves rfl hbs.2.2.1 ?_ | refine ck_clock_Due rfl hbs.2.2.1 ?_)
       | (obtain ⟨hk, hs⟩ := chk_some hs; have hks := And.intro hk hks)
       | (obtain ⟨vb, hb, hs⟩ := bind_some hs; have hbs := And.intro hb hbs)
       | exact (none_ne hs).elim)
end Go.Proofs.YtbkccpddkpclaaaGreatDoorV
