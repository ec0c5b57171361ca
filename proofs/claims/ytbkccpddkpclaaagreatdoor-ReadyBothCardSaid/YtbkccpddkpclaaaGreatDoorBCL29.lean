import Derived.Test.YtbkccpddkpclaaaGreatDoorBVcTab
import Derived.Test.YtbkccpddkpclaaaGreatDoorBDDReady
import Derived.Test.YtbkccpddkpclaaaGreatDoorBCCRg0a
import Derived.Test.YtbkccpddkpclaaaGreatDoorBCR19
import Derived.Test.YtbkccpddkpclaaaGreatDoorBCCRg0b
import Derived.Test.YtbkccpddkpclaaaGreatDoorBCready
namespace Go.Proofs.YtbkccpddkpclaaaGreatDoorV
open Go.Proofs
set_option linter.unusedVariables false
noncomputable def lf_L29_Small : List AV → Option AV := liftF (.pair tyA12 .unit) (unpack .bool) (fun x => L29_Small x.1)
theorem lq_L29_Small : lf_L29_Small = liftF (.pair tyA12 .unit) (unpack .bool) (fun x => L29_Small x.1) := rfl
attribute [irreducible] lf_L29_Small
theorem ck_L29_Small {vs : List AV} {k : AV → Prop} {x : ((.pair tyA12 .unit) : Ty).den} {v : Bool} (h1 : pks (.pair tyA12 .unit) vs = some x) (h2 : L29_Small x.1 = some v) (h3 : k ((unpack .bool) v)) : callK (lf_L29_Small vs) k := by
  rw [lq_L29_Small]; exact callK_lift h1 h2 h3
def tt_L29_Small : List (Nat × Ty) := [(3, .int .i64), (4, .bool), (22, .sl tyA0), (23, .sl tyA5), (24, .sl tyA13), (25, .sl tyA14), (26, .sl (.int .i64)), (28, .pair (.int .i64) tyA33), (59, .sl (.pair (.int .i64) tyA7)), (63, .pair (.int .i64) tyA7), (67, .pair (.int .i64) (.pair tyA24 .unit)), (69, .pair (.int .i64) (.pair (.int .i64) tyA3))]
def et_L29_Small : List (Nat × Nat) := [(22, 109), (23, 115), (24, 67), (25, 69), (26, 3), (59, 63)]
theorem tt_L29_Small_ok : subT tt tt_L29_Small = true := by kernel_rfl
theorem et_L29_Small_ok : subE et et_L29_Small = true := by kernel_rfl
noncomputable def fns_L29_Small : List (Nat × (List AV → Option AV)) := [(16, lf_L19_Small), (17, lf_L23_Small)]
theorem fns_L29_Small_ok : FnsOk Go.Proofs.Tryz.prog fns_L29_Small := FnsOk.cons c_L19_Small (FnsOk.cons c_L23_Small (FnsOk.nil _))
def L29_Small_S1 (u0 : AV) (u1 : AV) (x1 : Int) : St :=
  ⟨[(76, u0), (77, u1), (78, .int .i64 x1)], [], none⟩
def L29_Small_M1 : Msk := ⟨[76, 77, 78], [], [], [], [], [], [], [], []⟩
def L29_Small_S2 (u0 : AV) (u1 : AV) (u2 : AV) (u3 : AV) (u4 : AV) (u5 : AV) (B7 : Blk) (x3 : Int) : St :=
  ⟨[(1, u0), (38, u1), (39, u2), (40, u3), (59, u4), (60, u5), (61, .int .i64 x3)], [(1, B7)], none⟩
def L29_Small_M2 : Msk := ⟨[1, 38, 39, 40, 59, 60, 61], [1], [], [], [], [], [], [], []⟩
def L29_Small_S3 (u0 : AV) (u1 : AV) (B3 : Blk) (x2 : Int × Int) : St :=
  ⟨[(1, u0), (38, u1), (39, .int .i64 x2.1), (40, .int .i64 x2.2)], [(1, B3)], none⟩
def L29_Small_M3 : Msk := ⟨[1, 38, 39, 40], [1], [], [], [], [], [], [], []⟩
def kp_L29_Small : List (Nat × List Nat) := [(0, [1]), (1, [1, 36]), (2, [2]), (3, [1, 38, 39, 40]), (4, [1, 38, 39, 40, 41]), (5, [1, 4, 38, 39, 40]), (6, [1, 4, 38, 39, 40, 57]), (7, [2]), (8, [1, 38, 39, 40, 59, 60, 61]), (9, [1, 38, 39, 40, 59, 60, 61, 62]), (10, [1, 6, 38, 39, 40, 59, 60, 61]), (11, [1, 38, 39, 40, 59, 60, 61, 72]), (12, [2]), (13, [1, 38, 39, 40, 59, 60, 61]), (14, [1, 38, 39, 40]), (15, [76, 77, 78]), (16, [76, 77, 78, 79]), (17, [8, 76, 77, 78]), (18, [76, 77, 78, 84]), (19, [2]), (20, [76, 77, 78]), (21, [2]), (4000000, [1]), (4000001, [1]), (4000002, []), (4000003, [1]), (4000004, [1]), (4000005, [1, 4]), (4000006, [1, 4]), (4000007, []), (4000008, [1]), (4000009, [1]), (4000010, [1, 6]), (4000011, [1]), (4000012, []), (4000013, [1]), (4000014, [1]), (4000015, []), (4000016, []), (4000017, [8]), (4000018, []), (4000019, []), (4000020, []), (4000021, [])]
def od_L29_Small : List (Nat × Ord) := []
noncomputable def E_L29_Small : Env := ⟨0, 0, et_L29_Small, tt_L29_Small, fns_L29_Small, [], od_L29_Small, kp_L29_Small, none, []⟩
set_option maxRecDepth 100000 in
set_option maxHeartbeats 40000000 in
theorem c_L29_Small : PCon Go.Proofs.Tryz.prog 5 lf_L29_Small := by
  rw [lq_L29_Small]
  refine lift_conR (E := E_L29_Small) (c := bodyOf Tryz.f5) (nt := 86) (rs := [.tmp 2]) (ts := [4]) (EnvC.sub (off := 0) (nt := 0) (ords := od_L29_Small) (keep := kp_L29_Small) (yl := none) tt_ok et_ok fns_L29_Small_ok (PrsOk.nil _) (ItsOk.nil _) tt_L29_Small_ok et_L29_Small_ok) (PrOk.of mixed_ok) Go.Proofs.Tryz.func5 rfl (by decide) rfl rfl rfl (pureR_one (e := .bool) rfl) ?_
  intro x r hw hs
  repeat'
    (try (conv => whnf)
     first
       | (with_reducible have hs := letv_out hs)
       | (refine draw_and (by kernel_rfl) ?_)
       | (refine both_mk ?_ ?_)
       | (refine br_bool (fun h => ?_) (fun h => ?_) <;> first | have hs := cT h hs | have hs := cF h hs)
       | (refine bind_elim hs fun v hb hs => ?_; first | refine ck_L19_Small rfl hb ?_ | refine ck_L23_Small rfl hb ?_)
       | refine chk_elim hs fun hs => ?_
       | (have hs := letv_out hs)
       | exact fin_some hs rfl
       | (intro b hb; first | have hs := nilq_elim hs b hb | have hs := nilqn_elim hs b hb)
       | exact hJ1 _ hs
       | exact hJ2 _ hs
       | exact hJ3 _ hs
       | (have hs := cT rfl hs)
       | (have hs := cF rfl hs)
       | ((with_reducible have hs : L29_Small_J2 _ = some _ := hs); unfold L29_Small_J2 at hs)
       | ((with_reducible have hs : loop (L29_Small_L1 _ _) _ = some _ := hs); refine vc_loopR (L29_Small_S1 _ _) L29_Small_M1 hs rfl ?_; intro J1 k1 x1 hJ1 hs)
       | ((with_reducible have hs : loop (L29_Small_L2 _ _ _ _) _ = some _ := hs); refine vc_loopR (L29_Small_S2 _ _ _ _ _ _ _) L29_Small_M2 hs rfl ?_; intro J2 k2 x2 hJ2 hs)
       | ((with_reducible have hs : loop (L29_Small_L3 _) _ = some _ := hs); refine vc_loopR (L29_Small_S3 _ _ _) L29_Small_M3 hs rfl ?_; intro J3 k3 x3 hJ3 hs)
       | (refine vc_loopR (L29_Small_S1 _ _) L29_Small_M1 hs rfl ?_; intro J1 k1 x1 hJ1 hs)
       | (refine vc_loopR (L29_Small_S2 _ _ _ _ _ _ _) L29_Small_M2 hs rfl ?_; intro J2 k2 x2 hJ2 hs)
       | (refine vc_loopR (L29_Small_S3 _ _ _) L29_Small_M3 hs rfl ?_; intro J3 k3 x3 hJ3 hs)
       | exact (none_ne hs).elim)
noncomputable def lf_L29_To : List AV → Option AV := liftF (.pair tyA12 .unit) (unpack (.pair (.int .i64) (.pair (.sl tyA0) (.pair (.sl (.pair (.pair .bool tyA3) (.pair (.pair (.arr 4 (.int .u64)) (.pair (.arr 4 (.int .u64)) .unit)) tyA3))) tyA1)))) (fun x => L29_To x.1)
theorem lq_L29_To : lf_L29_To = liftF (.pair tyA12 .unit) (unpack (.pair (.int .i64) (.pair (.sl tyA0) (.pair (.sl (.pair (.pair .bool tyA3) (.pair (.pair (.arr 4 (.int .u64)) (.pair (.arr 4 (.int .u64)) .unit)) tyA3))) tyA1)))) (fun x => L29_To x.1) := rfl
attribute [irreducible] lf_L29_To
theorem ck_L29_To {vs : List AV} {k : AV → Prop} {x : ((.pair tyA12 .unit) : Ty).den} {v : Int × (List tzA2) × (List tzA4) × tzA6 × tzA9 × (List Int) × Unit} (h1 : pks (.pair tyA12 .unit) vs = some x) (h2 : L29_To x.1 = some v) (h3 : k ((unpack (.pair (.int .i64) (.pair (.sl tyA0) (.pair (.sl (.pair (.pair .bool tyA3) (.pair (.pair (.arr 4 (.int .u64)) (.pair (.arr 4 (.int .u64)) .unit)) tyA3))) tyA1)))) v)) : callK (lf_L29_To vs) k := by
  rw [lq_L29_To]; exact callK_lift h1 h2 h3
def tt_L29_To : List (Nat × Ty) := [(3, .int .i64), (22, .sl tyA0), (23, .sl tyA5), (24, .sl tyA13), (25, .sl tyA14), (26, .sl (.int .i64)), (28, .pair (.int .i64) tyA33), (37, .sl tyA13), (38, .sl tyA14), (40, .pair (.int .i64) (.pair (.sl tyA0) (.pair (.sl (.pair (.pair .bool tyA3) (.pair (.pair (.arr 4 (.int .u64)) (.pair (.arr 4 (.int .u64)) .unit)) tyA3))) tyA1))), (67, .pair (.int .i64) (.pair tyA24 .unit)), (69, .pair (.int .i64) (.pair (.int .i64) tyA3))]
def et_L29_To : List (Nat × Nat) := [(22, 109), (23, 115), (24, 67), (25, 69), (26, 3), (37, 61), (38, 80)]
theorem tt_L29_To_ok : subT tt tt_L29_To = true := by kernel_rfl
theorem et_L29_To_ok : subE et et_L29_To = true := by kernel_rfl
noncomputable def fns_L29_To : List (Nat × (List AV → Option AV)) := [(22, lf_L19_To), (23, lf_L23_To), (24, lf_L23_Plain)]
theorem fns_L29_To_ok : FnsOk Go.Proofs.Tryz.prog fns_L29_To := FnsOk.cons c_L19_To (FnsOk.cons c_L23_To (FnsOk.cons c_L23_Plain (FnsOk.nil _)))
def L29_To_S1 (u0 : AV) (u1 : AV) (u2 : AV) (u3 : AV) (B5 : Blk) (B7 : Blk) (B8 : Blk) (x1 : Int × tzA9) : St :=
  ⟨[(2, u0), (3, u1), (35, u2), (36, u3), (37, .int .i64 x1.1)], [(2, B5), (3, B7), (31, B8), (45, .row 80 tyA14 x1.2 false)], none⟩
def L29_To_M1 : Msk := ⟨[2, 3, 35, 36, 37], [2, 3, 31, 45], [], [(3, [4], 45, 38)], [], [], [], [], []⟩
def L29_To_S2 (u0 : AV) (u1 : AV) (u2 : AV) (u3 : AV) (u4 : AV) (B6 : Blk) (B8 : Blk) (B10 : Blk) (x2 : Int × tzA6) : St :=
  ⟨[(1, u0), (2, u1), (3, u2), (21, u3), (22, u4), (23, .int .i64 x2.1)], [(1, B6), (2, B8), (3, B10), (31, .row 61 tyA13 x2.2 false)], none⟩
def L29_To_M2 : Msk := ⟨[1, 2, 3, 21, 22, 23], [1, 2, 3, 31], [], [(3, [3], 31, 37)], [], [], [], [], []⟩
def kp_L29_To : List (Nat × List Nat) := [(0, [1, 2]), (1, [1, 2, 3]), (2, [1, 2, 3, 21, 22, 23]), (3, [1, 2, 3, 21, 22, 23, 24]), (4, [1, 2, 3, 5, 21, 22, 23]), (5, [1, 2, 3, 21, 22, 23]), (6, [1, 2, 3, 21, 22, 23]), (7, [2, 3, 35, 36, 37]), (8, [2, 3, 35, 36, 37, 38]), (9, [2, 3, 7, 35, 36, 37]), (10, [2, 3, 35, 36, 37]), (11, [2, 3, 35, 36, 37]), (12, [2]), (4000000, [1, 2]), (4000001, [1, 2, 3]), (4000002, [1, 2, 3]), (4000003, [1, 2, 3, 31]), (4000004, [1, 2, 3, 5, 31]), (4000005, [1, 2, 3, 31]), (4000006, [1, 2, 3, 31]), (4000007, [2, 3, 31]), (4000008, [2, 3, 31, 45]), (4000009, [2, 3, 7, 31, 45]), (4000010, [2, 3, 31, 45]), (4000011, [2, 3, 31, 45]), (4000012, [2, 31, 45])]
def od_L29_To : List (Nat × Ord) := [(1, (.one 0 (.one 1 (.one 2 (.one 3 (.one 5 (.one 6 (.one 9 (.one 10 (.alt (.cons 4 (.alt (.cons 7 (.alt (.cons 8 (.one 11 (.one 12 (.one 100013 .nil))) (.cons 12 (.one 8 (.one 11 (.one 100013 .nil))) .nil))) (.cons 12 (.one 7 (.one 8 (.one 11 (.one 100013 .nil)))) .nil))) (.cons 12 (.one 4 (.one 7 (.one 8 (.one 11 (.one 100013 .nil))))) .nil))))))))))))]
noncomputable def E_L29_To : Env := ⟨0, 0, et_L29_To, tt_L29_To, fns_L29_To, [], od_L29_To, kp_L29_To, none, []⟩
set_option maxRecDepth 100000 in
set_option maxHeartbeats 40000000 in
theorem c_L29_To : PCon Go.Proofs.Tryz.prog 8 lf_L29_To := by
  rw [lq_L29_To]
  refine lift_conR (E := E_L29_To) (c := bodyOf Tryz.f8) (nt := 49) (rs := [.cell 2 40]) (ts := [40]) (EnvC.sub (off := 0) (nt := 0) (ords := od_L29_To) (keep := kp_L29_To) (yl := none) tt_ok et_ok fns_L29_To_ok (PrsOk.nil _) (ItsOk.nil _) tt_L29_To_ok et_L29_To_ok) (PrOk.of mixed_ok) Go.Proofs.Tryz.func8 rfl (by decide) rfl rfl rfl (pureR_one (e := (.pair (.int .i64) (.pair (.sl tyA0) (.pair (.sl (.pair (.pair .bool tyA3) (.pair (.pair (.arr 4 (.int .u64)) (.pair (.arr 4 (.int .u64)) .unit)) tyA3))) tyA1)))) rfl) ?_
  intro x r hw hs
  repeat'
    (try (conv => whnf)
     first
       | (with_reducible have hs := letv_out hs)
       | (refine draw_and (by kernel_rfl) ?_)
       | (refine both_mk ?_ ?_)
       | (refine br_bool (fun h => ?_) (fun h => ?_) <;> first | have hs := cT h hs | have hs := cF h hs)
       | (refine bind_elim hs fun v hb hs => ?_; first | refine ck_L19_To rfl hb ?_ | refine ck_L23_To rfl hb ?_ | refine ck_L23_Plain rfl hb ?_)
       | refine chk_elim hs fun hs => ?_
       | (have hs := letv_out hs)
       | exact fin_some hs rfl
       | (intro b hb; first | have hs := nilq_elim hs b hb | have hs := nilqn_elim hs b hb)
       | exact hJ1 _ hs
       | exact hJ2 _ hs
       | (have hs := cT rfl hs)
       | (have hs := cF rfl hs)
       | ((with_reducible have hs : L29_To_J2 _ _ _ _ = some _ := hs); unfold L29_To_J2 at hs)
       | ((with_reducible have hs : loop (L29_To_L1 _ _ _ _ _) _ = some _ := hs); refine vc_loopR (L29_To_S1 _ _ _ _ _ _ _) L29_To_M1 hs rfl ?_; intro J1 k1 x1 hJ1 hs)
       | ((with_reducible have hs : loop (L29_To_L2 _ _ _ _) _ = some _ := hs); refine vc_loopR (L29_To_S2 _ _ _ _ _ _ _ _) L29_To_M2 hs rfl ?_; intro J2 k2 x2 hJ2 hs)
       | (refine vc_loopR (L29_To_S1 _ _ _ _ _ _ _) L29_To_M1 hs rfl ?_; intro J1 k1 x1 hJ1 hs)
       | (refine vc_loopR (L29_To_S2 _ _ _ _ _ _ _ _) L29_To_M2 hs rfl ?_; intro J2 k2 x2 hJ2 hs)
       | exact (none_ne hs).elim)
noncomputable def lf_L29_alive : List AV → Option AV := liftF .unit (unpack .bool) (fun x => L29_alive)
theorem lq_L29_alive : lf_L29_alive = liftF .unit (unpack .bool) (fun x => L29_alive) := rfl
attribute [irreducible] lf_L29_alive
theorem ck_L29_alive {vs : List AV} {k : AV → Prop} {x : (.unit : Ty).den} {v : Bool} (h1 : pks .unit vs = some x) (h2 : L29_alive = some v) (h3 : k ((unpack .bool) v)) : callK (lf_L29_alive vs) k := by
  rw [lq_L29_alive]; exact callK_lift h1 h2 h3
def tt_L29_alive : List (Nat × Ty) := [(3, .int .i64), (4, .bool), (22, .sl tyA0), (24, .sl tyA13), (26, .sl (.int .i64)), (28, .pair (.int .i64) tyA33), (32, .pair (.int .i64) tyA14), (40, .pair (.int .i64) (.pair (.sl tyA0) (.pair (.sl (.pair (.pair .bool tyA3) (.pair (.pair (.arr 4 (.int .u64)) (.pair (.arr 4 (.int .u64)) .unit)) tyA3))) tyA1))), (50, .sl tyA7), (57, .sl tyA7), (59, .sl (.pair (.int .i64) tyA7)), (63, .pair (.int .i64) tyA7), (67, .pair (.int .i64) (.pair tyA24 .unit)), (73, .pair (.int .i64) tyA14)]
def et_L29_alive : List (Nat × Nat) := [(22, 109), (24, 67), (26, 3), (50, 73), (57, 32), (59, 63)]
theorem tt_L29_alive_ok : subT tt tt_L29_alive = true := by kernel_rfl
theorem et_L29_alive_ok : subE et et_L29_alive = true := by kernel_rfl
noncomputable def fns_L29_alive : List (Nat × (List AV → Option AV)) := [(7, lf_ready_Which), (8, lf_L29_To), (11, lf_R02_Same), (12, lf_ready_Guards), (15, lf_ready_Events), (18, lf_R19_New), (19, lf_R19_Offer)]
theorem fns_L29_alive_ok : FnsOk Go.Proofs.Tryz.prog fns_L29_alive := FnsOk.cons c_ready_Which (FnsOk.cons c_L29_To (FnsOk.cons c_R02_Same (FnsOk.cons c_ready_Guards (FnsOk.cons c_ready_Events (FnsOk.cons c_R19_New (FnsOk.cons c_R19_Offer (FnsOk.nil _)))))))
def kp_L29_alive : List (Nat × List Nat) := [(0, []), (1, [1]), (2, [1]), (3, [1, 4]), (4, [1, 4]), (5, [5]), (6, [5, 6]), (7, [5, 6, 7, 8]), (8, [5, 6, 7, 8, 10]), (9, [0]), (4000000, []), (4000001, []), (4000002, []), (4000003, [28]), (4000004, [28]), (4000005, [5]), (4000006, [5]), (4000007, [5, 7]), (4000008, [5, 7]), (4000009, [])]
def od_L29_alive : List (Nat × Ord) := [(9, (.one 0 (.one 1 (.one 2 (.one 3 (.one 4 (.one 5 (.one 6 (.one 7 (.one 8 (.one 9 (.one 10 (.one 11 (.one 12 (.one 13 (.one 14 (.one 15 (.one 16 (.one 17 (.one 18 (.one 19 (.one 20 (.one 21 (.one 22 (.one 23 (.one 24 (.one 25 (.one 26 (.one 27 (.one 28 (.one 29 (.one 30 (.one 31 (.one 32 (.alt (.cons 33 (.one 34 (.one 100035 (.one 36 (.one 37 .nil)))) (.cons 34 (.one 33 (.one 100035 (.one 36 (.one 37 .nil)))) .nil))))))))))))))))))))))))))))))))))))), (1000008, .nil), (1000018, .nil), (1000019, .nil)]
noncomputable def E_L29_alive : Env := ⟨0, 0, et_L29_alive, tt_L29_alive, fns_L29_alive, [], od_L29_alive, kp_L29_alive, none, []⟩
set_option maxRecDepth 100000 in
set_option maxHeartbeats 40000000 in
theorem c_L29_alive : PCon Go.Proofs.Tryz.prog 6 lf_L29_alive := by
  rw [lq_L29_alive]
  refine lift_conR (E := E_L29_alive) (c := bodyOf Tryz.f6) (nt := 94) (rs := [.tmp 0]) (ts := [4]) (EnvC.sub (off := 0) (nt := 0) (ords := od_L29_alive) (keep := kp_L29_alive) (yl := none) tt_ok et_ok fns_L29_alive_ok (PrsOk.nil _) (ItsOk.nil _) tt_L29_alive_ok et_L29_alive_ok) (PrOk.of mixed_ok) Go.Proofs.Tryz.func6 rfl (by decide) rfl rfl rfl (pureR_one (e := .bool) rfl) ?_
  intro x r hw hs
  repeat'
    (try (conv => whnf)
     first
       | (with_reducible have hs := letv_out hs)
       | (refine draw_and (by kernel_rfl) ?_)
       | (refine both_mk ?_ ?_)
       | (refine br_bool (fun h => ?_) (fun h => ?_) <;> first | have hs := cT h hs | have hs := cF h hs)
       | (refine bind_elim hs fun v hb hs => ?_; first | refine ck_ready_Which rfl hb ?_ | refine ck_L29_To rfl hb ?_ | refine ck_R02_Same rfl hb ?_ | refine ck_ready_Guards rfl hb ?_ | refine ck_ready_Events rfl hb ?_ | refine ck_R19_New rfl hb ?_ | refine ck_R19_Offer rfl hb ?_)
       | refine chk_elim hs fun hs => ?_
       | (have hs := letv_out hs)
       | exact fin_some hs rfl
       | (intro b hb; first | have hs := nilq_elim hs b hb | have hs := nilqn_elim hs b hb)
       | (have hs := cT rfl hs)
       | (have hs := cF rfl hs)
       | exact (none_ne hs).elim)
noncomputable def lf_L29_plain : List AV → Option AV := liftF (.pair tyA12 .unit) (unpack tyA12) (fun x => L29_plain x.1)
attribute [irreducible] lf_L29_plain
noncomputable def lf_L29_right : List AV → Option AV := liftF (.pair tyA12 .unit) (unpack .bool) (fun x => L29_right x.1)
theorem lq_L29_right : lf_L29_right = liftF (.pair tyA12 .unit) (unpack .bool) (fun x => L29_right x.1) := rfl
attribute [irreducible] lf_L29_right
theorem ck_L29_right {vs : List AV} {k : AV → Prop} {x : ((.pair tyA12 .unit) : Ty).den} {v : Bool} (h1 : pks (.pair tyA12 .unit) vs = some x) (h2 : L29_right x.1 = some v) (h3 : k ((unpack .bool) v)) : callK (lf_L29_right vs) k := by
  rw [lq_L29_right]; exact callK_lift h1 h2 h3
def tt_L29_right : List (Nat × Ty) := [(3, .int .i64), (4, .bool), (24, .sl tyA13), (28, .pair (.int .i64) tyA33), (59, .sl (.pair (.int .i64) tyA7)), (63, .pair (.int .i64) tyA7), (67, .pair (.int .i64) (.pair tyA24 .unit))]
def et_L29_right : List (Nat × Nat) := [(24, 67), (59, 63)]
theorem tt_L29_right_ok : subT tt tt_L29_right = true := by kernel_rfl
theorem et_L29_right_ok : subE et et_L29_right = true := by kernel_rfl
noncomputable def fns_L29_right : List (Nat × (List AV → Option AV)) := []
theorem fns_L29_right_ok : FnsOk Go.Proofs.Tryz.prog fns_L29_right := FnsOk.nil _
def L29_right_S1 (u0 : AV) (x2 : tzA6 × Int × Int × tzA10 × Int × Int × Int × tzA10) : St :=
  ⟨[(4, u0), (8, .ro tyA13 x2.1), (9, .int .i64 x2.2.1), (10, .int .i64 x2.2.2.1), (15, .ro (.pair (.int .i64) tyA7) x2.2.2.2.1), (16, .int .i64 x2.2.2.2.2.1), (17, .int .i64 x2.2.2.2.2.2.1)], [(4, .var tyA13 (.agg [.int .i64 x2.2.2.2.2.2.2.1, .ro (.pair (.int .i64) tyA7) x2.2.2.2.2.2.2.2]) false)], none⟩
def L29_right_M1 : Msk := ⟨[4, 8, 9, 10, 15, 16, 17], [4], [], [], [], [], [], [], []⟩
def L29_right_S2 (x1 : tzA6 × Int × Int) : St :=
  ⟨[(8, .ro tyA13 x1.1), (9, .int .i64 x1.2.1), (10, .int .i64 x1.2.2)], [], none⟩
def L29_right_M2 : Msk := ⟨[8, 9, 10], [], [], [], [], [], [], [], []⟩
def L29_right_Q1 (x3 : tzA6 × Int × Int × tzA10 × Int × Int × Int × tzA10) : St :=
  ⟨[(4, .ptr 4 []), (8, .ro tyA13 x3.1), (9, .int .i64 x3.2.1), (10, .int .i64 x3.2.2.1), (15, .ro (.pair (.int .i64) tyA7) x3.2.2.2.1), (16, .int .i64 x3.2.2.2.2.1), (17, .int .i64 x3.2.2.2.2.2.1)], [(4, .var tyA13 (.agg [.int .i64 x3.2.2.2.2.2.2.1, .ro (.pair (.int .i64) tyA7) x3.2.2.2.2.2.2.2]) false)], none⟩
def kp_L29_right : List (Nat × List Nat) := [(0, [1]), (1, [8, 9, 10]), (2, [8, 9, 10, 11]), (3, [4, 8, 9, 10]), (4, [4, 8, 9, 10, 15, 16, 17]), (5, [4, 8, 9, 10, 15, 16, 17, 18]), (6, [4, 5, 6, 8, 9, 10, 15, 16, 17]), (7, [4, 8, 9, 10, 15, 16, 17, 50]), (8, [2]), (9, [4, 8, 9, 10, 15, 16, 17]), (10, [8, 9, 10]), (11, [2]), (12000003, []), (7000003, [4, 8, 9, 10, 15, 16, 17]), (11000003, [4]), (13000003, []), (4000000, [1]), (4000001, []), (4000002, []), (4000003, [4]), (4000004, [4]), (4000005, [4]), (4000006, [4, 6]), (4000007, [4]), (4000008, []), (4000009, [4]), (4000010, []), (4000011, [])]
def od_L29_right : List (Nat × Ord) := [(7, (.one 0 (.one 1 (.one 2 (.one 3 (.one 4 (.one 5 (.one 6 (.one 7 (.one 8 (.one 9 (.one 10 (.one 11 (.one 12 (.one 13 (.one 14 (.one 15 (.one 16 (.one 17 (.one 18 (.one 19 (.one 20 (.one 21 (.one 22 (.one 23 (.one 24 (.one 25 (.one 26 (.one 27 (.one 28 .nil))))))))))))))))))))))))))))))]
noncomputable def E_L29_right : Env := ⟨0, 0, et_L29_right, tt_L29_right, fns_L29_right, [], od_L29_right, kp_L29_right, none, []⟩
set_option maxRecDepth 100000 in
set_option maxHeartbeats 40000000 in
theorem c_L29_right : PCon Go.Proofs.Tryz.prog 33 lf_L29_right := by
  rw [lq_L29_right]
  refine lift_conR (E := E_L29_right) (c := bodyOf Tryz.f33) (nt := 53) (rs := [.tmp 2]) (ts := [4]) (EnvC.sub (off := 0) (nt := 0) (ords := od_L29_right) (keep := kp_L29_right) (yl := none) tt_ok et_ok fns_L29_right_ok (PrsOk.nil _) (ItsOk.nil _) tt_L29_right_ok et_L29_right_ok) (PrOk.of mixed_ok) Go.Proofs.Tryz.func33 rfl (by decide) rfl rfl rfl (pureR_one (e := .bool) rfl) ?_
  intro x r hw hs
  repeat'
    (try (conv => whnf)
     first
       | (with_reducible have hs := letv_out hs)
       | (refine draw_and (by kernel_rfl) ?_)
       | (refine both_mk ?_ ?_)
       | (refine br_bool (fun h => ?_) (fun h => ?_) <;> first | have hs := cT h hs | have hs := cF h hs)
       | refine chk_elim hs fun hs => ?_
       | (have hs := letv_out hs)
       | exact fin_some hs rfl
       | (intro b hb; first | have hs := nilq_elim hs b hb | have hs := nilqn_elim hs b hb)
       | exact hJ1 _ hs
       | exact hJ2 _ hs
       | exact hC1 _ hs
       | (refine cut_out 1 L29_right_Q1 hs (fun Jc1 kc1 hC1 hs => ?_) (fun xc1 hs => ?_))
       | (have hs := cT rfl hs)
       | (have hs := cF rfl hs)
       | ((with_reducible have hs : L29_right _ = some _ := hs); unfold L29_right at hs)
       | ((with_reducible have hs : loop (L29_right_L1 _) _ = some _ := hs); refine vc_loopR (L29_right_S1 _) L29_right_M1 hs rfl ?_; intro J1 k1 x1 hJ1 hs)
       | ((with_reducible have hs : loop L29_right_L2 _ = some _ := hs); refine vc_loopR (L29_right_S2) L29_right_M2 hs rfl ?_; intro J2 k2 x2 hJ2 hs)
       | (refine vc_loopR (L29_right_S1 _) L29_right_M1 hs rfl ?_; intro J1 k1 x1 hJ1 hs)
       | (refine vc_loopR (L29_right_S2) L29_right_M2 hs rfl ?_; intro J2 k2 x2 hJ2 hs)
       | exact (none_ne hs).elim)
noncomputable def lf_L29_made : List AV → Option AV := liftF (.pair tyA22 .unit) (unpR (.pair tyA12 (.pair .bool .unit))) (fun x => L29_made x.1)
theorem lq_L29_made : lf_L29_made = liftF (.pair tyA22 .unit) (unpR (.pair tyA12 (.pair .bool .unit))) (fun x => L29_made x.1) := rfl
attribute [irreducible] lf_L29_made
theorem ck_L29_made {vs : List AV} {k : AV → Prop} {x : ((.pair tyA22 .unit) : Ty).den} {v : tzA16 × Bool × Unit} (h1 : pks (.pair tyA22 .unit) vs = some x) (h2 : L29_made x.1 = some v) (h3 : k ((unpR (.pair tyA12 (.pair .bool .unit))) v)) : callK (lf_L29_made vs) k := by
  rw [lq_L29_made]; exact callK_lift h1 h2 h3
def tt_L29_made : List (Nat × Ty) := [(3, .int .i64), (4, .bool), (5, .int .u8), (22, .sl tyA0), (23, .sl tyA5), (24, .sl tyA13), (25, .sl tyA14), (28, .pair (.int .i64) tyA33), (50, .sl tyA7), (51, .sl (.pair .bool tyA3)), (52, .sl (.int .u8)), (54, .pair (.sl tyA7) (.pair (.sl (.pair .bool tyA3)) (.pair (.sl (.int .u8)) (.pair (.sl tyA13) (.pair (.sl (.int .u8)) tyA3))))), (59, .sl (.pair (.int .i64) tyA7)), (63, .pair (.int .i64) tyA7), (67, .pair (.int .i64) (.pair tyA24 .unit)), (88, .pair (.int .i64) (.pair (.int .i64) (.pair (.sl tyA14) .unit)))]
def et_L29_made : List (Nat × Nat) := [(22, 109), (23, 115), (24, 67), (25, 69), (50, 73), (51, 111), (52, 5), (59, 63)]
theorem tt_L29_made_ok : subT tt tt_L29_made = true := by kernel_rfl
theorem et_L29_made_ok : subE et et_L29_made = true := by kernel_rfl
noncomputable def fns_L29_made : List (Nat × (List AV → Option AV)) := [(5, lf_L29_Small), (18, lf_R19_New), (19, lf_R19_Offer), (27, lf_R23_New), (28, lf_R23_Enrol), (29, lf_R06_New), (30, lf_R23_Offer), (31, lf_R06_Add), (32, lf_R19_Poison), (33, lf_L29_right)]
theorem fns_L29_made_ok : FnsOk Go.Proofs.Tryz.prog fns_L29_made := FnsOk.cons c_L29_Small (FnsOk.cons c_R19_New (FnsOk.cons c_R19_Offer (FnsOk.cons c_R23_New (FnsOk.cons c_R23_Enrol (FnsOk.cons c_R06_New (FnsOk.cons c_R23_Offer (FnsOk.cons c_R06_Add (FnsOk.cons c_R19_Poison (FnsOk.cons c_L29_right (FnsOk.nil _))))))))))
def L29_made_S1 (u0 : AV) (u1 : AV) (u2 : AV) (B4 : Blk) (x1 : (List tzA2) × (List tzA4) × List Int × Int × Int × Int × Int × Int × tzA9 × tzA6) : St :=
  ⟨[(2, u0), (4, .ro tyA0 x1.1), (7, .ro tyA5 x1.2.1), (13, u1), (14, u2), (191, .ro (.int .u8) x1.2.2.1), (192, .int .i64 x1.2.2.2.1), (193, .int .i64 x1.2.2.2.2.1)], [(2, B4), (13, .var tyA12 (.agg [.int .i64 x1.2.2.2.2.2.1, .con (.slice none 0 0), .con (.slice none 0 0), .own 162, .con (.slice none 0 0), .con (.slice none 0 0)]) false), (14, .var tyA21 (.agg [.int .i64 x1.2.2.2.2.2.2.1, .int .i64 x1.2.2.2.2.2.2.2.1, .ro tyA14 x1.2.2.2.2.2.2.2.2.1]) false), (162, .row 67 tyA13 x1.2.2.2.2.2.2.2.2.2 false)], none⟩
def L29_made_M1 : Msk := ⟨[2, 4, 7, 13, 14, 191, 192, 193], [2, 13, 14, 162], [], [], [], [], [], [], []⟩
def L29_made_S2 (u0 : AV) (u1 : AV) (u2 : AV) (u3 : AV) (u4 : AV) (u5 : AV) (u6 : AV) (u7 : AV) (u8 : AV) (u9 : AV) (u10 : AV) (u11 : AV) (u12 : AV) (B14 : Blk) (B16 : Blk) (B18 : Blk) (B20 : Blk) (B21 : Blk) (x5 : Int × Int × Int × tzA9) : St :=
  ⟨[(1, u0), (2, u1), (4, u2), (7, u3), (13, u4), (14, u5), (16, u6), (18, u7), (98, u8), (99, u9), (100, u10), (165, u11), (166, u12), (167, .int .i64 x5.1)], [(1, B14), (2, B16), (13, B18), (14, .var tyA21 (.agg [.int .i64 x5.2.1, .int .i64 x5.2.2.1, .ro tyA14 x5.2.2.2]) false), (18, B20), (162, B21)], none⟩
def L29_made_M2 : Msk := ⟨[1, 2, 4, 7, 13, 14, 16, 18, 98, 99, 100, 165, 166, 167], [1, 2, 13, 14, 18, 162], [], [], [], [], [], [], []⟩
def L29_made_S3 (u0 : AV) (u1 : AV) (u2 : AV) (u3 : AV) (B5 : Blk) (x3 : (List tzA2) × (List tzA4) × Int × tzA6 × Int × Int × (List tzA8) × (List (Bool × Int × Unit)) × List Int × tzA6 × List Int × Int × Int × Int × Int × tzA9 × tzA6) : St :=
  ⟨[(1, u0), (2, u1), (4, .ro tyA0 x3.1), (7, .ro tyA5 x3.2.1), (13, u2), (14, u3), (16, .int .i64 x3.2.2.1), (98, .ro tyA13 x3.2.2.2.1), (99, .int .i64 x3.2.2.2.2.1), (100, .int .i64 x3.2.2.2.2.2.1)], [(1, .var tyA22 (.agg [.ro tyA7 x3.2.2.2.2.2.2.1, .ro (.pair .bool tyA3) x3.2.2.2.2.2.2.2.1, .ro (.int .u8) x3.2.2.2.2.2.2.2.2.1, .ro tyA13 x3.2.2.2.2.2.2.2.2.2.1, .ro (.int .u8) x3.2.2.2.2.2.2.2.2.2.2.1, .int .i64 x3.2.2.2.2.2.2.2.2.2.2.2.1]) false), (2, B5), (13, .var tyA12 (.agg [.int .i64 x3.2.2.2.2.2.2.2.2.2.2.2.2.1, .con (.slice none 0 0), .con (.slice none 0 0), .own 162, .con (.slice none 0 0), .con (.slice none 0 0)]) false), (14, .var tyA21 (.agg [.int .i64 x3.2.2.2.2.2.2.2.2.2.2.2.2.2.1, .int .i64 x3.2.2.2.2.2.2.2.2.2.2.2.2.2.2.1, .ro tyA14 x3.2.2.2.2.2.2.2.2.2.2.2.2.2.2.2.1]) false), (162, .row 67 tyA13 x3.2.2.2.2.2.2.2.2.2.2.2.2.2.2.2.2 false)], none⟩
def L29_made_M3 : Msk := ⟨[1, 2, 4, 7, 13, 14, 16, 98, 99, 100], [1, 2, 13, 14, 162], [], [(13, [3], 162, 24)], [], [], [], [], []⟩
def L29_made_S4 (u0 : AV) (u1 : AV) (u2 : AV) (u3 : AV) (u4 : AV) (u5 : AV) (u6 : AV) (u7 : AV) (u8 : AV) (B10 : Blk) (B12 : Blk) (x7 : (List tzA4) × Int) : St :=
  ⟨[(1, u0), (2, u1), (4, u2), (7, .ro tyA5 x7.1), (10, u3), (11, u4), (63, u5), (64, u6), (65, u7), (71, u8), (72, .int .i64 x7.2)], [(1, B10), (2, B12)], none⟩
def L29_made_M4 : Msk := ⟨[1, 2, 4, 7, 10, 11, 63, 64, 65, 71, 72], [1, 2], [], [], [], [], [], [], []⟩
def L29_made_S5 (u0 : AV) (u1 : AV) (u2 : AV) (u3 : AV) (B5 : Blk) (B7 : Blk) (x6 : (List tzA4) × Int × Int) : St :=
  ⟨[(1, u0), (2, u1), (4, u2), (7, .ro tyA5 x6.1), (63, u3), (64, .int .i64 x6.2.1), (65, .int .i64 x6.2.2)], [(1, B5), (2, B7)], none⟩
def L29_made_M5 : Msk := ⟨[1, 2, 4, 7, 63, 64, 65], [1, 2], [], [], [], [], [], [], []⟩
def L29_made_Q1 (x2 : (List tzA2) × (List tzA4) × List Int × Int × Int × Int × Int × Int × tzA9 × tzA6) : St :=
  ⟨[(2, .ptr 2 []), (4, .ro tyA0 x2.1), (7, .ro tyA5 x2.2.1), (13, .ptr 13 []), (14, .ptr 14 []), (191, .ro (.int .u8) x2.2.2.1), (192, .int .i64 x2.2.2.2.1), (193, .int .i64 x2.2.2.2.2.1)], [(2, .var tyA12 (.agg [.int .i64 0, .con (.slice none 0 0), .con (.slice none 0 0), .con (.slice none 0 0), .con (.slice none 0 0), .con (.slice none 0 0)]) false), (13, .var tyA12 (.agg [.int .i64 x2.2.2.2.2.2.1, .con (.slice none 0 0), .con (.slice none 0 0), .own 162, .con (.slice none 0 0), .con (.slice none 0 0)]) false), (14, .var tyA21 (.agg [.int .i64 x2.2.2.2.2.2.2.1, .int .i64 x2.2.2.2.2.2.2.2.1, .ro tyA14 x2.2.2.2.2.2.2.2.2.1]) false), (162, .row 67 tyA13 x2.2.2.2.2.2.2.2.2.2 false)], none⟩
def L29_made_Q2 (x4 : (List tzA2) × (List tzA4) × Int × tzA6 × Int × Int × (List tzA8) × (List (Bool × Int × Unit)) × List Int × tzA6 × List Int × Int × Int × Int × Int × tzA9 × tzA6) : St :=
  ⟨[(1, .ptr 1 []), (2, .ptr 2 []), (4, .ro tyA0 x4.1), (7, .ro tyA5 x4.2.1), (13, .ptr 13 []), (14, .ptr 14 []), (16, .int .i64 x4.2.2.1), (98, .ro tyA13 x4.2.2.2.1), (99, .int .i64 x4.2.2.2.2.1), (100, .int .i64 x4.2.2.2.2.2.1)], [(1, .var tyA22 (.agg [.ro tyA7 x4.2.2.2.2.2.2.1, .ro (.pair .bool tyA3) x4.2.2.2.2.2.2.2.1, .ro (.int .u8) x4.2.2.2.2.2.2.2.2.1, .ro tyA13 x4.2.2.2.2.2.2.2.2.2.1, .ro (.int .u8) x4.2.2.2.2.2.2.2.2.2.2.1, .int .i64 x4.2.2.2.2.2.2.2.2.2.2.2.1]) false), (2, .var tyA12 (.agg [.int .i64 0, .con (.slice none 0 0), .con (.slice none 0 0), .con (.slice none 0 0), .con (.slice none 0 0), .con (.slice none 0 0)]) false), (13, .var tyA12 (.agg [.int .i64 x4.2.2.2.2.2.2.2.2.2.2.2.2.1, .con (.slice none 0 0), .con (.slice none 0 0), .own 162, .con (.slice none 0 0), .con (.slice none 0 0)]) false), (14, .var tyA21 (.agg [.int .i64 x4.2.2.2.2.2.2.2.2.2.2.2.2.2.1, .int .i64 x4.2.2.2.2.2.2.2.2.2.2.2.2.2.2.1, .ro tyA14 x4.2.2.2.2.2.2.2.2.2.2.2.2.2.2.2.1]) false), (162, .row 67 tyA13 x4.2.2.2.2.2.2.2.2.2.2.2.2.2.2.2.2 false)], none⟩
def kp_L29_made : List (Nat × List Nat) := [(0, [1, 2]), (1, [1, 2, 4, 6]), (2, [1, 2, 4, 6, 7, 9]), (3, [1, 2, 4, 7, 60]), (4, [2, 3]), (5, [1, 2, 4, 7, 63, 64, 65]), (6, [1, 2, 4, 7, 63, 64, 65, 66]), (7, [1, 2, 4, 7, 10, 11, 63, 64, 65]), (8, [1, 2, 4, 7, 10, 11, 63, 64, 65, 71, 72]), (9, [1, 2, 4, 7, 10, 11, 63, 64, 65, 71, 72, 73]), (10, [1, 2, 4, 7, 10, 11, 12, 63, 64, 65, 71, 72]), (11, [1, 2, 4, 7, 10, 11, 12, 63, 64, 65, 71, 72, 80]), (12, [1, 2, 4, 7, 10, 11, 63, 64, 65, 71, 72]), (13, [1, 2, 4, 7, 10, 11, 63, 64, 65, 71, 72]), (14, [1, 2, 4, 7, 63, 64, 65]), (15, [1, 2, 4, 7, 13]), (16, [1, 2, 4, 7, 13, 14]), (17, [1, 2, 4, 7, 13, 14, 16]), (18, [1, 2, 4, 7, 13, 14, 16, 98, 99, 100]), (19, [1, 2, 4, 7, 13, 14, 16, 98, 99, 100, 101]), (20, [1, 2, 4, 7, 13, 14, 16, 18, 98, 99, 100]), (21, [1, 2, 4, 7, 13, 14, 18, 98, 99, 100, 118]), (22, [2, 3]), (23, [1, 2, 4, 7, 13, 14, 16, 18, 98, 99, 100]), (24, [1, 2, 4, 7, 13, 14, 16, 18, 19, 21, 98, 99, 100]), (25, [1, 2, 4, 7, 13, 14, 16, 18, 19, 21, 22, 24, 98, 99, 100]), (26, [1, 2, 4, 7, 13, 14, 16, 18, 19, 22, 98, 99, 100, 155]), (27, [1, 2, 4, 7, 13, 14, 16, 18, 98, 99, 100]), (28, [1, 2, 4, 7, 13, 14, 16, 18, 98, 99, 100]), (29, [1, 2, 4, 7, 13, 14, 16, 18, 98, 99, 100, 165, 166, 167]), (30, [1, 2, 4, 7, 13, 14, 16, 18, 98, 99, 100, 165, 166, 167, 168]), (31, [1, 2, 4, 7, 13, 14, 16, 18, 26, 98, 99, 100, 165, 166, 167]), (32, [1, 2, 4, 7, 13, 14, 16, 18, 26, 98, 99, 100, 165, 166, 167, 173]), (33, [1, 2, 4, 7, 13, 14, 16, 18, 98, 99, 100, 165, 166, 167]), (34, [1, 2, 4, 7, 13, 14, 16, 18, 98, 99, 100, 165, 166, 167]), (35, [1, 2, 4, 7, 13, 14, 16, 98, 99, 100]), (36, [2, 4, 7, 13, 14, 191, 192, 193]), (37, [2, 4, 7, 13, 14, 191, 192, 193, 194]), (38, [2, 4, 7, 13, 14, 27, 28, 191, 192, 193]), (39, [2, 4, 7, 13, 14, 27, 28, 191, 192, 193, 205]), (40, [2, 4, 7, 13, 14, 191, 192, 193]), (41, [2, 4, 7, 13, 14, 191, 192, 193]), (42, [2, 7, 13, 14]), (43, [2, 13, 14]), (44, [2, 13]), (45, [2, 3]), (2000045, [2]), (3000045, []), (12000005, []), (7000005, [1, 2, 4, 7, 13, 14, 16, 98, 99, 100]), (12000009, []), (7000009, [2, 4, 7, 13, 14, 191, 192, 193]), (11000005, [1, 2, 13, 14, 162]), (13000005, []), (11000009, [2, 13, 14, 162]), (13000009, []), (4000000, [1, 2]), (4000001, [1, 2]), (4000002, [1, 2]), (4000003, [1, 2]), (4000004, [2]), (4000005, [1, 2]), (4000006, [1, 2]), (4000007, [1, 2]), (4000008, [1, 2]), (4000009, [1, 2]), (4000010, [1, 2]), (4000011, [1, 2]), (4000012, [1, 2]), (4000013, [1, 2]), (4000014, [1, 2]), (4000015, [1, 2, 13]), (4000016, [1, 2, 13, 14]), (4000017, [1, 2, 13, 14]), (4000018, [1, 2, 13, 14]), (4000019, [1, 2, 13, 14, 162]), (4000020, [1, 2, 13, 14, 18, 162]), (4000021, [1, 2, 13, 14, 18, 162]), (4000022, [2]), (4000023, [1, 2, 13, 14, 18, 162]), (4000024, [1, 2, 13, 14, 18, 162]), (4000025, [1, 2, 13, 14, 18, 162]), (4000026, [1, 2, 13, 14, 18, 162]), (4000027, [1, 2, 13, 14, 18, 162]), (4000028, [1, 2, 13, 14, 18, 162]), (4000029, [1, 2, 13, 14, 18, 162]), (4000030, [1, 2, 13, 14, 18, 162]), (4000031, [1, 2, 13, 14, 18, 26, 162]), (4000032, [1, 2, 13, 14, 18, 26, 162]), (4000033, [1, 2, 13, 14, 18, 162]), (4000034, [1, 2, 13, 14, 18, 162]), (4000035, [1, 2, 13, 14, 162]), (4000036, [2, 13, 14, 162]), (4000037, [2, 13, 14, 162]), (4000038, [2, 13, 14, 162]), (4000039, [2, 13, 14, 162]), (4000040, [2, 13, 14, 162]), (4000041, [2, 13, 14, 162]), (4000042, [2, 13, 14, 162]), (4000043, [2, 13, 14, 162]), (4000044, [2, 13, 162]), (4000045, [2, 162])]
def od_L29_made : List (Nat × Ord) := [(45, (.one 0 (.one 1 (.one 2 (.one 3 (.one 4 (.one 5 (.one 6 (.alt (.cons 7 (.one 8 .nil) .nil))))))))))]
noncomputable def E_L29_made : Env := ⟨0, 0, et_L29_made, tt_L29_made, fns_L29_made, [], od_L29_made, kp_L29_made, none, []⟩
set_option maxRecDepth 100000 in
set_option maxHeartbeats 40000000 in
theorem c_L29_made : PCon Go.Proofs.Tryz.prog 14 lf_L29_made := by
  rw [lq_L29_made]
  refine lift_conR (E := E_L29_made) (c := bodyOf Tryz.f14) (nt := 229) (rs := [.cell 2 28, .tmp 3]) (ts := [28, 4]) (EnvC.sub (off := 0) (nt := 0) (ords := od_L29_made) (keep := kp_L29_made) (yl := none) tt_ok et_ok fns_L29_made_ok (PrsOk.nil _) (ItsOk.nil _) tt_L29_made_ok et_L29_made_ok) (PrOk.of mixed_ok) Go.Proofs.Tryz.func14 rfl (by decide) rfl rfl rfl (pureR_many (e := (.pair tyA12 (.pair .bool .unit))) rfl) ?_
  intro x r hw hs
  repeat'
    (try (conv => whnf)
     first
       | (with_reducible have hs := letv_out hs)
       | (refine draw_and (by kernel_rfl) ?_)
       | (refine both_mk ?_ ?_)
       | (refine br_bool (fun h => ?_) (fun h => ?_) <;> first | have hs := cT h hs | have hs := cF h hs)
       | (refine bind_elim hs fun v hb hs => ?_; first | refine ck_L29_Small rfl hb ?_ | refine ck_R19_New rfl hb ?_ | refine ck_R19_Offer rfl hb ?_ | refine ck_R23_New rfl hb ?_ | refine ck_R23_Enrol rfl hb ?_ | refine ck_R06_New rfl hb ?_ | refine ck_R23_Offer rfl hb ?_ | refine ck_R06_Add rfl hb ?_ | refine ck_R19_Poison rfl hb ?_ | refine ck_L29_right rfl hb ?_)
       | refine chk_elim hs fun hs => ?_
       | (have hs := letv_out hs)
       | exact fin_some hs rfl
       | (intro b hb; first | have hs := nilq_elim hs b hb | have hs := nilqn_elim hs b hb)
       | exact hJ1 _ hs
       | exact hJ2 _ hs
       | exact hJ3 _ hs
       | exact hJ4 _ hs
       | exact hJ5 _ hs
       | exact hC1 _ hs
       | exact hC2 _ hs
       | (refine cut_out 1 L29_made_Q1 hs (fun Jc1 kc1 hC1 hs => ?_) (fun xc1 hs => ?_))
       | (refine cut_out 2 L29_made_Q2 hs (fun Jc2 kc2 hC2 hs => ?_) (fun xc2 hs => ?_))
       | (have hs := cT rfl hs)
       | (have hs := cF rfl hs)
       | ((with_reducible have hs : L29_made_J2 _ _ _ _ _ _ _ _ _ _ _ _ _ = some _ := hs); unfold L29_made_J2 at hs)
       | ((with_reducible have hs : loop L29_made_L1 _ = some _ := hs); refine vc_loopR (L29_made_S1 _ _ _ _) L29_made_M1 hs rfl ?_; intro J1 k1 x1 hJ1 hs)
       | ((with_reducible have hs : loop (L29_made_L2 _ _ _ _ _ _ _ _) _ = some _ := hs); refine vc_loopR (L29_made_S2 _ _ _ _ _ _ _ _ _ _ _ _ _ _ _ _ _ _) L29_made_M2 hs rfl ?_; intro J2 k2 x2 hJ2 hs)
       | ((with_reducible have hs : loop L29_made_L3 _ = some _ := hs); refine vc_loopR (L29_made_S3 _ _ _ _ _) L29_made_M3 hs rfl ?_; intro J3 k3 x3 hJ3 hs)
       | ((with_reducible have hs : loop (L29_made_L4 _ _ _ _) _ = some _ := hs); refine vc_loopR (L29_made_S4 _ _ _ _ _ _ _ _ _ _ _) L29_made_M4 hs rfl ?_; intro J4 k4 x4 hJ4 hs)
       | ((with_reducible have hs : loop (L29_made_L5 _ _) _ = some _ := hs); refine vc_loopR (L29_made_S5 _ _ _ _ _ _) L29_made_M5 hs rfl ?_; intro J5 k5 x5 hJ5 hs)
       | (refine vc_loopR (L29_made_S1 _ _ _ _) L29_made_M1 hs rfl ?_; intro J1 k1 x1 hJ1 hs)
       | (refine vc_loopR (L29_made_S2 _ _ _ _ _ _ _ _ _ _ _ _ _ _ _ _ _ _) L29_made_M2 hs rfl ?_; intro J2 k2 x2 hJ2 hs)
       | (refine vc_loopR (L29_made_S3 _ _ _ _ _) L29_made_M3 hs rfl ?_; intro J3 k3 x3 hJ3 hs)
       | (refine vc_loopR (L29_made_S4 _ _ _ _ _ _ _ _ _ _ _) L29_made_M4 hs rfl ?_; intro J4 k4 x4 hJ4 hs)
       | (refine vc_loopR (L29_made_S5 _ _ _ _ _ _) L29_made_M5 hs rfl ?_; intro J5 k5 x5 hJ5 hs)
       | exact (none_ne hs).elim)
end Go.Proofs.YtbkccpddkpclaaaGreatDoorV
