import Derived.Test.YtbkccpddkpclaaaGreatDoorBVcTab
import Derived.Test.YtbkccpddkpclaaaGreatDoorBDDReady
namespace Go.Proofs.YtbkccpddkpclaaaGreatDoorV
open Go.Proofs
set_option linter.unusedVariables false
noncomputable def lf_L18_To : List AV → Option AV := liftF (.pair tyA0 .unit) (unpack tyA0) (fun x => L18_To x.1)
theorem lq_L18_To : lf_L18_To = liftF (.pair tyA0 .unit) (unpack tyA0) (fun x => L18_To x.1) := rfl
attribute [irreducible] lf_L18_To
theorem ck_L18_To {vs : List AV} {k : AV → Prop} {x : ((.pair tyA0 .unit) : Ty).den} {v : tzA8 × Int × (List Int) × tzA25 × (List Int) × tzA25 × Unit} (h1 : pks (.pair tyA0 .unit) vs = some x) (h2 : L18_To x.1 = some v) (h3 : k ((unpack tyA0) v)) : callK (lf_L18_To vs) k := by
  rw [lq_L18_To]; exact callK_lift h1 h2 h3
def tt_L18_To : List (Nat × Ty) := [(3, .int .i64), (26, .sl (.int .i64)), (73, .pair (.int .i64) tyA14), (107, .pair .bool tyA11), (109, .pair tyA7 tyA15), (128, .pair tyA7 tyA15)]
def et_L18_To : List (Nat × Nat) := [(26, 3)]
theorem tt_L18_To_ok : subT tt tt_L18_To = true := by kernel_rfl
theorem et_L18_To_ok : subE et et_L18_To = true := by kernel_rfl
noncomputable def fns_L18_To : List (Nat × (List AV → Option AV)) := []
theorem fns_L18_To_ok : FnsOk Go.Proofs.Tryz.prog fns_L18_To := FnsOk.nil _
def kp_L18_To : List (Nat × List Nat) := [(0, [1, 2]), (1, [2]), (4000000, [1, 2]), (4000001, [2])]
def od_L18_To : List (Nat × Ord) := []
noncomputable def E_L18_To : Env := ⟨0, 0, et_L18_To, tt_L18_To, fns_L18_To, [], od_L18_To, kp_L18_To, none, []⟩
set_option maxRecDepth 100000 in
set_option maxHeartbeats 40000000 in
theorem c_L18_To : PCon Go.Proofs.Tryz.prog 51 lf_L18_To := by
  rw [lq_L18_To]
  refine lift_conR (E := E_L18_To) (c := bodyOf Tryz.f51) (nt := 16) (rs := [.cell 2 128]) (ts := [128]) (EnvC.sub (off := 0) (nt := 0) (ords := od_L18_To) (keep := kp_L18_To) (yl := none) tt_ok et_ok fns_L18_To_ok (PrsOk.nil _) (ItsOk.nil _) tt_L18_To_ok et_L18_To_ok) (PrOk.of mixed_ok) Go.Proofs.Tryz.func51 rfl (by decide) rfl rfl rfl (pureR_one (e := tyA0) rfl) ?_
  intro x r hw hs
  repeat'
    (try (conv => whnf)
     first
       | (with_reducible have hs := letv_out hs)
       | (refine draw_and (by kernel_rfl) ?_)
       | (refine both_mk ?_ ?_)
       | (refine br_bool (fun h => ?_) (fun h => ?_) <;> first | have hs := cT h hs | have hs := cF h hs)
       | refine chk_elim hs fun hs => ?_
       | (have hs := letv_out hs)
       | exact fin_some hs rfl
       | (intro b hb; first | have hs := nilq_elim hs b hb | have hs := nilqn_elim hs b hb)
       | (have hs := cT rfl hs)
       | (have hs := cF rfl hs)
       | exact (none_ne hs).elim)
end Go.Proofs.YtbkccpddkpclaaaGreatDoorV
namespace Go.Proofs.YtbkccpddkpclaaaGreatDoorV
open Go.Proofs
set_option linter.unusedVariables false
noncomputable def lf_L19_Small : List AV → Option AV := liftF (.pair (.sl tyA0) .unit) (unpack .bool) (fun x => L19_Small x.1)
theorem lq_L19_Small : lf_L19_Small = liftF (.pair (.sl tyA0) .unit) (unpack .bool) (fun x => L19_Small x.1) := rfl
attribute [irreducible] lf_L19_Small
theorem ck_L19_Small {vs : List AV} {k : AV → Prop} {x : ((.pair (.sl tyA0) .unit) : Ty).den} {v : Bool} (h1 : pks (.pair (.sl tyA0) .unit) vs = some x) (h2 : L19_Small x.1 = some v) (h3 : k ((unpack .bool) v)) : callK (lf_L19_Small vs) k := by
  rw [lq_L19_Small]; exact callK_lift h1 h2 h3
def tt_L19_Small : List (Nat × Ty) := [(3, .int .i64), (4, .bool), (22, .sl tyA0), (26, .sl (.int .i64)), (107, .pair .bool tyA11), (109, .pair tyA7 tyA15)]
def et_L19_Small : List (Nat × Nat) := [(22, 109), (26, 3)]
theorem tt_L19_Small_ok : subT tt tt_L19_Small = true := by kernel_rfl
theorem et_L19_Small_ok : subE et et_L19_Small = true := by kernel_rfl
noncomputable def fns_L19_Small : List (Nat × (List AV → Option AV)) := []
theorem fns_L19_Small_ok : FnsOk Go.Proofs.Tryz.prog fns_L19_Small := FnsOk.nil _
def L19_Small_S1 (u0 : AV) (u1 : AV) (x1 : Int) : St :=
  ⟨[(8, u0), (9, u1), (10, .int .i64 x1)], [], none⟩
def L19_Small_M1 : Msk := ⟨[8, 9, 10], [], [], [], [], [], [], [], []⟩
def kp_L19_Small : List (Nat × List Nat) := [(0, [0]), (1, [0, 7]), (2, [2]), (3, [8, 9, 10]), (4, [8, 9, 10, 11]), (5, [4, 8, 9, 10]), (6, [8, 9, 10, 37]), (7, [2]), (8, [8, 9, 10]), (9, [2]), (4000000, []), (4000001, []), (4000002, []), (4000003, []), (4000004, []), (4000005, [4]), (4000006, []), (4000007, []), (4000008, []), (4000009, [])]
def od_L19_Small : List (Nat × Ord) := []
noncomputable def E_L19_Small : Env := ⟨0, 0, et_L19_Small, tt_L19_Small, fns_L19_Small, [], od_L19_Small, kp_L19_Small, none, []⟩
set_option maxRecDepth 100000 in
set_option maxHeartbeats 40000000 in
theorem c_L19_Small : PCon Go.Proofs.Tryz.prog 16 lf_L19_Small := by
  rw [lq_L19_Small]
  refine lift_conR (E := E_L19_Small) (c := bodyOf Tryz.f16) (nt := 39) (rs := [.tmp 2]) (ts := [4]) (EnvC.sub (off := 0) (nt := 0) (ords := od_L19_Small) (keep := kp_L19_Small) (yl := none) tt_ok et_ok fns_L19_Small_ok (PrsOk.nil _) (ItsOk.nil _) tt_L19_Small_ok et_L19_Small_ok) (PrOk.of mixed_ok) Go.Proofs.Tryz.func16 rfl (by decide) rfl rfl rfl (pureR_one (e := .bool) rfl) ?_
  intro x r hw hs
  repeat'
    (try (conv => whnf)
     first
       | (with_reducible have hs := letv_out hs)
       | (refine draw_and (by kernel_rfl) ?_)
       | (refine both_mk ?_ ?_)
       | (refine br_bool (fun h => ?_) (fun h => ?_) <;> first | have hs := cT h hs | have hs := cF h hs)
       | refine chk_elim hs fun hs => ?_
       | (have hs := letv_out hs)
       | exact fin_some hs rfl
       | (intro b hb; first | have hs := nilq_elim hs b hb | have hs := nilqn_elim hs b hb)
       | exact hJ1 _ hs
       | (have hs := cT rfl hs)
       | (have hs := cF rfl hs)
       | ((with_reducible have hs : loop (L19_Small_L1 _ _) _ = some _ := hs); refine vc_loopR (L19_Small_S1 _ _) L19_Small_M1 hs rfl ?_; intro J1 k1 x1 hJ1 hs)
       | (refine vc_loopR (L19_Small_S1 _ _) L19_Small_M1 hs rfl ?_; intro J1 k1 x1 hJ1 hs)
       | exact (none_ne hs).elim)
noncomputable def lf_L19_To : List AV → Option AV := liftF (.pair (.sl tyA0) .unit) (unpack (.sl tyA0)) (fun x => L19_To x.1)
theorem lq_L19_To : lf_L19_To = liftF (.pair (.sl tyA0) .unit) (unpack (.sl tyA0)) (fun x => L19_To x.1) := rfl
attribute [irreducible] lf_L19_To
theorem ck_L19_To {vs : List AV} {k : AV → Prop} {x : ((.pair (.sl tyA0) .unit) : Ty).den} {v : List tzA2} (h1 : pks (.pair (.sl tyA0) .unit) vs = some x) (h2 : L19_To x.1 = some v) (h3 : k ((unpack (.sl tyA0)) v)) : callK (lf_L19_To vs) k := by
  rw [lq_L19_To]; exact callK_lift h1 h2 h3
def tt_L19_To : List (Nat × Ty) := [(3, .int .i64), (22, .sl tyA0), (35, .sl tyA0), (109, .pair tyA7 tyA15)]
def et_L19_To : List (Nat × Nat) := [(22, 109), (35, 128)]
theorem tt_L19_To_ok : subT tt tt_L19_To = true := by kernel_rfl
theorem et_L19_To_ok : subE et et_L19_To = true := by kernel_rfl
noncomputable def fns_L19_To : List (Nat × (List AV → Option AV)) := [(51, lf_L18_To)]
theorem fns_L19_To_ok : FnsOk Go.Proofs.Tryz.prog fns_L19_To := FnsOk.cons c_L18_To (FnsOk.nil _)
def L19_To_S1 (u0 : AV) (u1 : AV) (u2 : AV) (x1 : Int × (List tzA2)) : St :=
  ⟨[(3, u0), (6, u1), (7, u2), (8, .int .i64 x1.1)], [(16, .row 128 tyA0 x1.2 false)], none⟩
def L19_To_M1 : Msk := ⟨[3, 6, 7, 8], [16], [(3, 16, 35)], [], [], [], [], [], []⟩
def kp_L19_To : List (Nat × List Nat) := [(0, [0]), (1, [0, 3]), (2, [3, 6, 7, 8]), (3, [3, 6, 7, 8, 9]), (4, [3, 5, 6, 7, 8]), (5, [3, 6, 7, 8]), (6, [3, 6, 7, 8]), (7, [2]), (4000000, []), (4000001, []), (4000002, []), (4000003, [16]), (4000004, [5, 16]), (4000005, [16]), (4000006, [16]), (4000007, [16])]
def od_L19_To : List (Nat × Ord) := []
noncomputable def E_L19_To : Env := ⟨0, 0, et_L19_To, tt_L19_To, fns_L19_To, [], od_L19_To, kp_L19_To, none, []⟩
set_option maxRecDepth 100000 in
set_option maxHeartbeats 40000000 in
theorem c_L19_To : PCon Go.Proofs.Tryz.prog 22 lf_L19_To := by
  rw [lq_L19_To]
  refine lift_conR (E := E_L19_To) (c := bodyOf Tryz.f22) (nt := 19) (rs := [.tmp 2]) (ts := [35]) (EnvC.sub (off := 0) (nt := 0) (ords := od_L19_To) (keep := kp_L19_To) (yl := none) tt_ok et_ok fns_L19_To_ok (PrsOk.nil _) (ItsOk.nil _) tt_L19_To_ok et_L19_To_ok) (PrOk.of mixed_ok) Go.Proofs.Tryz.func22 rfl (by decide) rfl rfl rfl (pureR_one (e := (.sl tyA0)) rfl) ?_
  intro x r hw hs
  repeat'
    (try (conv => whnf)
     first
       | (with_reducible have hs := letv_out hs)
       | (refine draw_and (by kernel_rfl) ?_)
       | (refine both_mk ?_ ?_)
       | (refine br_bool (fun h => ?_) (fun h => ?_) <;> first | have hs := cT h hs | have hs := cF h hs)
       | (refine bind_elim hs fun v hb hs => ?_; first | refine ck_L18_To rfl hb ?_)
       | refine chk_elim hs fun hs => ?_
       | (have hs := letv_out hs)
       | exact fin_some hs rfl
       | (intro b hb; first | have hs := nilq_elim hs b hb | have hs := nilqn_elim hs b hb)
       | exact hJ1 _ hs
       | (have hs := cT rfl hs)
       | (have hs := cF rfl hs)
       | ((with_reducible have hs : loop (L19_To_L1 _ _) _ = some _ := hs); refine vc_loopR (L19_To_S1 _ _ _) L19_To_M1 hs rfl ?_; intro J1 k1 x1 hJ1 hs)
       | (refine vc_loopR (L19_To_S1 _ _ _) L19_To_M1 hs rfl ?_; intro J1 k1 x1 hJ1 hs)
       | exact (none_ne hs).elim)
end Go.Proofs.YtbkccpddkpclaaaGreatDoorV
namespace Go.Proofs.YtbkccpddkpclaaaGreatDoorV
open Go.Proofs
set_option linter.unusedVariables false
noncomputable def lf_R04_fine : List AV → Option AV := liftF tyA3 (unpack .bool) (fun x => R04_fine x.1)
theorem lq_R04_fine : lf_R04_fine = liftF tyA3 (unpack .bool) (fun x => R04_fine x.1) := rfl
attribute [irreducible] lf_R04_fine
theorem ck_R04_fine {vs : List AV} {k : AV → Prop} {x : (tyA3 : Ty).den} {v : Bool} (h1 : pks tyA3 vs = some x) (h2 : R04_fine x.1 = some v) (h3 : k ((unpack .bool) v)) : callK (lf_R04_fine vs) k := by
  rw [lq_R04_fine]; exact callK_lift h1 h2 h3
def tt_R04_fine : List (Nat × Ty) := [(3, .int .i64), (4, .bool)]
def et_R04_fine : List (Nat × Nat) := []
theorem tt_R04_fine_ok : subT tt tt_R04_fine = true := by kernel_rfl
theorem et_R04_fine_ok : subE et et_R04_fine = true := by kernel_rfl
noncomputable def fns_R04_fine : List (Nat × (List AV → Option AV)) := []
theorem fns_R04_fine_ok : FnsOk Go.Proofs.Tryz.prog fns_R04_fine := FnsOk.nil _
def kp_R04_fine : List (Nat × List Nat) := [(0, [0]), (1, [2]), (4000000, []), (4000001, [])]
def od_R04_fine : List (Nat × Ord) := []
noncomputable def E_R04_fine : Env := ⟨0, 0, et_R04_fine, tt_R04_fine, fns_R04_fine, [], od_R04_fine, kp_R04_fine, none, []⟩
set_option maxRecDepth 100000 in
set_option maxHeartbeats 40000000 in
theorem c_R04_fine : PCon Go.Proofs.Tryz.prog 119 lf_R04_fine := by
  rw [lq_R04_fine]
  refine lift_conR (E := E_R04_fine) (c := bodyOf Tryz.f119) (nt := 9) (rs := [.tmp 2]) (ts := [4]) (EnvC.sub (off := 0) (nt := 0) (ords := od_R04_fine) (keep := kp_R04_fine) (yl := none) tt_ok et_ok fns_R04_fine_ok (PrsOk.nil _) (ItsOk.nil _) tt_R04_fine_ok et_R04_fine_ok) (PrOk.of mixed_ok) Go.Proofs.Tryz.func119 rfl (by decide) rfl rfl rfl (pureR_one (e := .bool) rfl) ?_
  intro x r hw hs
  repeat'
    (try (conv => whnf)
     first
       | (with_reducible have hs := letv_out hs)
       | (refine draw_and (by kernel_rfl) ?_)
       | (refine both_mk ?_ ?_)
       | (refine br_bool (fun h => ?_) (fun h => ?_) <;> first | have hs := cT h hs | have hs := cF h hs)
       | refine chk_elim hs fun hs => ?_
       | (have hs := letv_out hs)
       | exact fin_some hs rfl
       | (intro b hb; first | have hs := nilq_elim hs b hb | have hs := nilqn_elim hs b hb)
       | (have hs := cT rfl hs)
       | (have hs := cF rfl hs)
       | exact (none_ne hs).elim)
noncomputable def lf_R04_Words : List AV → Option AV := liftF tyA11 (unpack (.arr 4 (.int .u64))) (fun x => R04_Words x.1)
theorem lq_R04_Words : lf_R04_Words = liftF tyA11 (unpack (.arr 4 (.int .u64))) (fun x => R04_Words x.1) := rfl
attribute [irreducible] lf_R04_Words
theorem ck_R04_Words {vs : List AV} {k : AV → Prop} {x : (tyA11 : Ty).den} {v : List Int} (h1 : pks tyA11 vs = some x) (h2 : R04_Words x.1 = some v) (h3 : k ((unpack (.arr 4 (.int .u64))) v)) : callK (lf_R04_Words vs) k := by
  rw [lq_R04_Words]; exact callK_lift h1 h2 h3
def tt_R04_Words : List (Nat × Ty) := [(3, .int .i64), (26, .sl (.int .i64)), (130, .int .u64), (131, .arr 4 (.int .u64)), (186, .int .u64)]
def et_R04_Words : List (Nat × Nat) := [(26, 3)]
theorem tt_R04_Words_ok : subT tt tt_R04_Words = true := by kernel_rfl
theorem et_R04_Words_ok : subE et et_R04_Words = true := by kernel_rfl
noncomputable def fns_R04_Words : List (Nat × (List AV → Option AV)) := [(119, lf_R04_fine)]
theorem fns_R04_Words_ok : FnsOk Go.Proofs.Tryz.prog fns_R04_Words := FnsOk.cons c_R04_fine (FnsOk.nil _)
def R04_Words_S1 (u0 : AV) (u1 : AV) (u2 : AV) (B4 : Blk) (x1 : Int × List Int) : St :=
  ⟨[(0, u0), (2, u1), (3, u2), (4, .int .i64 x1.1)], [(2, B4), (3, .var (.arr 4 (.int .u64)) (.arr 4 (.int .u64) x1.2) false)], none⟩
def R04_Words_M1 : Msk := ⟨[0, 2, 3, 4], [2, 3], [], [], [], [], [], [], []⟩
def kp_R04_Words : List (Nat × List Nat) := [(0, [0, 2]), (1, [0, 2, 3]), (2, [0, 2, 3, 4]), (3, [0, 2, 3, 4, 8]), (4, [0, 2, 3, 4]), (5, [0, 2, 3, 4, 15]), (6, [0, 2, 3, 4]), (7, [2]), (4000000, [2]), (4000001, [2, 3]), (4000002, [2, 3]), (4000003, [2, 3]), (4000004, [2, 3]), (4000005, [2, 3]), (4000006, [2, 3]), (4000007, [2])]
def od_R04_Words : List (Nat × Ord) := [(6, (.one 0 (.one 1 (.one 2 (.one 3 (.one 4 (.one 5 (.one 6 (.one 7 (.one 8 (.one 9 (.one 10 (.one 11 (.one 12 (.one 13 (.one 14 (.one 15 (.one 100016 .nil))))))))))))))))))]
noncomputable def E_R04_Words : Env := ⟨0, 0, et_R04_Words, tt_R04_Words, fns_R04_Words, [], od_R04_Words, kp_R04_Words, none, []⟩
set_option maxRecDepth 100000 in
set_option maxHeartbeats 40000000 in
theorem c_R04_Words : PCon Go.Proofs.Tryz.prog 106 lf_R04_Words := by
  rw [lq_R04_Words]
  refine lift_conR (E := E_R04_Words) (c := bodyOf Tryz.f106) (nt := 33) (rs := [.cell 2 131]) (ts := [131]) (EnvC.sub (off := 0) (nt := 0) (ords := od_R04_Words) (keep := kp_R04_Words) (yl := none) tt_ok et_ok fns_R04_Words_ok (PrsOk.nil _) (ItsOk.nil _) tt_R04_Words_ok et_R04_Words_ok) (PrOk.of mixed_ok) Go.Proofs.Tryz.func106 rfl (by decide) rfl rfl rfl (pureR_one (e := (.arr 4 (.int .u64))) rfl) ?_
  intro x r hw hs
  repeat'
    (try (conv => whnf)
     first
       | (with_reducible have hs := letv_out hs)
       | (refine draw_and (by kernel_rfl) ?_)
       | (refine both_mk ?_ ?_)
       | (refine br_bool (fun h => ?_) (fun h => ?_) <;> first | have hs := cT h hs | have hs := cF h hs)
       | (refine bind_elim hs fun v hb hs => ?_; first | refine ck_R04_fine rfl hb ?_)
       | refine chk_elim hs fun hs => ?_
       | (have hs := letv_out hs)
       | exact fin_some hs rfl
       | (intro b hb; first | have hs := nilq_elim hs b hb | have hs := nilqn_elim hs b hb)
       | exact hJ1 _ hs
       | (have hs := cT rfl hs)
       | (have hs := cF rfl hs)
       | ((with_reducible have hs : loop (R04_Words_L1 _ _) _ = some _ := hs); refine vc_loopR (R04_Words_S1 _ _ _ _) R04_Words_M1 hs rfl ?_; intro J1 k1 x1 hJ1 hs)
       | (refine vc_loopR (R04_Words_S1 _ _ _ _) R04_Words_M1 hs rfl ?_; intro J1 k1 x1 hJ1 hs)
       | exact (none_ne hs).elim)
noncomputable def lf_R04_Has : List AV → Option AV := liftF tyA27 (unpack .bool) (fun x => R04_Has x.1 x.2.1)
theorem lq_R04_Has : lf_R04_Has = liftF tyA27 (unpack .bool) (fun x => R04_Has x.1 x.2.1) := rfl
attribute [irreducible] lf_R04_Has
theorem ck_R04_Has {vs : List AV} {k : AV → Prop} {x : (tyA27 : Ty).den} {v : Bool} (h1 : pks tyA27 vs = some x) (h2 : R04_Has x.1 x.2.1 = some v) (h3 : k ((unpack .bool) v)) : callK (lf_R04_Has vs) k := by
  rw [lq_R04_Has]; exact callK_lift h1 h2 h3
def tt_R04_Has : List (Nat × Ty) := [(3, .int .i64), (4, .bool), (26, .sl (.int .i64))]
def et_R04_Has : List (Nat × Nat) := [(26, 3)]
theorem tt_R04_Has_ok : subT tt tt_R04_Has = true := by kernel_rfl
theorem et_R04_Has_ok : subE et et_R04_Has = true := by kernel_rfl
noncomputable def fns_R04_Has : List (Nat × (List AV → Option AV)) := []
theorem fns_R04_Has_ok : FnsOk Go.Proofs.Tryz.prog fns_R04_Has := FnsOk.nil _
def R04_Has_S1 (u0 : AV) (u1 : AV) (x1 : Int) : St :=
  ⟨[(0, u0), (1, u1), (5, .int .i64 x1)], [], none⟩
def R04_Has_M1 : Msk := ⟨[0, 1, 5], [], [], [], [], [], [], [], []⟩
def kp_R04_Has : List (Nat × List Nat) := [(0, [0, 1]), (1, [0, 1, 5]), (2, [0, 1, 5, 9]), (3, [0, 1, 5]), (4, [0, 1, 5, 17]), (5, [4]), (6, [4]), (4000000, []), (4000001, []), (4000002, []), (4000003, []), (4000004, []), (4000005, []), (4000006, [])]
def od_R04_Has : List (Nat × Ord) := []
noncomputable def E_R04_Has : Env := ⟨0, 0, et_R04_Has, tt_R04_Has, fns_R04_Has, [], od_R04_Has, kp_R04_Has, none, []⟩
set_option maxRecDepth 100000 in
set_option maxHeartbeats 40000000 in
theorem c_R04_Has : PCon Go.Proofs.Tryz.prog 57 lf_R04_Has := by
  rw [lq_R04_Has]
  refine lift_conR (E := E_R04_Has) (c := bodyOf Tryz.f57) (nt := 18) (rs := [.tmp 4]) (ts := [4]) (EnvC.sub (off := 0) (nt := 0) (ords := od_R04_Has) (keep := kp_R04_Has) (yl := none) tt_ok et_ok fns_R04_Has_ok (PrsOk.nil _) (ItsOk.nil _) tt_R04_Has_ok et_R04_Has_ok) (PrOk.of mixed_ok) Go.Proofs.Tryz.func57 rfl (by decide) rfl rfl rfl (pureR_one (e := .bool) rfl) ?_
  intro x r hw hs
  repeat'
    (try (conv => whnf)
     first
       | (with_reducible have hs := letv_out hs)
       | (refine draw_and (by kernel_rfl) ?_)
       | (refine both_mk ?_ ?_)
       | (refine br_bool (fun h => ?_) (fun h => ?_) <;> first | have hs := cT h hs | have hs := cF h hs)
       | refine chk_elim hs fun hs => ?_
       | (have hs := letv_out hs)
       | exact fin_some hs rfl
       | (intro b hb; first | have hs := nilq_elim hs b hb | have hs := nilqn_elim hs b hb)
       | exact hJ1 _ hs
       | (have hs := cT rfl hs)
       | (have hs := cF rfl hs)
       | ((with_reducible have hs : loop (R04_Has_L1 _ _) _ = some _ := hs); refine vc_loopR (R04_Has_S1 _ _) R04_Has_M1 hs rfl ?_; intro J1 k1 x1 hJ1 hs)
       | (refine vc_loopR (R04_Has_S1 _ _) R04_Has_M1 hs rfl ?_; intro J1 k1 x1 hJ1 hs)
       | exact (none_ne hs).elim)
noncomputable def lf_R04_Of : List AV → Option AV := liftF tyA11 (unpack (.sl (.int .i64))) (fun x => R04_Of x.1)
theorem lq_R04_Of : lf_R04_Of = liftF tyA11 (unpack (.sl (.int .i64))) (fun x => R04_Of x.1) := rfl
attribute [irreducible] lf_R04_Of
theorem ck_R04_Of {vs : List AV} {k : AV → Prop} {x : (tyA11 : Ty).den} {v : List Int} (h1 : pks tyA11 vs = some x) (h2 : R04_Of x.1 = some v) (h3 : k ((unpack (.sl (.int .i64))) v)) : callK (lf_R04_Of vs) k := by
  rw [lq_R04_Of]; exact callK_lift h1 h2 h3
def tt_R04_Of : List (Nat × Ty) := [(3, .int .i64), (26, .sl (.int .i64))]
def et_R04_Of : List (Nat × Nat) := [(26, 3)]
theorem tt_R04_Of_ok : subT tt tt_R04_Of = true := by kernel_rfl
theorem et_R04_Of_ok : subE et et_R04_Of = true := by kernel_rfl
noncomputable def fns_R04_Of : List (Nat × (List AV → Option AV)) := [(57, lf_R04_Has)]
theorem fns_R04_Of_ok : FnsOk Go.Proofs.Tryz.prog fns_R04_Of := FnsOk.cons c_R04_Has (FnsOk.nil _)
def R04_Of_S1 (u0 : AV) (u1 : AV) (x1 : Int × List Int) : St :=
  ⟨[(0, u0), (3, u1), (4, .int .i64 x1.1)], [(15, .row 3 (.int .i64) x1.2 false)], none⟩
def R04_Of_M1 : Msk := ⟨[0, 3, 4], [15], [(3, 15, 26)], [], [], [], [], [], []⟩
def kp_R04_Of : List (Nat × List Nat) := [(0, [0]), (1, [0, 3]), (2, [0, 3, 4]), (3, [0, 3, 4, 6]), (4, [0, 3, 4]), (5, [0, 3, 4, 11]), (6, [0, 3, 4]), (7, [2]), (4000000, []), (4000001, []), (4000002, []), (4000003, [15]), (4000004, [15]), (4000005, [15]), (4000006, [15]), (4000007, [15])]
def od_R04_Of : List (Nat × Ord) := []
noncomputable def E_R04_Of : Env := ⟨0, 0, et_R04_Of, tt_R04_Of, fns_R04_Of, [], od_R04_Of, kp_R04_Of, none, []⟩
set_option maxRecDepth 100000 in
set_option maxHeartbeats 40000000 in
theorem c_R04_Of : PCon Go.Proofs.Tryz.prog 107 lf_R04_Of := by
  rw [lq_R04_Of]
  refine lift_conR (E := E_R04_Of) (c := bodyOf Tryz.f107) (nt := 17) (rs := [.tmp 2]) (ts := [26]) (EnvC.sub (off := 0) (nt := 0) (ords := od_R04_Of) (keep := kp_R04_Of) (yl := none) tt_ok et_ok fns_R04_Of_ok (PrsOk.nil _) (ItsOk.nil _) tt_R04_Of_ok et_R04_Of_ok) (PrOk.of mixed_ok) Go.Proofs.Tryz.func107 rfl (by decide) rfl rfl rfl (pureR_one (e := (.sl (.int .i64))) rfl) ?_
  intro x r hw hs
  repeat'
    (try (conv => whnf)
     first
       | (with_reducible have hs := letv_out hs)
       | (refine draw_and (by kernel_rfl) ?_)
       | (refine both_mk ?_ ?_)
       | (refine br_bool (fun h => ?_) (fun h => ?_) <;> first | have hs := cT h hs | have hs := cF h hs)
       | (refine bind_elim hs fun v hb hs => ?_; first | refine ck_R04_Has rfl hb ?_)
       | refine chk_elim hs fun hs => ?_
       | (have hs := letv_out hs)
       | exact fin_some hs rfl
       | (intro b hb; first | have hs := nilq_elim hs b hb | have hs := nilqn_elim hs b hb)
       | exact hJ1 _ hs
       | (have hs := cT rfl hs)
       | (have hs := cF rfl hs)
       | ((with_reducible have hs : loop (R04_Of_L1 _) _ = some _ := hs); refine vc_loopR (R04_Of_S1 _ _) R04_Of_M1 hs rfl ?_; intro J1 k1 x1 hJ1 hs)
       | (refine vc_loopR (R04_Of_S1 _ _) R04_Of_M1 hs rfl ?_; intro J1 k1 x1 hJ1 hs)
       | exact (none_ne hs).elim)
noncomputable def lf_R04_Less : List AV → Option AV := liftF tyA17 (unpack (.sl (.int .i64))) (fun x => R04_Less x.1 x.2.1)
theorem lq_R04_Less : lf_R04_Less = liftF tyA17 (unpack (.sl (.int .i64))) (fun x => R04_Less x.1 x.2.1) := rfl
attribute [irreducible] lf_R04_Less
theorem ck_R04_Less {vs : List AV} {k : AV → Prop} {x : (tyA17 : Ty).den} {v : List Int} (h1 : pks tyA17 vs = some x) (h2 : R04_Less x.1 x.2.1 = some v) (h3 : k ((unpack (.sl (.int .i64))) v)) : callK (lf_R04_Less vs) k := by
  rw [lq_R04_Less]; exact callK_lift h1 h2 h3
def tt_R04_Less : List (Nat × Ty) := [(3, .int .i64), (4, .bool), (26, .sl (.int .i64))]
def et_R04_Less : List (Nat × Nat) := [(26, 3)]
theorem tt_R04_Less_ok : subT tt tt_R04_Less = true := by kernel_rfl
theorem et_R04_Less_ok : subE et et_R04_Less = true := by kernel_rfl
noncomputable def fns_R04_Less : List (Nat × (List AV → Option AV)) := [(57, lf_R04_Has)]
theorem fns_R04_Less_ok : FnsOk Go.Proofs.Tryz.prog fns_R04_Less := FnsOk.cons c_R04_Has (FnsOk.nil _)
def R04_Less_S1 (u0 : AV) (u1 : AV) (u2 : AV) (x1 : Int × List Int) : St :=
  ⟨[(0, u0), (1, u1), (5, u2), (6, .int .i64 x1.1)], [(26, .row 3 (.int .i64) x1.2 false)], none⟩
def R04_Less_M1 : Msk := ⟨[0, 1, 5, 6], [26], [(5, 26, 26)], [], [], [], [], [], []⟩
def kp_R04_Less : List (Nat × List Nat) := [(0, [0, 1]), (1, [0, 1, 5]), (2, [0, 1, 5, 6]), (3, [0, 1, 5, 6, 10]), (4, [0, 1, 5, 6]), (5, [0, 1, 5, 6, 19]), (6, [0, 1, 5, 6]), (7, [4]), (4000000, []), (4000001, []), (4000002, []), (4000003, [26]), (4000004, [26]), (4000005, [26]), (4000006, [26]), (4000007, [26])]
def od_R04_Less : List (Nat × Ord) := []
noncomputable def E_R04_Less : Env := ⟨0, 0, et_R04_Less, tt_R04_Less, fns_R04_Less, [], od_R04_Less, kp_R04_Less, none, []⟩
set_option maxRecDepth 100000 in
set_option maxHeartbeats 40000000 in
theorem c_R04_Less : PCon Go.Proofs.Tryz.prog 120 lf_R04_Less := by
  rw [lq_R04_Less]
  refine lift_conR (E := E_R04_Less) (c := bodyOf Tryz.f120) (nt := 28) (rs := [.tmp 4]) (ts := [26]) (EnvC.sub (off := 0) (nt := 0) (ords := od_R04_Less) (keep := kp_R04_Less) (yl := none) tt_ok et_ok fns_R04_Less_ok (PrsOk.nil _) (ItsOk.nil _) tt_R04_Less_ok et_R04_Less_ok) (PrOk.of mixed_ok) Go.Proofs.Tryz.func120 rfl (by decide) rfl rfl rfl (pureR_one (e := (.sl (.int .i64))) rfl) ?_
  intro x r hw hs
  repeat'
    (try (conv => whnf)
     first
       | (with_reducible have hs := letv_out hs)
       | (refine draw_and (by kernel_rfl) ?_)
       | (refine both_mk ?_ ?_)
       | (refine br_bool (fun h => ?_) (fun h => ?_) <;> first | have hs := cT h hs | have hs := cF h hs)
       | (refine bind_elim hs fun v hb hs => ?_; first | refine ck_R04_Has rfl hb ?_)
       | refine chk_elim hs fun hs => ?_
       | (have hs := letv_out hs)
       | exact fin_some hs rfl
       | (intro b hb; first | have hs := nilq_elim hs b hb | have hs := nilqn_elim hs b hb)
       | exact hJ1 _ hs
       | (have hs := cT rfl hs)
       | (have hs := cF rfl hs)
       | ((with_reducible have hs : loop (R04_Less_L1 _ _) _ = some _ := hs); refine vc_loopR (R04_Less_S1 _ _ _) R04_Less_M1 hs rfl ?_; intro J1 k1 x1 hJ1 hs)
       | (refine vc_loopR (R04_Less_S1 _ _ _) R04_Less_M1 hs rfl ?_; intro J1 k1 x1 hJ1 hs)
       | exact (none_ne hs).elim)
noncomputable def lf_R04_Add : List AV → Option AV := liftF tyA27 (unpack (.sl (.int .i64))) (fun x => R04_Add x.1 x.2.1)
theorem lq_R04_Add : lf_R04_Add = liftF tyA27 (unpack (.sl (.int .i64))) (fun x => R04_Add x.1 x.2.1) := rfl
attribute [irreducible] lf_R04_Add
theorem ck_R04_Add {vs : List AV} {k : AV → Prop} {x : (tyA27 : Ty).den} {v : List Int} (h1 : pks tyA27 vs = some x) (h2 : R04_Add x.1 x.2.1 = some v) (h3 : k ((unpack (.sl (.int .i64))) v)) : callK (lf_R04_Add vs) k := by
  rw [lq_R04_Add]; exact callK_lift h1 h2 h3
def tt_R04_Add : List (Nat × Ty) := [(26, .sl (.int .i64))]
def et_R04_Add : List (Nat × Nat) := [(26, 3)]
theorem tt_R04_Add_ok : subT tt tt_R04_Add = true := by kernel_rfl
theorem et_R04_Add_ok : subE et et_R04_Add = true := by kernel_rfl
noncomputable def fns_R04_Add : List (Nat × (List AV → Option AV)) := [(107, lf_R04_Of)]
theorem fns_R04_Add_ok : FnsOk Go.Proofs.Tryz.prog fns_R04_Add := FnsOk.cons c_R04_Of (FnsOk.nil _)
def kp_R04_Add : List (Nat × List Nat) := [(0, [0, 1]), (1, [4]), (4000000, []), (4000001, [])]
def od_R04_Add : List (Nat × Ord) := [(1000107, .nil)]
noncomputable def E_R04_Add : Env := ⟨0, 0, et_R04_Add, tt_R04_Add, fns_R04_Add, [], od_R04_Add, kp_R04_Add, none, []⟩
set_option maxRecDepth 100000 in
set_option maxHeartbeats 40000000 in
theorem c_R04_Add : PCon Go.Proofs.Tryz.prog 112 lf_R04_Add := by
  rw [lq_R04_Add]
  refine lift_conR (E := E_R04_Add) (c := bodyOf Tryz.f112) (nt := 11) (rs := [.tmp 4]) (ts := [26]) (EnvC.sub (off := 0) (nt := 0) (ords := od_R04_Add) (keep := kp_R04_Add) (yl := none) tt_ok et_ok fns_R04_Add_ok (PrsOk.nil _) (ItsOk.nil _) tt_R04_Add_ok et_R04_Add_ok) (PrOk.of mixed_ok) Go.Proofs.Tryz.func112 rfl (by decide) rfl rfl rfl (pureR_one (e := (.sl (.int .i64))) rfl) ?_
  intro x r hw hs
  repeat'
    (try (conv => whnf)
     first
       | (with_reducible have hs := letv_out hs)
       | (refine draw_and (by kernel_rfl) ?_)
       | (refine both_mk ?_ ?_)
       | (refine br_bool (fun h => ?_) (fun h => ?_) <;> first | have hs := cT h hs | have hs := cF h hs)
       | (refine bind_elim hs fun v hb hs => ?_; first | refine ck_R04_Of rfl hb ?_)
       | refine chk_elim hs fun hs => ?_
       | (have hs := letv_out hs)
       | exact fin_some hs rfl
       | (intro b hb; first | have hs := nilq_elim hs b hb | have hs := nilqn_elim hs b hb)
       | (have hs := cT rfl hs)
       | (have hs := cF rfl hs)
       | exact (none_ne hs).elim)
end Go.Proofs.YtbkccpddkpclaaaGreatDoorV
namespace Go.Proofs.YtbkccpddkpclaaaGreatDoorV
open Go.Proofs
set_option linter.unusedVariables false
noncomputable def lf_L21_To : List AV → Option AV := liftF (.pair tyA17 .unit) (unpack (.pair (.arr 4 (.int .u64)) (.pair (.arr 4 (.int .u64)) .unit))) (fun x => L21_To x.1)
theorem lq_L21_To : lf_L21_To = liftF (.pair tyA17 .unit) (unpack (.pair (.arr 4 (.int .u64)) (.pair (.arr 4 (.int .u64)) .unit))) (fun x => L21_To x.1) := rfl
attribute [irreducible] lf_L21_To
theorem ck_L21_To {vs : List AV} {k : AV → Prop} {x : ((.pair tyA17 .unit) : Ty).den} {v : (List Int) × (List Int) × Unit} (h1 : pks (.pair tyA17 .unit) vs = some x) (h2 : L21_To x.1 = some v) (h3 : k ((unpack (.pair (.arr 4 (.int .u64)) (.pair (.arr 4 (.int .u64)) .unit))) v)) : callK (lf_L21_To vs) k := by
  rw [lq_L21_To]; exact callK_lift h1 h2 h3
def tt_L21_To : List (Nat × Ty) := [(26, .sl (.int .i64)), (113, .pair (.sl (.int .i64)) tyA11), (134, .pair (.arr 4 (.int .u64)) (.pair (.arr 4 (.int .u64)) .unit))]
def et_L21_To : List (Nat × Nat) := [(26, 3)]
theorem tt_L21_To_ok : subT tt tt_L21_To = true := by kernel_rfl
theorem et_L21_To_ok : subE et et_L21_To = true := by kernel_rfl
noncomputable def fns_L21_To : List (Nat × (List AV → Option AV)) := [(106, lf_R04_Words)]
theorem fns_L21_To_ok : FnsOk Go.Proofs.Tryz.prog fns_L21_To := FnsOk.cons c_R04_Words (FnsOk.nil _)
def kp_L21_To : List (Nat × List Nat) := [(0, [1, 2]), (1, [2]), (4000000, [1, 2]), (4000001, [2])]
def od_L21_To : List (Nat × Ord) := [(1, (.one 0 (.one 1 (.one 3 (.one 4 (.one 2 (.one 100005 (.one 6 (.one 100007 .nil)))))))))]
noncomputable def E_L21_To : Env := ⟨0, 0, et_L21_To, tt_L21_To, fns_L21_To, [], od_L21_To, kp_L21_To, none, []⟩
set_option maxRecDepth 100000 in
set_option maxHeartbeats 40000000 in
theorem c_L21_To : PCon Go.Proofs.Tryz.prog 80 lf_L21_To := by
  rw [lq_L21_To]
  refine lift_conR (E := E_L21_To) (c := bodyOf Tryz.f80) (nt := 10) (rs := [.cell 2 134]) (ts := [134]) (EnvC.sub (off := 0) (nt := 0) (ords := od_L21_To) (keep := kp_L21_To) (yl := none) tt_ok et_ok fns_L21_To_ok (PrsOk.nil _) (ItsOk.nil _) tt_L21_To_ok et_L21_To_ok) (PrOk.of mixed_ok) Go.Proofs.Tryz.func80 rfl (by decide) rfl rfl rfl (pureR_one (e := (.pair (.arr 4 (.int .u64)) (.pair (.arr 4 (.int .u64)) .unit))) rfl) ?_
  intro x r hw hs
  repeat'
    (try (conv => whnf)
     first
       | (with_reducible have hs := letv_out hs)
       | (refine draw_and (by kernel_rfl) ?_)
       | (refine both_mk ?_ ?_)
       | (refine br_bool (fun h => ?_) (fun h => ?_) <;> first | have hs := cT h hs | have hs := cF h hs)
       | (refine bind_elim hs fun v hb hs => ?_; first | refine ck_R04_Words rfl hb ?_)
       | refine chk_elim hs fun hs => ?_
       | (have hs := letv_out hs)
       | exact fin_some hs rfl
       | (intro b hb; first | have hs := nilq_elim hs b hb | have hs := nilqn_elim hs b hb)
       | (have hs := cT rfl hs)
       | (have hs := cF rfl hs)
       | exact (none_ne hs).elim)
noncomputable def lf_L21_Plain : List AV → Option AV := liftF (.pair tyA17 .unit) (unpack tyA17) (fun x => L21_Plain x.1)
theorem lq_L21_Plain : lf_L21_Plain = liftF (.pair tyA17 .unit) (unpack tyA17) (fun x => L21_Plain x.1) := rfl
attribute [irreducible] lf_L21_Plain
theorem ck_L21_Plain {vs : List AV} {k : AV → Prop} {x : ((.pair tyA17 .unit) : Ty).den} {v : (List Int) × (List Int) × Unit} (h1 : pks (.pair tyA17 .unit) vs = some x) (h2 : L21_Plain x.1 = some v) (h3 : k ((unpack tyA17) v)) : callK (lf_L21_Plain vs) k := by
  rw [lq_L21_Plain]; exact callK_lift h1 h2 h3
def tt_L21_Plain : List (Nat × Ty) := [(26, .sl (.int .i64)), (113, .pair (.sl (.int .i64)) tyA11)]
def et_L21_Plain : List (Nat × Nat) := [(26, 3)]
theorem tt_L21_Plain_ok : subT tt tt_L21_Plain = true := by kernel_rfl
theorem et_L21_Plain_ok : subE et et_L21_Plain = true := by kernel_rfl
noncomputable def fns_L21_Plain : List (Nat × (List AV → Option AV)) := [(107, lf_R04_Of)]
theorem fns_L21_Plain_ok : FnsOk Go.Proofs.Tryz.prog fns_L21_Plain := FnsOk.cons c_R04_Of (FnsOk.nil _)
def kp_L21_Plain : List (Nat × List Nat) := [(0, [1, 2]), (1, [2]), (4000000, [1, 2]), (4000001, [2])]
def od_L21_Plain : List (Nat × Ord) := [(1, (.one 0 (.one 1 (.one 3 (.one 4 (.one 2 (.one 100005 (.one 6 (.one 100007 .nil)))))))))]
noncomputable def E_L21_Plain : Env := ⟨0, 0, et_L21_Plain, tt_L21_Plain, fns_L21_Plain, [], od_L21_Plain, kp_L21_Plain, none, []⟩
set_option maxRecDepth 100000 in
set_option maxHeartbeats 40000000 in
theorem c_L21_Plain : PCon Go.Proofs.Tryz.prog 81 lf_L21_Plain := by
  rw [lq_L21_Plain]
  refine lift_conR (E := E_L21_Plain) (c := bodyOf Tryz.f81) (nt := 10) (rs := [.cell 2 113]) (ts := [113]) (EnvC.sub (off := 0) (nt := 0) (ords := od_L21_Plain) (keep := kp_L21_Plain) (yl := none) tt_ok et_ok fns_L21_Plain_ok (PrsOk.nil _) (ItsOk.nil _) tt_L21_Plain_ok et_L21_Plain_ok) (PrOk.of mixed_ok) Go.Proofs.Tryz.func81 rfl (by decide) rfl rfl rfl (pureR_one (e := tyA17) rfl) ?_
  intro x r hw hs
  repeat'
    (try (conv => whnf)
     first
       | (with_reducible have hs := letv_out hs)
       | (refine draw_and (by kernel_rfl) ?_)
       | (refine both_mk ?_ ?_)
       | (refine br_bool (fun h => ?_) (fun h => ?_) <;> first | have hs := cT h hs | have hs := cF h hs)
       | (refine bind_elim hs fun v hb hs => ?_; first | refine ck_R04_Of rfl hb ?_)
       | refine chk_elim hs fun hs => ?_
       | (have hs := letv_out hs)
       | exact fin_some hs rfl
       | (intro b hb; first | have hs := nilq_elim hs b hb | have hs := nilqn_elim hs b hb)
       | (have hs := cT rfl hs)
       | (have hs := cF rfl hs)
       | exact (none_ne hs).elim)
end Go.Proofs.YtbkccpddkpclaaaGreatDoorV
namespace Go.Proofs.YtbkccpddkpclaaaGreatDoorV
open Go.Proofs
set_option linter.unusedVariables false
noncomputable def lf_L22_Small : List AV → Option AV := liftF (.pair tyA5 .unit) (unpack .bool) (fun x => L22_Small x.1)
theorem lq_L22_Small : lf_L22_Small = liftF (.pair tyA5 .unit) (unpack .bool) (fun x => L22_Small x.1) := rfl
attribute [irreducible] lf_L22_Small
theorem ck_L22_Small {vs : List AV} {k : AV → Prop} {x : ((.pair tyA5 .unit) : Ty).den} {v : Bool} (h1 : pks (.pair tyA5 .unit) vs = some x) (h2 : L22_Small x.1 = some v) (h3 : k ((unpack .bool) v)) : callK (lf_L22_Small vs) k := by
  rw [lq_L22_Small]; exact callK_lift h1 h2 h3
def tt_L22_Small : List (Nat × Ty) := [(3, .int .i64), (4, .bool), (26, .sl (.int .i64)), (113, .pair (.sl (.int .i64)) tyA11), (115, .pair (.pair .bool tyA3) (.pair tyA17 tyA3))]
def et_L22_Small : List (Nat × Nat) := [(26, 3)]
theorem tt_L22_Small_ok : subT tt tt_L22_Small = true := by kernel_rfl
theorem et_L22_Small_ok : subE et et_L22_Small = true := by kernel_rfl
noncomputable def fns_L22_Small : List (Nat × (List AV → Option AV)) := []
theorem fns_L22_Small_ok : FnsOk Go.Proofs.Tryz.prog fns_L22_Small := FnsOk.nil _
def kp_L22_Small : List (Nat × List Nat) := [(0, [1]), (1, [2]), (4000000, [1]), (4000001, [])]
def od_L22_Small : List (Nat × Ord) := []
noncomputable def E_L22_Small : Env := ⟨0, 0, et_L22_Small, tt_L22_Small, fns_L22_Small, [], od_L22_Small, kp_L22_Small, none, []⟩
set_option maxRecDepth 100000 in
set_option maxHeartbeats 40000000 in
theorem c_L22_Small : PCon Go.Proofs.Tryz.prog 40 lf_L22_Small := by
  rw [lq_L22_Small]
  refine lift_conR (E := E_L22_Small) (c := bodyOf Tryz.f40) (nt := 15) (rs := [.tmp 2]) (ts := [4]) (EnvC.sub (off := 0) (nt := 0) (ords := od_L22_Small) (keep := kp_L22_Small) (yl := none) tt_ok et_ok fns_L22_Small_ok (PrsOk.nil _) (ItsOk.nil _) tt_L22_Small_ok et_L22_Small_ok) (PrOk.of mixed_ok) Go.Proofs.Tryz.func40 rfl (by decide) rfl rfl rfl (pureR_one (e := .bool) rfl) ?_
  intro x r hw hs
  repeat'
    (try (conv => whnf)
     first
       | (with_reducible have hs := letv_out hs)
       | (refine draw_and (by kernel_rfl) ?_)
       | (refine both_mk ?_ ?_)
       | (refine br_bool (fun h => ?_) (fun h => ?_) <;> first | have hs := cT h hs | have hs := cF h hs)
       | refine chk_elim hs fun hs => ?_
       | (have hs := letv_out hs)
       | exact fin_some hs rfl
       | (intro b hb; first | have hs := nilq_elim hs b hb | have hs := nilqn_elim hs b hb)
       | (have hs := cT rfl hs)
       | (have hs := cF rfl hs)
       | exact (none_ne hs).elim)
noncomputable def lf_L22_To : List AV → Option AV := liftF (.pair tyA5 .unit) (unpack (.pair (.pair .bool tyA3) (.pair (.pair (.arr 4 (.int .u64)) (.pair (.arr 4 (.int .u64)) .unit)) tyA3))) (fun x => L22_To x.1)
theorem lq_L22_To : lf_L22_To = liftF (.pair tyA5 .unit) (unpack (.pair (.pair .bool tyA3) (.pair (.pair (.arr 4 (.int .u64)) (.pair (.arr 4 (.int .u64)) .unit)) tyA3))) (fun x => L22_To x.1) := rfl
attribute [irreducible] lf_L22_To
theorem ck_L22_To {vs : List AV} {k : AV → Prop} {x : ((.pair tyA5 .unit) : Ty).den} {v : (Bool × Int × Unit) × tzA30 × Int × Unit} (h1 : pks (.pair tyA5 .unit) vs = some x) (h2 : L22_To x.1 = some v) (h3 : k ((unpack (.pair (.pair .bool tyA3) (.pair (.pair (.arr 4 (.int .u64)) (.pair (.arr 4 (.int .u64)) .unit)) tyA3))) v)) : callK (lf_L22_To vs) k := by
  rw [lq_L22_To]; exact callK_lift h1 h2 h3
def tt_L22_To : List (Nat × Ty) := [(3, .int .i64), (111, .pair .bool tyA3), (113, .pair (.sl (.int .i64)) tyA11), (115, .pair (.pair .bool tyA3) (.pair tyA17 tyA3)), (136, .pair (.pair .bool tyA3) (.pair (.pair (.arr 4 (.int .u64)) (.pair (.arr 4 (.int .u64)) .unit)) tyA3))]
def et_L22_To : List (Nat × Nat) := []
theorem tt_L22_To_ok : subT tt tt_L22_To = true := by kernel_rfl
theorem et_L22_To_ok : subE et et_L22_To = true := by kernel_rfl
noncomputable def fns_L22_To : List (Nat × (List AV → Option AV)) := [(80, lf_L21_To), (81, lf_L21_Plain)]
theorem fns_L22_To_ok : FnsOk Go.Proofs.Tryz.prog fns_L22_To := FnsOk.cons c_L21_To (FnsOk.cons c_L21_Plain (FnsOk.nil _))
def kp_L22_To : List (Nat × List Nat) := [(0, [1, 2]), (1, [2]), (4000000, [1, 2]), (4000001, [2])]
def od_L22_To : List (Nat × Ord) := [(1, (.one 0 (.one 1 (.one 2 (.one 3 (.one 6 (.one 7 (.one 4 (.one 5 (.one 8 (.one 100009 .nil)))))))))))]
noncomputable def E_L22_To : Env := ⟨0, 0, et_L22_To, tt_L22_To, fns_L22_To, [], od_L22_To, kp_L22_To, none, []⟩
set_option maxRecDepth 100000 in
set_option maxHeartbeats 40000000 in
theorem c_L22_To : PCon Go.Proofs.Tryz.prog 52 lf_L22_To := by
  rw [lq_L22_To]
  refine lift_conR (E := E_L22_To) (c := bodyOf Tryz.f52) (nt := 12) (rs := [.cell 2 136]) (ts := [136]) (EnvC.sub (off := 0) (nt := 0) (ords := od_L22_To) (keep := kp_L22_To) (yl := none) tt_ok et_ok fns_L22_To_ok (PrsOk.nil _) (ItsOk.nil _) tt_L22_To_ok et_L22_To_ok) (PrOk.of mixed_ok) Go.Proofs.Tryz.func52 rfl (by decide) rfl rfl rfl (pureR_one (e := (.pair (.pair .bool tyA3) (.pair (.pair (.arr 4 (.int .u64)) (.pair (.arr 4 (.int .u64)) .unit)) tyA3))) rfl) ?_
  intro x r hw hs
  repeat'
    (try (conv => whnf)
     first
       | (with_reducible have hs := letv_out hs)
       | (refine draw_and (by kernel_rfl) ?_)
       | (refine both_mk ?_ ?_)
       | (refine br_bool (fun h => ?_) (fun h => ?_) <;> first | have hs := cT h hs | have hs := cF h hs)
       | (refine bind_elim hs fun v hb hs => ?_; first | refine ck_L21_To rfl hb ?_ | refine ck_L21_Plain rfl hb ?_)
       | refine chk_elim hs fun hs => ?_
       | (have hs := letv_out hs)
       | exact fin_some hs rfl
       | (intro b hb; first | have hs := nilq_elim hs b hb | have hs := nilqn_elim hs b hb)
       | (have hs := cT rfl hs)
       | (have hs := cF rfl hs)
       | exact (none_ne hs).elim)
noncomputable def lf_L22_Plain : List AV → Option AV := liftF (.pair tyA5 .unit) (unpack tyA5) (fun x => L22_Plain x.1)
theorem lq_L22_Plain : lf_L22_Plain = liftF (.pair tyA5 .unit) (unpack tyA5) (fun x => L22_Plain x.1) := rfl
attribute [irreducible] lf_L22_Plain
theorem ck_L22_Plain {vs : List AV} {k : AV → Prop} {x : ((.pair tyA5 .unit) : Ty).den} {v : (Bool × Int × Unit) × tzA30 × Int × Unit} (h1 : pks (.pair tyA5 .unit) vs = some x) (h2 : L22_Plain x.1 = some v) (h3 : k ((unpack tyA5) v)) : callK (lf_L22_Plain vs) k := by
  rw [lq_L22_Plain]; exact callK_lift h1 h2 h3
def tt_L22_Plain : List (Nat × Ty) := [(3, .int .i64), (111, .pair .bool tyA3), (113, .pair (.sl (.int .i64)) tyA11), (115, .pair (.pair .bool tyA3) (.pair tyA17 tyA3))]
def et_L22_Plain : List (Nat × Nat) := []
theorem tt_L22_Plain_ok : subT tt tt_L22_Plain = true := by kernel_rfl
theorem et_L22_Plain_ok : subE et et_L22_Plain = true := by kernel_rfl
noncomputable def fns_L22_Plain : List (Nat × (List AV → Option AV)) := [(81, lf_L21_Plain)]
theorem fns_L22_Plain_ok : FnsOk Go.Proofs.Tryz.prog fns_L22_Plain := FnsOk.cons c_L21_Plain (FnsOk.nil _)
def kp_L22_Plain : List (Nat × List Nat) := [(0, [1, 2]), (1, [2]), (4000000, [1, 2]), (4000001, [2])]
def od_L22_Plain : List (Nat × Ord) := [(1, (.one 0 (.one 1 (.one 2 (.one 3 (.one 5 (.one 6 (.one 4 (.one 7 (.one 100008 .nil))))))))))]
noncomputable def E_L22_Plain : Env := ⟨0, 0, et_L22_Plain, tt_L22_Plain, fns_L22_Plain, [], od_L22_Plain, kp_L22_Plain, none, []⟩
set_option maxRecDepth 100000 in
set_option maxHeartbeats 40000000 in
theorem c_L22_Plain : PCon Go.Proofs.Tryz.prog 53 lf_L22_Plain := by
  rw [lq_L22_Plain]
  refine lift_conR (E := E_L22_Plain) (c := bodyOf Tryz.f53) (nt := 11) (rs := [.cell 2 115]) (ts := [115]) (EnvC.sub (off := 0) (nt := 0) (ords := od_L22_Plain) (keep := kp_L22_Plain) (yl := none) tt_ok et_ok fns_L22_Plain_ok (PrsOk.nil _) (ItsOk.nil _) tt_L22_Plain_ok et_L22_Plain_ok) (PrOk.of mixed_ok) Go.Proofs.Tryz.func53 rfl (by decide) rfl rfl rfl (pureR_one (e := tyA5) rfl) ?_
  intro x r hw hs
  repeat'
    (try (conv => whnf)
     first
       | (with_reducible have hs := letv_out hs)
       | (refine draw_and (by kernel_rfl) ?_)
       | (refine both_mk ?_ ?_)
       | (refine br_bool (fun h => ?_) (fun h => ?_) <;> first | have hs := cT h hs | have hs := cF h hs)
       | (refine bind_elim hs fun v hb hs => ?_; first | refine ck_L21_Plain rfl hb ?_)
       | refine chk_elim hs fun hs => ?_
       | (have hs := letv_out hs)
       | exact fin_some hs rfl
       | (intro b hb; first | have hs := nilq_elim hs b hb | have hs := nilqn_elim hs b hb)
       | (have hs := cT rfl hs)
       | (have hs := cF rfl hs)
       | exact (none_ne hs).elim)
end Go.Proofs.YtbkccpddkpclaaaGreatDoorV
namespace Go.Proofs.YtbkccpddkpclaaaGreatDoorV
open Go.Proofs
set_option linter.unusedVariables false
noncomputable def lf_L23_Small : List AV → Option AV := liftF (.pair (.sl tyA5) .unit) (unpack .bool) (fun x => L23_Small x.1)
theorem lq_L23_Small : lf_L23_Small = liftF (.pair (.sl tyA5) .unit) (unpack .bool) (fun x => L23_Small x.1) := rfl
attribute [irreducible] lf_L23_Small
theorem ck_L23_Small {vs : List AV} {k : AV → Prop} {x : ((.pair (.sl tyA5) .unit) : Ty).den} {v : Bool} (h1 : pks (.pair (.sl tyA5) .unit) vs = some x) (h2 : L23_Small x.1 = some v) (h3 : k ((unpack .bool) v)) : callK (lf_L23_Small vs) k := by
  rw [lq_L23_Small]; exact callK_lift h1 h2 h3
def tt_L23_Small : List (Nat × Ty) := [(3, .int .i64), (4, .bool), (23, .sl tyA5), (115, .pair (.pair .bool tyA3) (.pair tyA17 tyA3))]
def et_L23_Small : List (Nat × Nat) := [(23, 115)]
theorem tt_L23_Small_ok : subT tt tt_L23_Small = true := by kernel_rfl
theorem et_L23_Small_ok : subE et et_L23_Small = true := by kernel_rfl
noncomputable def fns_L23_Small : List (Nat × (List AV → Option AV)) := [(40, lf_L22_Small)]
theorem fns_L23_Small_ok : FnsOk Go.Proofs.Tryz.prog fns_L23_Small := FnsOk.cons c_L22_Small (FnsOk.nil _)
def L23_Small_S1 (u0 : AV) (u1 : AV) (u2 : AV) (x1 : Int) : St :=
  ⟨[(0, u0), (5, u1), (6, u2), (7, .int .i64 x1)], [], none⟩
def L23_Small_M1 : Msk := ⟨[0, 5, 6, 7], [], [], [], [], [], [], [], []⟩
def kp_L23_Small : List (Nat × List Nat) := [(0, [0]), (1, [0, 5, 6, 7]), (2, [0, 5, 6, 7, 8]), (3, [0, 4, 5, 6, 7]), (4, [0, 5, 6, 7, 13]), (5, [2]), (6, [0, 5, 6, 7]), (7, [2]), (4000000, []), (4000001, []), (4000002, []), (4000003, [4]), (4000004, []), (4000005, []), (4000006, []), (4000007, [])]
def od_L23_Small : List (Nat × Ord) := []
noncomputable def E_L23_Small : Env := ⟨0, 0, et_L23_Small, tt_L23_Small, fns_L23_Small, [], od_L23_Small, kp_L23_Small, none, []⟩
set_option maxRecDepth 100000 in
set_option maxHeartbeats 40000000 in
theorem c_L23_Small : PCon Go.Proofs.Tryz.prog 17 lf_L23_Small := by
  rw [lq_L23_Small]
  refine lift_conR (E := E_L23_Small) (c := bodyOf Tryz.f17) (nt := 18) (rs := [.tmp 2]) (ts := [4]) (EnvC.sub (off := 0) (nt := 0) (ords := od_L23_Small) (keep := kp_L23_Small) (yl := none) tt_ok et_ok fns_L23_Small_ok (PrsOk.nil _) (ItsOk.nil _) tt_L23_Small_ok et_L23_Small_ok) (PrOk.of mixed_ok) Go.Proofs.Tryz.func17 rfl (by decide) rfl rfl rfl (pureR_one (e := .bool) rfl) ?_
  intro x r hw hs
  repeat'
    (try (conv => whnf)
     first
       | (with_reducible have hs := letv_out hs)
       | (refine draw_and (by kernel_rfl) ?_)
       | (refine both_mk ?_ ?_)
       | (refine br_bool (fun h => ?_) (fun h => ?_) <;> first | have hs := cT h hs | have hs := cF h hs)
       | (refine bind_elim hs fun v hb hs => ?_; first | refine ck_L22_Small rfl hb ?_)
       | refine chk_elim hs fun hs => ?_
       | (have hs := letv_out hs)
       | exact fin_some hs rfl
       | (intro b hb; first | have hs := nilq_elim hs b hb | have hs := nilqn_elim hs b hb)
       | exact hJ1 _ hs
       | (have hs := cT rfl hs)
       | (have hs := cF rfl hs)
       | ((with_reducible have hs : loop (L23_Small_L1 _ _) _ = some _ := hs); refine vc_loopR (L23_Small_S1 _ _ _) L23_Small_M1 hs rfl ?_; intro J1 k1 x1 hJ1 hs)
       | (refine vc_loopR (L23_Small_S1 _ _ _) L23_Small_M1 hs rfl ?_; intro J1 k1 x1 hJ1 hs)
       | exact (none_ne hs).elim)
noncomputable def lf_L23_To : List AV → Option AV := liftF (.pair (.sl tyA5) .unit) (unpack (.sl (.pair (.pair .bool tyA3) (.pair (.pair (.arr 4 (.int .u64)) (.pair (.arr 4 (.int .u64)) .unit)) tyA3)))) (fun x => L23_To x.1)
theorem lq_L23_To : lf_L23_To = liftF (.pair (.sl tyA5) .unit) (unpack (.sl (.pair (.pair .bool tyA3) (.pair (.pair (.arr 4 (.int .u64)) (.pair (.arr 4 (.int .u64)) .unit)) tyA3)))) (fun x => L23_To x.1) := rfl
attribute [irreducible] lf_L23_To
theorem ck_L23_To {vs : List AV} {k : AV → Prop} {x : ((.pair (.sl tyA5) .unit) : Ty).den} {v : List tzA4} (h1 : pks (.pair (.sl tyA5) .unit) vs = some x) (h2 : L23_To x.1 = some v) (h3 : k ((unpack (.sl (.pair (.pair .bool tyA3) (.pair (.pair (.arr 4 (.int .u64)) (.pair (.arr 4 (.int .u64)) .unit)) tyA3)))) v)) : callK (lf_L23_To vs) k := by
  rw [lq_L23_To]; exact callK_lift h1 h2 h3
def tt_L23_To : List (Nat × Ty) := [(3, .int .i64), (23, .sl tyA5), (36, .sl (.pair (.pair .bool tyA3) (.pair (.pair (.arr 4 (.int .u64)) (.pair (.arr 4 (.int .u64)) .unit)) tyA3))), (115, .pair (.pair .bool tyA3) (.pair tyA17 tyA3))]
def et_L23_To : List (Nat × Nat) := [(23, 115), (36, 136)]
theorem tt_L23_To_ok : subT tt tt_L23_To = true := by kernel_rfl
theorem et_L23_To_ok : subE et et_L23_To = true := by kernel_rfl
noncomputable def fns_L23_To : List (Nat × (List AV → Option AV)) := [(52, lf_L22_To)]
theorem fns_L23_To_ok : FnsOk Go.Proofs.Tryz.prog fns_L23_To := FnsOk.cons c_L22_To (FnsOk.nil _)
def L23_To_S1 (u0 : AV) (u1 : AV) (u2 : AV) (x1 : Int × (List tzA4)) : St :=
  ⟨[(3, u0), (6, u1), (7, u2), (8, .int .i64 x1.1)], [(16, .row 136 (.pair (.pair .bool tyA3) (.pair (.pair (.arr 4 (.int .u64)) (.pair (.arr 4 (.int .u64)) .unit)) tyA3)) x1.2 false)], none⟩
def L23_To_M1 : Msk := ⟨[3, 6, 7, 8], [16], [(3, 16, 36)], [], [], [], [], [], []⟩
def kp_L23_To : List (Nat × List Nat) := [(0, [0]), (1, [0, 3]), (2, [3, 6, 7, 8]), (3, [3, 6, 7, 8, 9]), (4, [3, 5, 6, 7, 8]), (5, [3, 6, 7, 8]), (6, [3, 6, 7, 8]), (7, [2]), (4000000, []), (4000001, []), (4000002, []), (4000003, [16]), (4000004, [5, 16]), (4000005, [16]), (4000006, [16]), (4000007, [16])]
def od_L23_To : List (Nat × Ord) := []
noncomputable def E_L23_To : Env := ⟨0, 0, et_L23_To, tt_L23_To, fns_L23_To, [], od_L23_To, kp_L23_To, none, []⟩
set_option maxRecDepth 100000 in
set_option maxHeartbeats 40000000 in
theorem c_L23_To : PCon Go.Proofs.Tryz.prog 23 lf_L23_To := by
  rw [lq_L23_To]
  refine lift_conR (E := E_L23_To) (c := bodyOf Tryz.f23) (nt := 19) (rs := [.tmp 2]) (ts := [36]) (EnvC.sub (off := 0) (nt := 0) (ords := od_L23_To) (keep := kp_L23_To) (yl := none) tt_ok et_ok fns_L23_To_ok (PrsOk.nil _) (ItsOk.nil _) tt_L23_To_ok et_L23_To_ok) (PrOk.of mixed_ok) Go.Proofs.Tryz.func23 rfl (by decide) rfl rfl rfl (pureR_one (e := (.sl (.pair (.pair .bool tyA3) (.pair (.pair (.arr 4 (.int .u64)) (.pair (.arr 4 (.int .u64)) .unit)) tyA3)))) rfl) ?_
  intro x r hw hs
  repeat'
    (try (conv => whnf)
     first
       | (with_reducible have hs := letv_out hs)
       | (refine draw_and (by kernel_rfl) ?_)
       | (refine both_mk ?_ ?_)
       | (refine br_bool (fun h => ?_) (fun h => ?_) <;> first | have hs := cT h hs | have hs := cF h hs)
       | (refine bind_elim hs fun v hb hs => ?_; first | refine ck_L22_To rfl hb ?_)
       | refine chk_elim hs fun hs => ?_
       | (have hs := letv_out hs)
       | exact fin_some hs rfl
       | (intro b hb; first | have hs := nilq_elim hs b hb | have hs := nilqn_elim hs b hb)
       | exact hJ1 _ hs
       | (have hs := cT rfl hs)
       | (have hs := cF rfl hs)
       | ((with_reducible have hs : loop (L23_To_L1 _ _) _ = some _ := hs); refine vc_loopR (L23_To_S1 _ _ _) L23_To_M1 hs rfl ?_; intro J1 k1 x1 hJ1 hs)
       | (refine vc_loopR (L23_To_S1 _ _ _) L23_To_M1 hs rfl ?_; intro J1 k1 x1 hJ1 hs)
       | exact (none_ne hs).elim)
noncomputable def lf_L23_Plain : List AV → Option AV := liftF (.pair (.sl tyA5) .unit) (unpack (.sl tyA5)) (fun x => L23_Plain x.1)
theorem lq_L23_Plain : lf_L23_Plain = liftF (.pair (.sl tyA5) .unit) (unpack (.sl tyA5)) (fun x => L23_Plain x.1) := rfl
attribute [irreducible] lf_L23_Plain
theorem ck_L23_Plain {vs : List AV} {k : AV → Prop} {x : ((.pair (.sl tyA5) .unit) : Ty).den} {v : List tzA4} (h1 : pks (.pair (.sl tyA5) .unit) vs = some x) (h2 : L23_Plain x.1 = some v) (h3 : k ((unpack (.sl tyA5)) v)) : callK (lf_L23_Plain vs) k := by
  rw [lq_L23_Plain]; exact callK_lift h1 h2 h3
def tt_L23_Plain : List (Nat × Ty) := [(3, .int .i64), (23, .sl tyA5), (115, .pair (.pair .bool tyA3) (.pair tyA17 tyA3))]
def et_L23_Plain : List (Nat × Nat) := [(23, 115)]
theorem tt_L23_Plain_ok : subT tt tt_L23_Plain = true := by kernel_rfl
theorem et_L23_Plain_ok : subE et et_L23_Plain = true := by kernel_rfl
noncomputable def fns_L23_Plain : List (Nat × (List AV → Option AV)) := [(53, lf_L22_Plain)]
theorem fns_L23_Plain_ok : FnsOk Go.Proofs.Tryz.prog fns_L23_Plain := FnsOk.cons c_L22_Plain (FnsOk.nil _)
def L23_Plain_S1 (u0 : AV) (u1 : AV) (u2 : AV) (x1 : Int × (List tzA4)) : St :=
  ⟨[(3, u0), (6, u1), (7, u2), (8, .int .i64 x1.1)], [(16, .row 115 tyA5 x1.2 false)], none⟩
def L23_Plain_M1 : Msk := ⟨[3, 6, 7, 8], [16], [(3, 16, 23)], [], [], [], [], [], []⟩
def kp_L23_Plain : List (Nat × List Nat) := [(0, [0]), (1, [0, 3]), (2, [3, 6, 7, 8]), (3, [3, 6, 7, 8, 9]), (4, [3, 5, 6, 7, 8]), (5, [3, 6, 7, 8]), (6, [3, 6, 7, 8]), (7, [2]), (4000000, []), (4000001, []), (4000002, []), (4000003, [16]), (4000004, [5, 16]), (4000005, [16]), (4000006, [16]), (4000007, [16])]
def od_L23_Plain : List (Nat × Ord) := []
noncomputable def E_L23_Plain : Env := ⟨0, 0, et_L23_Plain, tt_L23_Plain, fns_L23_Plain, [], od_L23_Plain, kp_L23_Plain, none, []⟩
set_option maxRecDepth 100000 in
set_option maxHeartbeats 40000000 in
theorem c_L23_Plain : PCon Go.Proofs.Tryz.prog 24 lf_L23_Plain := by
  rw [lq_L23_Plain]
  refine lift_conR (E := E_L23_Plain) (c := bodyOf Tryz.f24) (nt := 19) (rs := [.tmp 2]) (ts := [23]) (EnvC.sub (off := 0) (nt := 0) (ords := od_L23_Plain) (keep := kp_L23_Plain) (yl := none) tt_ok et_ok fns_L23_Plain_ok (PrsOk.nil _) (ItsOk.nil _) tt_L23_Plain_ok et_L23_Plain_ok) (PrOk.of mixed_ok) Go.Proofs.Tryz.func24 rfl (by decide) rfl rfl rfl (pureR_one (e := (.sl tyA5)) rfl) ?_
  intro x r hw hs
  repeat'
    (try (conv => whnf)
     first
       | (with_reducible have hs := letv_out hs)
       | (refine draw_and (by kernel_rfl) ?_)
       | (refine both_mk ?_ ?_)
       | (refine br_bool (fun h => ?_) (fun h => ?_) <;> first | have hs := cT h hs | have hs := cF h hs)
       | (refine bind_elim hs fun v hb hs => ?_; first | refine ck_L22_Plain rfl hb ?_)
       | refine chk_elim hs fun hs => ?_
       | (have hs := letv_out hs)
       | exact fin_some hs rfl
       | (intro b hb; first | have hs := nilq_elim hs b hb | have hs := nilqn_elim hs b hb)
       | exact hJ1 _ hs
       | (have hs := cT rfl hs)
       | (have hs := cF rfl hs)
       | ((with_reducible have hs : loop (L23_Plain_L1 _ _) _ = some _ := hs); refine vc_loopR (L23_Plain_S1 _ _ _) L23_Plain_M1 hs rfl ?_; intro J1 k1 x1 hJ1 hs)
       | (refine vc_loopR (L23_Plain_S1 _ _ _) L23_Plain_M1 hs rfl ?_; intro J1 k1 x1 hJ1 hs)
       | exact (none_ne hs).elim)
end Go.Proofs.YtbkccpddkpclaaaGreatDoorV
namespace Go.Proofs.YtbkccpddkpclaaaGreatDoorV
open Go.Proofs
set_option linter.unusedVariables false
noncomputable def lf_R02_Same : List AV → Option AV := liftF tyA17 (unpack .bool) (fun x => R02_Same x.1 x.2.1)
theorem lq_R02_Same : lf_R02_Same = liftF tyA17 (unpack .bool) (fun x => R02_Same x.1 x.2.1) := rfl
attribute [irreducible] lf_R02_Same
theorem ck_R02_Same {vs : List AV} {k : AV → Prop} {x : (tyA17 : Ty).den} {v : Bool} (h1 : pks tyA17 vs = some x) (h2 : R02_Same x.1 x.2.1 = some v) (h3 : k ((unpack .bool) v)) : callK (lf_R02_Same vs) k := by
  rw [lq_R02_Same]; exact callK_lift h1 h2 h3
def tt_R02_Same : List (Nat × Ty) := [(3, .int .i64), (4, .bool), (26, .sl (.int .i64))]
def et_R02_Same : List (Nat × Nat) := [(26, 3)]
theorem tt_R02_Same_ok : subT tt tt_R02_Same = true := by kernel_rfl
theorem et_R02_Same_ok : subE et et_R02_Same = true := by kernel_rfl
noncomputable def fns_R02_Same : List (Nat × (List AV → Option AV)) := []
theorem fns_R02_Same_ok : FnsOk Go.Proofs.Tryz.prog fns_R02_Same := FnsOk.nil _
def R02_Same_S1 (u0 : AV) (u1 : AV) (x1 : Int) : St :=
  ⟨[(0, u0), (1, u1), (5, .int .i64 x1)], [], none⟩
def R02_Same_M1 : Msk := ⟨[0, 1, 5], [], [], [], [], [], [], [], []⟩
def kp_R02_Same : List (Nat × List Nat) := [(0, [0, 1]), (1, [0, 1, 10]), (2, [4]), (3, [0, 1, 5]), (4, [0, 1, 5, 14]), (5, [0, 1, 5]), (6, [0, 1, 5, 25]), (7, [4]), (8, [4]), (4000000, []), (4000001, []), (4000002, []), (4000003, []), (4000004, []), (4000005, []), (4000006, []), (4000007, []), (4000008, [])]
def od_R02_Same : List (Nat × Ord) := [(6, (.one 0 (.one 1 (.one 2 (.one 3 (.one 4 (.one 5 (.one 6 (.one 7 (.one 8 .nil))))))))))]
noncomputable def E_R02_Same : Env := ⟨0, 0, et_R02_Same, tt_R02_Same, fns_R02_Same, [], od_R02_Same, kp_R02_Same, none, []⟩
set_option maxRecDepth 100000 in
set_option maxHeartbeats 40000000 in
theorem c_R02_Same : PCon Go.Proofs.Tryz.prog 11 lf_R02_Same := by
  rw [lq_R02_Same]
  refine lift_conR (E := E_R02_Same) (c := bodyOf Tryz.f11) (nt := 26) (rs := [.tmp 4]) (ts := [4]) (EnvC.sub (off := 0) (nt := 0) (ords := od_R02_Same) (keep := kp_R02_Same) (yl := none) tt_ok et_ok fns_R02_Same_ok (PrsOk.nil _) (ItsOk.nil _) tt_R02_Same_ok et_R02_Same_ok) (PrOk.of mixed_ok) Go.Proofs.Tryz.func11 rfl (by decide) rfl rfl rfl (pureR_one (e := .bool) rfl) ?_
  intro x r hw hs
  repeat'
    (try (conv => whnf)
     first
       | (with_reducible have hs := letv_out hs)
       | (refine draw_and (by kernel_rfl) ?_)
       | (refine both_mk ?_ ?_)
       | (refine br_bool (fun h => ?_) (fun h => ?_) <;> first | have hs := cT h hs | have hs := cF h hs)
       | refine chk_elim hs fun hs => ?_
       | (have hs := letv_out hs)
       | exact fin_some hs rfl
       | (intro b hb; first | have hs := nilq_elim hs b hb | have hs := nilqn_elim hs b hb)
       | exact hJ1 _ hs
       | (have hs := cT rfl hs)
       | (have hs := cF rfl hs)
       | ((with_reducible have hs : loop (R02_Same_L1 _ _) _ = some _ := hs); refine vc_loopR (R02_Same_S1 _ _) R02_Same_M1 hs rfl ?_; intro J1 k1 x1 hJ1 hs)
       | (refine vc_loopR (R02_Same_S1 _ _) R02_Same_M1 hs rfl ?_; intro J1 k1 x1 hJ1 hs)
       | exact (none_ne hs).elim)
end Go.Proofs.YtbkccpddkpclaaaGreatDoorV
namespace Go.Proofs.YtbkccpddkpclaaaGreatDoorV
open Go.Proofs
set_option linter.unusedVariables false
noncomputable def lf_R05_Fine : List AV → Option AV := liftF tyA3 (unpack .bool) (fun x => R05_Fine x.1)
theorem lq_R05_Fine : lf_R05_Fine = liftF tyA3 (unpack .bool) (fun x => R05_Fine x.1) := rfl
attribute [irreducible] lf_R05_Fine
theorem ck_R05_Fine {vs : List AV} {k : AV → Prop} {x : (tyA3 : Ty).den} {v : Bool} (h1 : pks tyA3 vs = some x) (h2 : R05_Fine x.1 = some v) (h3 : k ((unpack .bool) v)) : callK (lf_R05_Fine vs) k := by
  rw [lq_R05_Fine]; exact callK_lift h1 h2 h3
def tt_R05_Fine : List (Nat × Ty) := [(3, .int .i64), (4, .bool)]
def et_R05_Fine : List (Nat × Nat) := []
theorem tt_R05_Fine_ok : subT tt tt_R05_Fine = true := by kernel_rfl
theorem et_R05_Fine_ok : subE et et_R05_Fine = true := by kernel_rfl
noncomputable def fns_R05_Fine : List (Nat × (List AV → Option AV)) := []
theorem fns_R05_Fine_ok : FnsOk Go.Proofs.Tryz.prog fns_R05_Fine := FnsOk.nil _
def kp_R05_Fine : List (Nat × List Nat) := [(0, [0]), (1, [2]), (4000000, []), (4000001, [])]
def od_R05_Fine : List (Nat × Ord) := []
noncomputable def E_R05_Fine : Env := ⟨0, 0, et_R05_Fine, tt_R05_Fine, fns_R05_Fine, [], od_R05_Fine, kp_R05_Fine, none, []⟩
set_option maxRecDepth 100000 in
set_option maxHeartbeats 40000000 in
theorem c_R05_Fine : PCon Go.Proofs.Tryz.prog 64 lf_R05_Fine := by
  rw [lq_R05_Fine]
  refine lift_conR (E := E_R05_Fine) (c := bodyOf Tryz.f64) (nt := 9) (rs := [.tmp 2]) (ts := [4]) (EnvC.sub (off := 0) (nt := 0) (ords := od_R05_Fine) (keep := kp_R05_Fine) (yl := none) tt_ok et_ok fns_R05_Fine_ok (PrsOk.nil _) (ItsOk.nil _) tt_R05_Fine_ok et_R05_Fine_ok) (PrOk.of mixed_ok) Go.Proofs.Tryz.func64 rfl (by decide) rfl rfl rfl (pureR_one (e := .bool) rfl) ?_
  intro x r hw hs
  repeat'
    (try (conv => whnf)
     first
       | (with_reducible have hs := letv_out hs)
       | (refine draw_and (by kernel_rfl) ?_)
       | (refine both_mk ?_ ?_)
       | (refine br_bool (fun h => ?_) (fun h => ?_) <;> first | have hs := cT h hs | have hs := cF h hs)
       | refine chk_elim hs fun hs => ?_
       | (have hs := letv_out hs)
       | exact fin_some hs rfl
       | (intro b hb; first | have hs := nilq_elim hs b hb | have hs := nilqn_elim hs b hb)
       | (have hs := cT rfl hs)
       | (have hs := cF rfl hs)
       | exact (none_ne hs).elim)
noncomputable def lf_R05_Due : List AV → Option AV := liftF (.pair (.int .i64) tyA3) (unpack .bool) (fun x => R05_Due x.1 x.2.1)
attribute [irreducible] lf_R05_Due
end Go.Proofs.YtbkccpddkpclaaaGreatDoorV
namespace Go.Proofs.YtbkccpddkpclaaaGreatDoorV
open Go.Proofs
set_option linter.unusedVariables false
noncomputable def lf_R06_New : List AV → Option AV := liftF tyA3 (unpR (.pair tyA21 tyA3)) (fun x => R06_New x.1)
theorem lq_R06_New : lf_R06_New = liftF tyA3 (unpR (.pair tyA21 tyA3)) (fun x => R06_New x.1) := rfl
attribute [irreducible] lf_R06_New
theorem ck_R06_New {vs : List AV} {k : AV → Prop} {x : (tyA3 : Ty).den} {v : (Int × Int × tzA9 × Unit) × Int × Unit} (h1 : pks tyA3 vs = some x) (h2 : R06_New x.1 = some v) (h3 : k ((unpR (.pair tyA21 tyA3)) v)) : callK (lf_R06_New vs) k := by
  rw [lq_R06_New]; exact callK_lift h1 h2 h3
def tt_R06_New : List (Nat × Ty) := [(3, .int .i64), (88, .pair (.int .i64) (.pair (.int .i64) (.pair (.sl tyA14) .unit)))]
def et_R06_New : List (Nat × Nat) := []
theorem tt_R06_New_ok : subT tt tt_R06_New = true := by kernel_rfl
theorem et_R06_New_ok : subE et et_R06_New = true := by kernel_rfl
noncomputable def fns_R06_New : List (Nat × (List AV → Option AV)) := []
theorem fns_R06_New_ok : FnsOk Go.Proofs.Tryz.prog fns_R06_New := FnsOk.nil _
def kp_R06_New : List (Nat × List Nat) := [(0, [0, 2]), (1, [0, 2, 9]), (2, [2, 3]), (3, [2, 3]), (4000000, [2]), (4000001, [2]), (4000002, [2]), (4000003, [2])]
def od_R06_New : List (Nat × Ord) := []
noncomputable def E_R06_New : Env := ⟨0, 0, et_R06_New, tt_R06_New, fns_R06_New, [], od_R06_New, kp_R06_New, none, []⟩
set_option maxRecDepth 100000 in
set_option maxHeartbeats 40000000 in
theorem c_R06_New : PCon Go.Proofs.Tryz.prog 29 lf_R06_New := by
  rw [lq_R06_New]
  refine lift_conR (E := E_R06_New) (c := bodyOf Tryz.f29) (nt := 13) (rs := [.cell 2 88, .tmp 3]) (ts := [88, 3]) (EnvC.sub (off := 0) (nt := 0) (ords := od_R06_New) (keep := kp_R06_New) (yl := none) tt_ok et_ok fns_R06_New_ok (PrsOk.nil _) (ItsOk.nil _) tt_R06_New_ok et_R06_New_ok) (PrOk.of mixed_ok) Go.Proofs.Tryz.func29 rfl (by decide) rfl rfl rfl (pureR_many (e := (.pair tyA21 tyA3)) rfl) ?_
  intro x r hw hs
  repeat'
    (try (conv => whnf)
     first
       | (with_reducible have hs := letv_out hs)
       | (refine draw_and (by kernel_rfl) ?_)
       | (refine both_mk ?_ ?_)
       | (refine br_bool (fun h => ?_) (fun h => ?_) <;> first | have hs := cT h hs | have hs := cF h hs)
       | refine chk_elim hs fun hs => ?_
       | (have hs := letv_out hs)
       | exact fin_some hs rfl
       | (intro b hb; first | have hs := nilq_elim hs b hb | have hs := nilqn_elim hs b hb)
       | (have hs := cT rfl hs)
       | (have hs := cF rfl hs)
       | exact (none_ne hs).elim)
noncomputable def lf_R06_Add : List AV → Option AV := liftF (.pair tyA21 (.pair (.int .i64) tyA3)) (unpR (.pair tyA21 (.pair (.int .i64) tyA3))) (fun x => R06_Add x.1 x.2.1 x.2.2.1)
theorem lq_R06_Add : lf_R06_Add = liftF (.pair tyA21 (.pair (.int .i64) tyA3)) (unpR (.pair tyA21 (.pair (.int .i64) tyA3))) (fun x => R06_Add x.1 x.2.1 x.2.2.1) := rfl
attribute [irreducible] lf_R06_Add
theorem ck_R06_Add {vs : List AV} {k : AV → Prop} {x : ((.pair tyA21 (.pair (.int .i64) tyA3)) : Ty).den} {v : (Int × Int × tzA9 × Unit) × Int × Int × Unit} (h1 : pks (.pair tyA21 (.pair (.int .i64) tyA3)) vs = some x) (h2 : R06_Add x.1 x.2.1 x.2.2.1 = some v) (h3 : k ((unpR (.pair tyA21 (.pair (.int .i64) tyA3))) v)) : callK (lf_R06_Add vs) k := by
  rw [lq_R06_Add]; exact callK_lift h1 h2 h3
def tt_R06_Add : List (Nat × Ty) := [(3, .int .i64), (4, .bool), (25, .sl tyA14), (69, .pair (.int .i64) (.pair (.int .i64) tyA3)), (88, .pair (.int .i64) (.pair (.int .i64) (.pair (.sl tyA14) .unit)))]
def et_R06_Add : List (Nat × Nat) := [(25, 69)]
theorem tt_R06_Add_ok : subT tt tt_R06_Add = true := by kernel_rfl
theorem et_R06_Add_ok : subE et et_R06_Add = true := by kernel_rfl
noncomputable def fns_R06_Add : List (Nat × (List AV → Option AV)) := [(64, lf_R05_Fine)]
theorem fns_R06_Add_ok : FnsOk Go.Proofs.Tryz.prog fns_R06_Add := FnsOk.cons c_R05_Fine (FnsOk.nil _)
def R06_Add_S1 (u0 : AV) (u1 : AV) (u2 : AV) (u3 : AV) (B5 : Blk) (B7 : Blk) (x1 : Int) : St :=
  ⟨[(1, u0), (2, u1), (3, u2), (6, u3), (9, .int .i64 x1)], [(3, B5), (6, B7)], none⟩
def R06_Add_M1 : Msk := ⟨[1, 2, 3, 6, 9], [3, 6], [], [], [], [], [], [], []⟩
def kp_R06_Add : List (Nat × List Nat) := [(0, [1, 2, 3, 6]), (1, [1, 2, 3, 6, 13]), (2, [6, 7, 8]), (3, [1, 2, 3, 6, 20]), (4, [6, 7, 8]), (5, [1, 2, 3, 6]), (6, [1, 2, 3, 6, 9]), (7, [1, 2, 3, 6, 9, 40]), (8, [1, 2, 3, 6, 9]), (9, [1, 2, 3, 6, 9, 10]), (10, [3, 6, 9, 10]), (11, [3, 6, 10]), (12, [3, 6]), (13, [6, 7, 8]), (2000013, [6]), (3000013, []), (4000000, [3, 6]), (4000001, [3, 6]), (4000002, [6]), (4000003, [3, 6]), (4000004, [6]), (4000005, [3, 6]), (4000006, [3, 6]), (4000007, [3, 6]), (4000008, [3, 6]), (4000009, [3, 6, 47]), (4000010, [3, 6, 47]), (4000011, [3, 6, 47]), (4000012, [3, 6, 47]), (4000013, [6, 47])]
def od_R06_Add : List (Nat × Ord) := [(13, (.one 0 (.one 1 (.one 2 (.alt (.cons 3 (.one 4 (.one 5 .nil)) .nil))))))]
noncomputable def E_R06_Add : Env := ⟨0, 0, et_R06_Add, tt_R06_Add, fns_R06_Add, [], od_R06_Add, kp_R06_Add, none, []⟩
set_option maxRecDepth 100000 in
set_option maxHeartbeats 40000000 in
theorem c_R06_Add : PCon Go.Proofs.Tryz.prog 31 lf_R06_Add := by
  rw [lq_R06_Add]
  refine lift_conR (E := E_R06_Add) (c := bodyOf Tryz.f31) (nt := 67) (rs := [.cell 6 88, .tmp 7, .tmp 8]) (ts := [88, 3, 3]) (EnvC.sub (off := 0) (nt := 0) (ords := od_R06_Add) (keep := kp_R06_Add) (yl := none) tt_ok et_ok fns_R06_Add_ok (PrsOk.nil _) (ItsOk.nil _) tt_R06_Add_ok et_R06_Add_ok) (PrOk.of mixed_ok) Go.Proofs.Tryz.func31 rfl (by decide) rfl rfl rfl (pureR_many (e := (.pair tyA21 (.pair (.int .i64) tyA3))) rfl) ?_
  intro x r hw hs
  repeat'
    (try (conv => whnf)
     first
       | (with_reducible have hs := letv_out hs)
       | (refine draw_and (by kernel_rfl) ?_)
       | (refine both_mk ?_ ?_)
       | (refine br_bool (fun h => ?_) (fun h => ?_) <;> first | have hs := cT h hs | have hs := cF h hs)
       | (refine bind_elim hs fun v hb hs => ?_; first | refine ck_R05_Fine rfl hb ?_)
       | refine chk_elim hs fun hs => ?_
       | (have hs := letv_out hs)
       | exact fin_some hs rfl
       | (intro b hb; first | have hs := nilq_elim hs b hb | have hs := nilqn_elim hs b hb)
       | exact hJ1 _ hs
       | (have hs := cT rfl hs)
       | (have hs := cF rfl hs)
       | ((with_reducible have hs : loop (R06_Add_L1 _ _ _ _) _ = some _ := hs); refine vc_loopR (R06_Add_S1 _ _ _ _ _ _) R06_Add_M1 hs rfl ?_; intro J1 k1 x1 hJ1 hs)
       | (refine vc_loopR (R06_Add_S1 _ _ _ _ _ _) R06_Add_M1 hs rfl ?_; intro J1 k1 x1 hJ1 hs)
       | exact (none_ne hs).elim)
end Go.Proofs.YtbkccpddkpclaaaGreatDoorV
namespace Go.Proofs.YtbkccpddkpclaaaGreatDoorV
open Go.Proofs
set_option linter.unusedVariables false
noncomputable def lf_R17_At : List AV → Option AV := liftF tyA27 (unpack (.int .i64)) (fun x => R17_At x.1 x.2.1)
theorem lq_R17_At : lf_R17_At = liftF tyA27 (unpack (.int .i64)) (fun x => R17_At x.1 x.2.1) := rfl
attribute [irreducible] lf_R17_At
theorem ck_R17_At {vs : List AV} {k : AV → Prop} {x : (tyA27 : Ty).den} {v : Int} (h1 : pks tyA27 vs = some x) (h2 : R17_At x.1 x.2.1 = some v) (h3 : k ((unpack (.int .i64)) v)) : callK (lf_R17_At vs) k := by
  rw [lq_R17_At]; exact callK_lift h1 h2 h3
def tt_R17_At : List (Nat × Ty) := [(3, .int .i64), (26, .sl (.int .i64))]
def et_R17_At : List (Nat × Nat) := [(26, 3)]
theorem tt_R17_At_ok : subT tt tt_R17_At = true := by kernel_rfl
theorem et_R17_At_ok : subE et et_R17_At = true := by kernel_rfl
noncomputable def fns_R17_At : List (Nat × (List AV → Option AV)) := []
theorem fns_R17_At_ok : FnsOk Go.Proofs.Tryz.prog fns_R17_At := FnsOk.nil _
def R17_At_S1 (u0 : AV) (u1 : AV) (x1 : Int) : St :=
  ⟨[(0, u0), (1, u1), (5, .int .i64 x1)], [], none⟩
def R17_At_M1 : Msk := ⟨[0, 1, 5], [], [], [], [], [], [], [], []⟩
def kp_R17_At : List (Nat × List Nat) := [(0, [0, 1]), (1, [0, 1, 5]), (2, [0, 1, 5, 9]), (3, [0, 1, 5]), (4, [0, 1, 5, 17]), (5, [4]), (6, [4]), (4000000, []), (4000001, []), (4000002, []), (4000003, []), (4000004, []), (4000005, []), (4000006, [])]
def od_R17_At : List (Nat × Ord) := []
noncomputable def E_R17_At : Env := ⟨0, 0, et_R17_At, tt_R17_At, fns_R17_At, [], od_R17_At, kp_R17_At, none, []⟩
set_option maxRecDepth 100000 in
set_option maxHeartbeats 40000000 in
theorem c_R17_At : PCon Go.Proofs.Tryz.prog 101 lf_R17_At := by
  rw [lq_R17_At]
  refine lift_conR (E := E_R17_At) (c := bodyOf Tryz.f101) (nt := 19) (rs := [.tmp 4]) (ts := [3]) (EnvC.sub (off := 0) (nt := 0) (ords := od_R17_At) (keep := kp_R17_At) (yl := none) tt_ok et_ok fns_R17_At_ok (PrsOk.nil _) (ItsOk.nil _) tt_R17_At_ok et_R17_At_ok) (PrOk.of mixed_ok) Go.Proofs.Tryz.func101 rfl (by decide) rfl rfl rfl (pureR_one (e := (.int .i64)) rfl) ?_
  intro x r hw hs
  repeat'
    (try (conv => whnf)
     first
       | (with_reducible have hs := letv_out hs)
       | (refine draw_and (by kernel_rfl) ?_)
       | (refine both_mk ?_ ?_)
       | (refine br_bool (fun h => ?_) (fun h => ?_) <;> first | have hs := cT h hs | have hs := cF h hs)
       | refine chk_elim hs fun hs => ?_
       | (have hs := letv_out hs)
       | exact fin_some hs rfl
       | (intro b hb; first | have hs := nilq_elim hs b hb | have hs := nilqn_elim hs b hb)
       | exact hJ1 _ hs
       | (have hs := cT rfl hs)
       | (have hs := cF rfl hs)
       | ((with_reducible have hs : loop (R17_At_L1 _ _) _ = some _ := hs); refine vc_loopR (R17_At_S1 _ _) R17_At_M1 hs rfl ?_; intro J1 k1 x1 hJ1 hs)
       | (refine vc_loopR (R17_At_S1 _ _) R17_At_M1 hs rfl ?_; intro J1 k1 x1 hJ1 hs)
       | exact (none_ne hs).elim)
noncomputable def lf_R17_Fine : List AV → Option AV := liftF (.pair (.pair .bool tyA11) .unit) (unpack .bool) (fun x => R17_Fine x.1)
theorem lq_R17_Fine : lf_R17_Fine = liftF (.pair (.pair .bool tyA11) .unit) (unpack .bool) (fun x => R17_Fine x.1) := rfl
attribute [irreducible] lf_R17_Fine
theorem ck_R17_Fine {vs : List AV} {k : AV → Prop} {x : ((.pair (.pair .bool tyA11) .unit) : Ty).den} {v : Bool} (h1 : pks (.pair (.pair .bool tyA11) .unit) vs = some x) (h2 : R17_Fine x.1 = some v) (h3 : k ((unpack .bool) v)) : callK (lf_R17_Fine vs) k := by
  rw [lq_R17_Fine]; exact callK_lift h1 h2 h3
def tt_R17_Fine : List (Nat × Ty) := [(3, .int .i64), (4, .bool), (26, .sl (.int .i64)), (107, .pair .bool tyA11)]
def et_R17_Fine : List (Nat × Nat) := [(26, 3)]
theorem tt_R17_Fine_ok : subT tt tt_R17_Fine = true := by kernel_rfl
theorem et_R17_Fine_ok : subE et et_R17_Fine = true := by kernel_rfl
noncomputable def fns_R17_Fine : List (Nat × (List AV → Option AV)) := [(101, lf_R17_At)]
theorem fns_R17_Fine_ok : FnsOk Go.Proofs.Tryz.prog fns_R17_Fine := FnsOk.cons c_R17_At (FnsOk.nil _)
def R17_Fine_S1 (u0 : AV) (B2 : Blk) (x1 : Int) : St :=
  ⟨[(1, u0), (3, .int .i64 x1)], [(1, B2)], none⟩
def R17_Fine_M1 : Msk := ⟨[1, 3], [1], [], [], [], [], [], [], []⟩
def kp_R17_Fine : List (Nat × List Nat) := [(0, [1]), (1, [1, 3]), (2, [1, 3, 8]), (3, [1, 3]), (4, [1, 3, 36]), (5, [2]), (6, [2]), (4000000, [1]), (4000001, [1]), (4000002, [1]), (4000003, [1]), (4000004, [1]), (4000005, []), (4000006, [])]
def od_R17_Fine : List (Nat × Ord) := [(4, (.one 0 (.one 1 (.one 2 (.one 3 (.one 4 (.one 5 (.one 6 (.one 7 (.one 8 (.one 9 (.one 10 (.one 11 (.one 12 (.one 13 (.one 14 (.one 15 (.one 16 (.one 17 (.one 18 (.one 19 (.one 20 (.one 21 (.one 23 (.one 22 (.one 24 (.one 25 .nil)))))))))))))))))))))))))))]
noncomputable def E_R17_Fine : Env := ⟨0, 0, et_R17_Fine, tt_R17_Fine, fns_R17_Fine, [], od_R17_Fine, kp_R17_Fine, none, []⟩
set_option maxRecDepth 100000 in
set_option maxHeartbeats 40000000 in
theorem c_R17_Fine : PCon Go.Proofs.Tryz.prog 100 lf_R17_Fine := by
  rw [lq_R17_Fine]
  refine lift_conR (E := E_R17_Fine) (c := bodyOf Tryz.f100) (nt := 45) (rs := [.tmp 2]) (ts := [4]) (EnvC.sub (off := 0) (nt := 0) (ords := od_R17_Fine) (keep := kp_R17_Fine) (yl := none) tt_ok et_ok fns_R17_Fine_ok (PrsOk.nil _) (ItsOk.nil _) tt_R17_Fine_ok et_R17_Fine_ok) (PrOk.of mixed_ok) Go.Proofs.Tryz.func100 rfl (by decide) rfl rfl rfl (pureR_one (e := .bool) rfl) ?_
  intro x r hw hs
  repeat'
    (try (conv => whnf)
     first
       | (with_reducible have hs := letv_out hs)
       | (refine draw_and (by kernel_rfl) ?_)
       | (refine both_mk ?_ ?_)
       | (refine br_bool (fun h => ?_) (fun h => ?_) <;> first | have hs := cT h hs | have hs := cF h hs)
       | (refine bind_elim hs fun v hb hs => ?_; first | refine ck_R17_At rfl hb ?_)
       | refine chk_elim hs fun hs => ?_
       | (have hs := letv_out hs)
       | exact fin_some hs rfl
       | (intro b hb; first | have hs := nilq_elim hs b hb | have hs := nilqn_elim hs b hb)
       | exact hJ1 _ hs
       | (have hs := cT rfl hs)
       | (have hs := cF rfl hs)
       | ((with_reducible have hs : loop (R17_Fine_L1 _) _ = some _ := hs); refine vc_loopR (R17_Fine_S1 _ _) R17_Fine_M1 hs rfl ?_; intro J1 k1 x1 hJ1 hs)
       | (refine vc_loopR (R17_Fine_S1 _ _) R17_Fine_M1 hs rfl ?_; intro J1 k1 x1 hJ1 hs)
       | exact (none_ne hs).elim)
noncomputable def lf_R17_Join : List AV → Option AV := liftF (.pair (.pair .bool tyA11) tyA3) (unpR (.pair (.pair .bool tyA11) tyA3)) (fun x => R17_Join x.1 x.2.1)
theorem lq_R17_Join : lf_R17_Join = liftF (.pair (.pair .bool tyA11) tyA3) (unpR (.pair (.pair .bool tyA11) tyA3)) (fun x => R17_Join x.1 x.2.1) := rfl
attribute [irreducible] lf_R17_Join
theorem ck_R17_Join {vs : List AV} {k : AV → Prop} {x : ((.pair (.pair .bool tyA11) tyA3) : Ty).den} {v : tzA25 × Int × Unit} (h1 : pks (.pair (.pair .bool tyA11) tyA3) vs = some x) (h2 : R17_Join x.1 x.2.1 = some v) (h3 : k ((unpR (.pair (.pair .bool tyA11) tyA3)) v)) : callK (lf_R17_Join vs) k := by
  rw [lq_R17_Join]; exact callK_lift h1 h2 h3
def tt_R17_Join : List (Nat × Ty) := [(3, .int .i64), (4, .bool), (26, .sl (.int .i64)), (107, .pair .bool tyA11)]
def et_R17_Join : List (Nat × Nat) := [(26, 3)]
theorem tt_R17_Join_ok : subT tt tt_R17_Join = true := by kernel_rfl
theorem et_R17_Join_ok : subE et et_R17_Join = true := by kernel_rfl
noncomputable def fns_R17_Join : List (Nat × (List AV → Option AV)) := [(100, lf_R17_Fine), (101, lf_R17_At)]
theorem fns_R17_Join_ok : FnsOk Go.Proofs.Tryz.prog fns_R17_Join := FnsOk.cons c_R17_Fine (FnsOk.cons c_R17_At (FnsOk.nil _))
def kp_R17_Join : List (Nat × List Nat) := [(0, [1, 2, 4]), (1, [1, 2, 4, 8]), (2, [4, 5]), (3, [1, 2, 4, 15]), (4, [4, 5]), (5, [1, 2, 4, 21]), (6, [4, 5]), (7, [1, 2, 4, 31]), (8, [4, 5]), (9, [2, 4]), (10, [4, 5]), (4000000, [2, 4]), (4000001, [2, 4]), (4000002, [4]), (4000003, [2, 4]), (4000004, [4]), (4000005, [2, 4]), (4000006, [4]), (4000007, [2, 4]), (4000008, [4]), (4000009, [2, 4, 35]), (4000010, [4, 35])]
def od_R17_Join : List (Nat × Ord) := []
noncomputable def E_R17_Join : Env := ⟨0, 0, et_R17_Join, tt_R17_Join, fns_R17_Join, [], od_R17_Join, kp_R17_Join, none, []⟩
set_option maxRecDepth 100000 in
set_option maxHeartbeats 40000000 in
theorem c_R17_Join : PCon Go.Proofs.Tryz.prog 72 lf_R17_Join := by
  rw [lq_R17_Join]
  refine lift_conR (E := E_R17_Join) (c := bodyOf Tryz.f72) (nt := 41) (rs := [.cell 4 107, .tmp 5]) (ts := [107, 3]) (EnvC.sub (off := 0) (nt := 0) (ords := od_R17_Join) (keep := kp_R17_Join) (yl := none) tt_ok et_ok fns_R17_Join_ok (PrsOk.nil _) (ItsOk.nil _) tt_R17_Join_ok et_R17_Join_ok) (PrOk.of mixed_ok) Go.Proofs.Tryz.func72 rfl (by decide) rfl rfl rfl (pureR_many (e := (.pair (.pair .bool tyA11) tyA3)) rfl) ?_
  intro x r hw hs
  repeat'
    (try (conv => whnf)
     first
       | (with_reducible have hs := letv_out hs)
       | (refine draw_and (by kernel_rfl) ?_)
       | (refine both_mk ?_ ?_)
       | (refine br_bool (fun h => ?_) (fun h => ?_) <;> first | have hs := cT h hs | have hs := cF h hs)
       | (refine bind_elim hs fun v hb hs => ?_; first | refine ck_R17_Fine rfl hb ?_ | refine ck_R17_At rfl hb ?_)
       | refine chk_elim hs fun hs => ?_
       | (have hs := letv_out hs)
       | exact fin_some hs rfl
       | (intro b hb; first | have hs := nilq_elim hs b hb | have hs := nilqn_elim hs b hb)
       | (have hs := cT rfl hs)
       | (have hs := cF rfl hs)
       | exact (none_ne hs).elim)
end Go.Proofs.YtbkccpddkpclaaaGreatDoorV
namespace Go.Proofs.YtbkccpddkpclaaaGreatDoorV
open Go.Proofs
set_option linter.unusedVariables false
noncomputable def lf_poison_Fine : List AV → Option AV := liftF tyA3 (unpack .bool) (fun x => poison_Fine x.1)
theorem lq_poison_Fine : lf_poison_Fine = liftF tyA3 (unpack .bool) (fun x => poison_Fine x.1) := rfl
attribute [irreducible] lf_poison_Fine
theorem ck_poison_Fine {vs : List AV} {k : AV → Prop} {x : (tyA3 : Ty).den} {v : Bool} (h1 : pks tyA3 vs = some x) (h2 : poison_Fine x.1 = some v) (h3 : k ((unpack .bool) v)) : callK (lf_poison_Fine vs) k := by
  rw [lq_poison_Fine]; exact callK_lift h1 h2 h3
def tt_poison_Fine : List (Nat × Ty) := [(3, .int .i64), (4, .bool)]
def et_poison_Fine : List (Nat × Nat) := []
theorem tt_poison_Fine_ok : subT tt tt_poison_Fine = true := by kernel_rfl
theorem et_poison_Fine_ok : subE et et_poison_Fine = true := by kernel_rfl
noncomputable def fns_poison_Fine : List (Nat × (List AV → Option AV)) := []
theorem fns_poison_Fine_ok : FnsOk Go.Proofs.Tryz.prog fns_poison_Fine := FnsOk.nil _
def kp_poison_Fine : List (Nat × List Nat) := [(0, [0]), (1, [2]), (4000000, []), (4000001, [])]
def od_poison_Fine : List (Nat × Ord) := []
noncomputable def E_poison_Fine : Env := ⟨0, 0, et_poison_Fine, tt_poison_Fine, fns_poison_Fine, [], od_poison_Fine, kp_poison_Fine, none, []⟩
set_option maxRecDepth 100000 in
set_option maxHeartbeats 40000000 in
theorem c_poison_Fine : PCon Go.Proofs.Tryz.prog 102 lf_poison_Fine := by
  rw [lq_poison_Fine]
  refine lift_conR (E := E_poison_Fine) (c := bodyOf Tryz.f102) (nt := 9) (rs := [.tmp 2]) (ts := [4]) (EnvC.sub (off := 0) (nt := 0) (ords := od_poison_Fine) (keep := kp_poison_Fine) (yl := none) tt_ok et_ok fns_poison_Fine_ok (PrsOk.nil _) (ItsOk.nil _) tt_poison_Fine_ok et_poison_Fine_ok) (PrOk.of mixed_ok) Go.Proofs.Tryz.func102 rfl (by decide) rfl rfl rfl (pureR_one (e := .bool) rfl) ?_
  intro x r hw hs
  repeat'
    (try (conv => whnf)
     first
       | (with_reducible have hs := letv_out hs)
       | (refine draw_and (by kernel_rfl) ?_)
       | (refine both_mk ?_ ?_)
       | (refine br_bool (fun h => ?_) (fun h => ?_) <;> first | have hs := cT h hs | have hs := cF h hs)
       | refine chk_elim hs fun hs => ?_
       | (have hs := letv_out hs)
       | exact fin_some hs rfl
       | (intro b hb; first | have hs := nilq_elim hs b hb | have hs := nilqn_elim hs b hb)
       | (have hs := cT rfl hs)
       | (have hs := cF rfl hs)
       | exact (none_ne hs).elim)
noncomputable def lf_word_Fine : List AV → Option AV := liftF tyA3 (unpack .bool) (fun x => word_Fine x.1)
theorem lq_word_Fine : lf_word_Fine = liftF tyA3 (unpack .bool) (fun x => word_Fine x.1) := rfl
attribute [irreducible] lf_word_Fine
theorem ck_word_Fine {vs : List AV} {k : AV → Prop} {x : (tyA3 : Ty).den} {v : Bool} (h1 : pks tyA3 vs = some x) (h2 : word_Fine x.1 = some v) (h3 : k ((unpack .bool) v)) : callK (lf_word_Fine vs) k := by
  rw [lq_word_Fine]; exact callK_lift h1 h2 h3
def tt_word_Fine : List (Nat × Ty) := [(3, .int .i64), (4, .bool)]
def et_word_Fine : List (Nat × Nat) := []
theorem tt_word_Fine_ok : subT tt tt_word_Fine = true := by kernel_rfl
theorem et_word_Fine_ok : subE et et_word_Fine = true := by kernel_rfl
noncomputable def fns_word_Fine : List (Nat × (List AV → Option AV)) := []
theorem fns_word_Fine_ok : FnsOk Go.Proofs.Tryz.prog fns_word_Fine := FnsOk.nil _
def kp_word_Fine : List (Nat × List Nat) := [(0, [0]), (1, [2]), (4000000, []), (4000001, [])]
def od_word_Fine : List (Nat × Ord) := []
noncomputable def E_word_Fine : Env := ⟨0, 0, et_word_Fine, tt_word_Fine, fns_word_Fine, [], od_word_Fine, kp_word_Fine, none, []⟩
set_option maxRecDepth 100000 in
set_option maxHeartbeats 40000000 in
theorem c_word_Fine : PCon Go.Proofs.Tryz.prog 124 lf_word_Fine := by
  rw [lq_word_Fine]
  refine lift_conR (E := E_word_Fine) (c := bodyOf Tryz.f124) (nt := 9) (rs := [.tmp 2]) (ts := [4]) (EnvC.sub (off := 0) (nt := 0) (ords := od_word_Fine) (keep := kp_word_Fine) (yl := none) tt_ok et_ok fns_word_Fine_ok (PrsOk.nil _) (ItsOk.nil _) tt_word_Fine_ok et_word_Fine_ok) (PrOk.of mixed_ok) Go.Proofs.Tryz.func124 rfl (by decide) rfl rfl rfl (pureR_one (e := .bool) rfl) ?_
  intro x r hw hs
  repeat'
    (try (conv => whnf)
     first
       | (with_reducible have hs := letv_out hs)
       | (refine draw_and (by kernel_rfl) ?_)
       | (refine both_mk ?_ ?_)
       | (refine br_bool (fun h => ?_) (fun h => ?_) <;> first | have hs := cT h hs | have hs := cF h hs)
       | refine chk_elim hs fun hs => ?_
       | (have hs := letv_out hs)
       | exact fin_some hs rfl
       | (intro b hb; first | have hs := nilq_elim hs b hb | have hs := nilqn_elim hs b hb)
       | (have hs := cT rfl hs)
       | (have hs := cF rfl hs)
       | exact (none_ne hs).elim)
noncomputable def lf_poison_Hit : List AV → Option AV := liftF (.pair (.int .i64) tyA3) (unpack .bool) (fun x => poison_Hit x.1 x.2.1)
theorem lq_poison_Hit : lf_poison_Hit = liftF (.pair (.int .i64) tyA3) (unpack .bool) (fun x => poison_Hit x.1 x.2.1) := rfl
attribute [irreducible] lf_poison_Hit
theorem ck_poison_Hit {vs : List AV} {k : AV → Prop} {x : ((.pair (.int .i64) tyA3) : Ty).den} {v : Bool} (h1 : pks (.pair (.int .i64) tyA3) vs = some x) (h2 : poison_Hit x.1 x.2.1 = some v) (h3 : k ((unpack .bool) v)) : callK (lf_poison_Hit vs) k := by
  rw [lq_poison_Hit]; exact callK_lift h1 h2 h3
def tt_poison_Hit : List (Nat × Ty) := [(3, .int .i64), (4, .bool)]
def et_poison_Hit : List (Nat × Nat) := []
theorem tt_poison_Hit_ok : subT tt tt_poison_Hit = true := by kernel_rfl
theorem et_poison_Hit_ok : subE et et_poison_Hit = true := by kernel_rfl
noncomputable def fns_poison_Hit : List (Nat × (List AV → Option AV)) := [(102, lf_poison_Fine)]
theorem fns_poison_Hit_ok : FnsOk Go.Proofs.Tryz.prog fns_poison_Hit := FnsOk.cons c_poison_Fine (FnsOk.nil _)
def kp_poison_Hit : List (Nat × List Nat) := [(0, [0, 1]), (1, [4]), (4000000, []), (4000001, [])]
def od_poison_Hit : List (Nat × Ord) := []
noncomputable def E_poison_Hit : Env := ⟨0, 0, et_poison_Hit, tt_poison_Hit, fns_poison_Hit, [], od_poison_Hit, kp_poison_Hit, none, []⟩
set_option maxRecDepth 100000 in
set_option maxHeartbeats 40000000 in
theorem c_poison_Hit : PCon Go.Proofs.Tryz.prog 74 lf_poison_Hit := by
  rw [lq_poison_Hit]
  refine lift_conR (E := E_poison_Hit) (c := bodyOf Tryz.f74) (nt := 16) (rs := [.tmp 4]) (ts := [4]) (EnvC.sub (off := 0) (nt := 0) (ords := od_poison_Hit) (keep := kp_poison_Hit) (yl := none) tt_ok et_ok fns_poison_Hit_ok (PrsOk.nil _) (ItsOk.nil _) tt_poison_Hit_ok et_poison_Hit_ok) (PrOk.of mixed_ok) Go.Proofs.Tryz.func74 rfl (by decide) rfl rfl rfl (pureR_one (e := .bool) rfl) ?_
  intro x r hw hs
  repeat'
    (try (conv => whnf)
     first
       | (with_reducible have hs := letv_out hs)
       | (refine draw_and (by kernel_rfl) ?_)
       | (refine both_mk ?_ ?_)
       | (refine br_bool (fun h => ?_) (fun h => ?_) <;> first | have hs := cT h hs | have hs := cF h hs)
       | (refine bind_elim hs fun v hb hs => ?_; first | refine ck_poison_Fine rfl hb ?_)
       | refine chk_elim hs fun hs => ?_
       | (have hs := letv_out hs)
       | exact fin_some hs rfl
       | (intro b hb; first | have hs := nilq_elim hs b hb | have hs := nilqn_elim hs b hb)
       | (have hs := cT rfl hs)
       | (have hs := cF rfl hs)
       | exact (none_ne hs).elim)
noncomputable def lf_R16_Fine : List AV → Option AV := liftF tyA3 (unpack .bool) (fun x => R16_Fine x.1)
theorem lq_R16_Fine : lf_R16_Fine = liftF tyA3 (unpack .bool) (fun x => R16_Fine x.1) := rfl
attribute [irreducible] lf_R16_Fine
theorem ck_R16_Fine {vs : List AV} {k : AV → Prop} {x : (tyA3 : Ty).den} {v : Bool} (h1 : pks tyA3 vs = some x) (h2 : R16_Fine x.1 = some v) (h3 : k ((unpack .bool) v)) : callK (lf_R16_Fine vs) k := by
  rw [lq_R16_Fine]; exact callK_lift h1 h2 h3
def tt_R16_Fine : List (Nat × Ty) := [(3, .int .i64), (4, .bool)]
def et_R16_Fine : List (Nat × Nat) := []
theorem tt_R16_Fine_ok : subT tt tt_R16_Fine = true := by kernel_rfl
theorem et_R16_Fine_ok : subE et et_R16_Fine = true := by kernel_rfl
noncomputable def fns_R16_Fine : List (Nat × (List AV → Option AV)) := []
theorem fns_R16_Fine_ok : FnsOk Go.Proofs.Tryz.prog fns_R16_Fine := FnsOk.nil _
def kp_R16_Fine : List (Nat × List Nat) := [(0, [0]), (1, [2]), (4000000, []), (4000001, [])]
def od_R16_Fine : List (Nat × Ord) := []
noncomputable def E_R16_Fine : Env := ⟨0, 0, et_R16_Fine, tt_R16_Fine, fns_R16_Fine, [], od_R16_Fine, kp_R16_Fine, none, []⟩
set_option maxRecDepth 100000 in
set_option maxHeartbeats 40000000 in
theorem c_R16_Fine : PCon Go.Proofs.Tryz.prog 98 lf_R16_Fine := by
  rw [lq_R16_Fine]
  refine lift_conR (E := E_R16_Fine) (c := bodyOf Tryz.f98) (nt := 9) (rs := [.tmp 2]) (ts := [4]) (EnvC.sub (off := 0) (nt := 0) (ords := od_R16_Fine) (keep := kp_R16_Fine) (yl := none) tt_ok et_ok fns_R16_Fine_ok (PrsOk.nil _) (ItsOk.nil _) tt_R16_Fine_ok et_R16_Fine_ok) (PrOk.of mixed_ok) Go.Proofs.Tryz.func98 rfl (by decide) rfl rfl rfl (pureR_one (e := .bool) rfl) ?_
  intro x r hw hs
  repeat'
    (try (conv => whnf)
     first
       | (with_reducible have hs := letv_out hs)
       | (refine draw_and (by kernel_rfl) ?_)
       | (refine both_mk ?_ ?_)
       | (refine br_bool (fun h => ?_) (fun h => ?_) <;> first | have hs := cT h hs | have hs := cF h hs)
       | refine chk_elim hs fun hs => ?_
       | (have hs := letv_out hs)
       | exact fin_some hs rfl
       | (intro b hb; first | have hs := nilq_elim hs b hb | have hs := nilqn_elim hs b hb)
       | (have hs := cT rfl hs)
       | (have hs := cF rfl hs)
       | exact (none_ne hs).elim)
noncomputable def lf_R08_Fine : List AV → Option AV := liftF tyA3 (unpack .bool) (fun x => R08_Fine x.1)
theorem lq_R08_Fine : lf_R08_Fine = liftF tyA3 (unpack .bool) (fun x => R08_Fine x.1) := rfl
attribute [irreducible] lf_R08_Fine
theorem ck_R08_Fine {vs : List AV} {k : AV → Prop} {x : (tyA3 : Ty).den} {v : Bool} (h1 : pks tyA3 vs = some x) (h2 : R08_Fine x.1 = some v) (h3 : k ((unpack .bool) v)) : callK (lf_R08_Fine vs) k := by
  rw [lq_R08_Fine]; exact callK_lift h1 h2 h3
def tt_R08_Fine : List (Nat × Ty) := [(3, .int .i64), (4, .bool)]
def et_R08_Fine : List (Nat × Nat) := []
theorem tt_R08_Fine_ok : subT tt tt_R08_Fine = true := by kernel_rfl
theorem et_R08_Fine_ok : subE et et_R08_Fine = true := by kernel_rfl
noncomputable def fns_R08_Fine : List (Nat × (List AV → Option AV)) := []
theorem fns_R08_Fine_ok : FnsOk Go.Proofs.Tryz.prog fns_R08_Fine := FnsOk.nil _
def kp_R08_Fine : List (Nat × List Nat) := [(0, [0]), (1, [2]), (4000000, []), (4000001, [])]
def od_R08_Fine : List (Nat × Ord) := []
noncomputable def E_R08_Fine : Env := ⟨0, 0, et_R08_Fine, tt_R08_Fine, fns_R08_Fine, [], od_R08_Fine, kp_R08_Fine, none, []⟩
set_option maxRecDepth 100000 in
set_option maxHeartbeats 40000000 in
theorem c_R08_Fine : PCon Go.Proofs.Tryz.prog 73 lf_R08_Fine := by
  rw [lq_R08_Fine]
  refine lift_conR (E := E_R08_Fine) (c := bodyOf Tryz.f73) (nt := 9) (rs := [.tmp 2]) (ts := [4]) (EnvC.sub (off := 0) (nt := 0) (ords := od_R08_Fine) (keep := kp_R08_Fine) (yl := none) tt_ok et_ok fns_R08_Fine_ok (PrsOk.nil _) (ItsOk.nil _) tt_R08_Fine_ok et_R08_Fine_ok) (PrOk.of mixed_ok) Go.Proofs.Tryz.func73 rfl (by decide) rfl rfl rfl (pureR_one (e := .bool) rfl) ?_
  intro x r hw hs
  repeat'
    (try (conv => whnf)
     first
       | (with_reducible have hs := letv_out hs)
       | (refine draw_and (by kernel_rfl) ?_)
       | (refine both_mk ?_ ?_)
       | (refine br_bool (fun h => ?_) (fun h => ?_) <;> first | have hs := cT h hs | have hs := cF h hs)
       | refine chk_elim hs fun hs => ?_
       | (have hs := letv_out hs)
       | exact fin_some hs rfl
       | (intro b hb; first | have hs := nilq_elim hs b hb | have hs := nilqn_elim hs b hb)
       | (have hs := cT rfl hs)
       | (have hs := cF rfl hs)
       | exact (none_ne hs).elim)
noncomputable def lf_R16_Hit : List AV → Option AV := liftF (.pair (.int .i64) tyA3) (unpack .bool) (fun x => R16_Hit x.1 x.2.1)
attribute [irreducible] lf_R16_Hit
noncomputable def lf_R16_Raise : List AV → Option AV := liftF (.pair (.int .i64) tyA3) (unpR (.pair (.int .i64) tyA3)) (fun x => R16_Raise x.1 x.2.1)
theorem lq_R16_Raise : lf_R16_Raise = liftF (.pair (.int .i64) tyA3) (unpR (.pair (.int .i64) tyA3)) (fun x => R16_Raise x.1 x.2.1) := rfl
attribute [irreducible] lf_R16_Raise
theorem ck_R16_Raise {vs : List AV} {k : AV → Prop} {x : ((.pair (.int .i64) tyA3) : Ty).den} {v : Int × Int × Unit} (h1 : pks (.pair (.int .i64) tyA3) vs = some x) (h2 : R16_Raise x.1 x.2.1 = some v) (h3 : k ((unpR (.pair (.int .i64) tyA3)) v)) : callK (lf_R16_Raise vs) k := by
  rw [lq_R16_Raise]; exact callK_lift h1 h2 h3
def tt_R16_Raise : List (Nat × Ty) := [(3, .int .i64), (4, .bool)]
def et_R16_Raise : List (Nat × Nat) := []
theorem tt_R16_Raise_ok : subT tt tt_R16_Raise = true := by kernel_rfl
theorem et_R16_Raise_ok : subE et et_R16_Raise = true := by kernel_rfl
noncomputable def fns_R16_Raise : List (Nat × (List AV → Option AV)) := [(98, lf_R16_Fine)]
theorem fns_R16_Raise_ok : FnsOk Go.Proofs.Tryz.prog fns_R16_Raise := FnsOk.cons c_R16_Fine (FnsOk.nil _)
def kp_R16_Raise : List (Nat × List Nat) := [(0, [0, 1]), (1, [0, 1, 16]), (2, [4, 5]), (3, [0, 1, 19]), (4, [4, 5]), (5, [4, 5]), (4000000, []), (4000001, []), (4000002, []), (4000003, []), (4000004, []), (4000005, [])]
def od_R16_Raise : List (Nat × Ord) := []
noncomputable def E_R16_Raise : Env := ⟨0, 0, et_R16_Raise, tt_R16_Raise, fns_R16_Raise, [], od_R16_Raise, kp_R16_Raise, none, []⟩
set_option maxRecDepth 100000 in
set_option maxHeartbeats 40000000 in
theorem c_R16_Raise : PCon Go.Proofs.Tryz.prog 91 lf_R16_Raise := by
  rw [lq_R16_Raise]
  refine lift_conR (E := E_R16_Raise) (c := bodyOf Tryz.f91) (nt := 22) (rs := [.tmp 4, .tmp 5]) (ts := [3, 3]) (EnvC.sub (off := 0) (nt := 0) (ords := od_R16_Raise) (keep := kp_R16_Raise) (yl := none) tt_ok et_ok fns_R16_Raise_ok (PrsOk.nil _) (ItsOk.nil _) tt_R16_Raise_ok et_R16_Raise_ok) (PrOk.of mixed_ok) Go.Proofs.Tryz.func91 rfl (by decide) rfl rfl rfl (pureR_many (e := (.pair (.int .i64) tyA3)) rfl) ?_
  intro x r hw hs
  repeat'
    (try (conv => whnf)
     first
       | (with_reducible have hs := letv_out hs)
       | (refine draw_and (by kernel_rfl) ?_)
       | (refine both_mk ?_ ?_)
       | (refine br_bool (fun h => ?_) (fun h => ?_) <;> first | have hs := cT h hs | have hs := cF h hs)
       | (refine bind_elim hs fun v hb hs => ?_; first | refine ck_R16_Fine rfl hb ?_)
       | refine chk_elim hs fun hs => ?_
       | (have hs := letv_out hs)
       | exact fin_some hs rfl
       | (intro b hb; first | have hs := nilq_elim hs b hb | have hs := nilqn_elim hs b hb)
       | (have hs := cT rfl hs)
       | (have hs := cF rfl hs)
       | exact (none_ne hs).elim)
end Go.Proofs.YtbkccpddkpclaaaGreatDoorV
namespace Go.Proofs.YtbkccpddkpclaaaGreatDoorV
open Go.Proofs
set_option linter.unusedVariables false
noncomputable def lf_R18_Check : List AV → Option AV := liftF (.pair tyA7 .unit) (unpack (.int .i64)) (fun x => R18_Check x.1)
theorem lq_R18_Check : lf_R18_Check = liftF (.pair tyA7 .unit) (unpack (.int .i64)) (fun x => R18_Check x.1) := rfl
attribute [irreducible] lf_R18_Check
theorem ck_R18_Check {vs : List AV} {k : AV → Prop} {x : ((.pair tyA7 .unit) : Ty).den} {v : Int} (h1 : pks (.pair tyA7 .unit) vs = some x) (h2 : R18_Check x.1 = some v) (h3 : k ((unpack (.int .i64)) v)) : callK (lf_R18_Check vs) k := by
  rw [lq_R18_Check]; exact callK_lift h1 h2 h3
def tt_R18_Check : List (Nat × Ty) := [(3, .int .i64), (4, .bool), (73, .pair (.int .i64) tyA14)]
def et_R18_Check : List (Nat × Nat) := []
theorem tt_R18_Check_ok : subT tt tt_R18_Check = true := by kernel_rfl
theorem et_R18_Check_ok : subE et et_R18_Check = true := by kernel_rfl
noncomputable def fns_R18_Check : List (Nat × (List AV → Option AV)) := [(98, lf_R16_Fine)]
theorem fns_R18_Check_ok : FnsOk Go.Proofs.Tryz.prog fns_R18_Check := FnsOk.cons c_R16_Fine (FnsOk.nil _)
def kp_R18_Check : List (Nat × List Nat) := [(0, [1]), (1, [1, 10]), (2, [2]), (3, [30]), (4, [2]), (5, [2]), (4000000, [1]), (4000001, [1]), (4000002, []), (4000003, []), (4000004, []), (4000005, [])]
def od_R18_Check : List (Nat × Ord) := []
noncomputable def E_R18_Check : Env := ⟨0, 0, et_R18_Check, tt_R18_Check, fns_R18_Check, [], od_R18_Check, kp_R18_Check, none, []⟩
set_option maxRecDepth 100000 in
set_option maxHeartbeats 40000000 in
theorem c_R18_Check : PCon Go.Proofs.Tryz.prog 70 lf_R18_Check := by
  rw [lq_R18_Check]
  refine lift_conR (E := E_R18_Check) (c := bodyOf Tryz.f70) (nt := 31) (rs := [.tmp 2]) (ts := [3]) (EnvC.sub (off := 0) (nt := 0) (ords := od_R18_Check) (keep := kp_R18_Check) (yl := none) tt_ok et_ok fns_R18_Check_ok (PrsOk.nil _) (ItsOk.nil _) tt_R18_Check_ok et_R18_Check_ok) (PrOk.of mixed_ok) Go.Proofs.Tryz.func70 rfl (by decide) rfl rfl rfl (pureR_one (e := (.int .i64)) rfl) ?_
  intro x r hw hs
  repeat'
    (try (conv => whnf)
     first
       | (with_reducible have hs := letv_out hs)
       | (refine draw_and (by kernel_rfl) ?_)
       | (refine both_mk ?_ ?_)
       | (refine br_bool (fun h => ?_) (fun h => ?_) <;> first | have hs := cT h hs | have hs := cF h hs)
       | (refine bind_elim hs fun v hb hs => ?_; first | refine ck_R16_Fine rfl hb ?_)
       | refine chk_elim hs fun hs => ?_
       | (have hs := letv_out hs)
       | exact fin_some hs rfl
       | (intro b hb; first | have hs := nilq_elim hs b hb | have hs := nilqn_elim hs b hb)
       | (have hs := cT rfl hs)
       | (have hs := cF rfl hs)
       | exact (none_ne hs).elim)
noncomputable def lf_R18_New : List AV → Option AV := liftF (.pair tyA7 .unit) (unpR (.pair tyA0 tyA3)) (fun x => R18_New x.1)
theorem lq_R18_New : lf_R18_New = liftF (.pair tyA7 .unit) (unpR (.pair tyA0 tyA3)) (fun x => R18_New x.1) := rfl
attribute [irreducible] lf_R18_New
theorem ck_R18_New {vs : List AV} {k : AV → Prop} {x : ((.pair tyA7 .unit) : Ty).den} {v : tzA2 × Int × Unit} (h1 : pks (.pair tyA7 .unit) vs = some x) (h2 : R18_New x.1 = some v) (h3 : k ((unpR (.pair tyA0 tyA3)) v)) : callK (lf_R18_New vs) k := by
  rw [lq_R18_New]; exact callK_lift h1 h2 h3
def tt_R18_New : List (Nat × Ty) := [(3, .int .i64), (73, .pair (.int .i64) tyA14), (107, .pair .bool tyA11), (109, .pair tyA7 tyA15)]
def et_R18_New : List (Nat × Nat) := []
theorem tt_R18_New_ok : subT tt tt_R18_New = true := by kernel_rfl
theorem et_R18_New_ok : subE et et_R18_New = true := by kernel_rfl
noncomputable def fns_R18_New : List (Nat × (List AV → Option AV)) := [(70, lf_R18_Check)]
theorem fns_R18_New_ok : FnsOk Go.Proofs.Tryz.prog fns_R18_New := FnsOk.cons c_R18_Check (FnsOk.nil _)
def kp_R18_New : List (Nat × List Nat) := [(0, [1, 2]), (1, [1, 2, 4]), (2, [1, 2, 4, 8]), (3, [2, 3]), (4, [2, 3]), (4000000, [1, 2]), (4000001, [1, 2]), (4000002, [1, 2]), (4000003, [2]), (4000004, [2])]
def od_R18_New : List (Nat × Ord) := []
noncomputable def E_R18_New : Env := ⟨0, 0, et_R18_New, tt_R18_New, fns_R18_New, [], od_R18_New, kp_R18_New, none, []⟩
set_option maxRecDepth 100000 in
set_option maxHeartbeats 40000000 in
theorem c_R18_New : PCon Go.Proofs.Tryz.prog 41 lf_R18_New := by
  rw [lq_R18_New]
  refine lift_conR (E := E_R18_New) (c := bodyOf Tryz.f41) (nt := 26) (rs := [.cell 2 109, .tmp 3]) (ts := [109, 3]) (EnvC.sub (off := 0) (nt := 0) (ords := od_R18_New) (keep := kp_R18_New) (yl := none) tt_ok et_ok fns_R18_New_ok (PrsOk.nil _) (ItsOk.nil _) tt_R18_New_ok et_R18_New_ok) (PrOk.of mixed_ok) Go.Proofs.Tryz.func41 rfl (by decide) rfl rfl rfl (pureR_many (e := (.pair tyA0 tyA3)) rfl) ?_
  intro x r hw hs
  repeat'
    (try (conv => whnf)
     first
       | (with_reducible have hs := letv_out hs)
       | (refine draw_and (by kernel_rfl) ?_)
       | (refine both_mk ?_ ?_)
       | (refine br_bool (fun h => ?_) (fun h => ?_) <;> first | have hs := cT h hs | have hs := cF h hs)
       | (refine bind_elim hs fun v hb hs => ?_; first | refine ck_R18_Check rfl hb ?_)
       | refine chk_elim hs fun hs => ?_
       | (have hs := letv_out hs)
       | exact fin_some hs rfl
       | (intro b hb; first | have hs := nilq_elim hs b hb | have hs := nilqn_elim hs b hb)
       | (have hs := cT rfl hs)
       | (have hs := cF rfl hs)
       | exact (none_ne hs).elim)
noncomputable def lf_R18_words : List AV → Option AV := liftF tyA11 (unpack .bool) (fun x => R18_words x.1)
theorem lq_R18_words : lf_R18_words = liftF tyA11 (unpack .bool) (fun x => R18_words x.1) := rfl
attribute [irreducible] lf_R18_words
theorem ck_R18_words {vs : List AV} {k : AV → Prop} {x : (tyA11 : Ty).den} {v : Bool} (h1 : pks tyA11 vs = some x) (h2 : R18_words x.1 = some v) (h3 : k ((unpack .bool) v)) : callK (lf_R18_words vs) k := by
  rw [lq_R18_words]; exact callK_lift h1 h2 h3
def tt_R18_words : List (Nat × Ty) := [(3, .int .i64), (4, .bool), (26, .sl (.int .i64))]
def et_R18_words : List (Nat × Nat) := [(26, 3)]
theorem tt_R18_words_ok : subT tt tt_R18_words = true := by kernel_rfl
theorem et_R18_words_ok : subE et et_R18_words = true := by kernel_rfl
noncomputable def fns_R18_words : List (Nat × (List AV → Option AV)) := [(73, lf_R08_Fine)]
theorem fns_R18_words_ok : FnsOk Go.Proofs.Tryz.prog fns_R18_words := FnsOk.cons c_R08_Fine (FnsOk.nil _)
def R18_words_S1 (u0 : AV) (x1 : Int) : St :=
  ⟨[(0, u0), (3, .int .i64 x1)], [], none⟩
def R18_words_M1 : Msk := ⟨[0, 3], [], [], [], [], [], [], [], []⟩
def kp_R18_words : List (Nat × List Nat) := [(0, [0]), (1, [0, 3]), (2, [0, 3, 7]), (3, [0, 3]), (4, [0, 3, 15]), (5, [2]), (6, [2]), (4000000, []), (4000001, []), (4000002, []), (4000003, []), (4000004, []), (4000005, []), (4000006, [])]
def od_R18_words : List (Nat × Ord) := []
noncomputable def E_R18_words : Env := ⟨0, 0, et_R18_words, tt_R18_words, fns_R18_words, [], od_R18_words, kp_R18_words, none, []⟩
set_option maxRecDepth 100000 in
set_option maxHeartbeats 40000000 in
theorem c_R18_words : PCon Go.Proofs.Tryz.prog 99 lf_R18_words := by
  rw [lq_R18_words]
  refine lift_conR (E := E_R18_words) (c := bodyOf Tryz.f99) (nt := 16) (rs := [.tmp 2]) (ts := [4]) (EnvC.sub (off := 0) (nt := 0) (ords := od_R18_words) (keep := kp_R18_words) (yl := none) tt_ok et_ok fns_R18_words_ok (PrsOk.nil _) (ItsOk.nil _) tt_R18_words_ok et_R18_words_ok) (PrOk.of mixed_ok) Go.Proofs.Tryz.func99 rfl (by decide) rfl rfl rfl (pureR_one (e := .bool) rfl) ?_
  intro x r hw hs
  repeat'
    (try (conv => whnf)
     first
       | (with_reducible have hs := letv_out hs)
       | (refine draw_and (by kernel_rfl) ?_)
       | (refine both_mk ?_ ?_)
       | (refine br_bool (fun h => ?_) (fun h => ?_) <;> first | have hs := cT h hs | have hs := cF h hs)
       | (refine bind_elim hs fun v hb hs => ?_; first | refine ck_R08_Fine rfl hb ?_)
       | refine chk_elim hs fun hs => ?_
       | (have hs := letv_out hs)
       | exact fin_some hs rfl
       | (intro b hb; first | have hs := nilq_elim hs b hb | have hs := nilqn_elim hs b hb)
       | exact hJ1 _ hs
       | (have hs := cT rfl hs)
       | (have hs := cF rfl hs)
       | ((with_reducible have hs : loop (R18_words_L1 _) _ = some _ := hs); refine vc_loopR (R18_words_S1 _) R18_words_M1 hs rfl ?_; intro J1 k1 x1 hJ1 hs)
       | (refine vc_loopR (R18_words_S1 _) R18_words_M1 hs rfl ?_; intro J1 k1 x1 hJ1 hs)
       | exact (none_ne hs).elim)
noncomputable def lf_R18_Fine : List AV → Option AV := liftF (.pair tyA0 .unit) (unpack .bool) (fun x => R18_Fine x.1)
theorem lq_R18_Fine : lf_R18_Fine = liftF (.pair tyA0 .unit) (unpack .bool) (fun x => R18_Fine x.1) := rfl
attribute [irreducible] lf_R18_Fine
theorem ck_R18_Fine {vs : List AV} {k : AV → Prop} {x : ((.pair tyA0 .unit) : Ty).den} {v : Bool} (h1 : pks (.pair tyA0 .unit) vs = some x) (h2 : R18_Fine x.1 = some v) (h3 : k ((unpack .bool) v)) : callK (lf_R18_Fine vs) k := by
  rw [lq_R18_Fine]; exact callK_lift h1 h2 h3
def tt_R18_Fine : List (Nat × Ty) := [(3, .int .i64), (4, .bool), (26, .sl (.int .i64)), (73, .pair (.int .i64) tyA14), (107, .pair .bool tyA11), (109, .pair tyA7 tyA15)]
def et_R18_Fine : List (Nat × Nat) := [(26, 3)]
theorem tt_R18_Fine_ok : subT tt tt_R18_Fine = true := by kernel_rfl
theorem et_R18_Fine_ok : subE et et_R18_Fine = true := by kernel_rfl
noncomputable def fns_R18_Fine : List (Nat × (List AV → Option AV)) := [(41, lf_R18_New), (98, lf_R16_Fine), (99, lf_R18_words), (100, lf_R17_Fine)]
theorem fns_R18_Fine_ok : FnsOk Go.Proofs.Tryz.prog fns_R18_Fine := FnsOk.cons c_R18_New (FnsOk.cons c_R16_Fine (FnsOk.cons c_R18_words (FnsOk.cons c_R17_Fine (FnsOk.nil _))))
def kp_R18_Fine : List (Nat × List Nat) := [(0, [1]), (1, [1, 3, 4]), (2, [1, 3, 49]), (3, [2]), (4, [2]), (4000000, [1]), (4000001, [1, 3]), (4000002, [1, 3]), (4000003, []), (4000004, [])]
def od_R18_Fine : List (Nat × Ord) := []
noncomputable def E_R18_Fine : Env := ⟨0, 0, et_R18_Fine, tt_R18_Fine, fns_R18_Fine, [], od_R18_Fine, kp_R18_Fine, none, []⟩
set_option maxRecDepth 100000 in
set_option maxHeartbeats 40000000 in
theorem c_R18_Fine : PCon Go.Proofs.Tryz.prog 71 lf_R18_Fine := by
  rw [lq_R18_Fine]
  refine lift_conR (E := E_R18_Fine) (c := bodyOf Tryz.f71) (nt := 76) (rs := [.tmp 2]) (ts := [4]) (EnvC.sub (off := 0) (nt := 0) (ords := od_R18_Fine) (keep := kp_R18_Fine) (yl := none) tt_ok et_ok fns_R18_Fine_ok (PrsOk.nil _) (ItsOk.nil _) tt_R18_Fine_ok et_R18_Fine_ok) (PrOk.of mixed_ok) Go.Proofs.Tryz.func71 rfl (by decide) rfl rfl rfl (pureR_one (e := .bool) rfl) ?_
  intro x r hw hs
  repeat'
    (try (conv => whnf)
     first
       | (with_reducible have hs := letv_out hs)
       | (refine draw_and (by kernel_rfl) ?_)
       | (refine both_mk ?_ ?_)
       | (refine br_bool (fun h => ?_) (fun h => ?_) <;> first | have hs := cT h hs | have hs := cF h hs)
       | (refine bind_elim hs fun v hb hs => ?_; first | refine ck_R18_New rfl hb ?_ | refine ck_R16_Fine rfl hb ?_ | refine ck_R18_words rfl hb ?_ | refine ck_R17_Fine rfl hb ?_)
       | refine chk_elim hs fun hs => ?_
       | (have hs := letv_out hs)
       | exact fin_some hs rfl
       | (intro b hb; first | have hs := nilq_elim hs b hb | have hs := nilqn_elim hs b hb)
       | (have hs := cT rfl hs)
       | (have hs := cF rfl hs)
       | exact (none_ne hs).elim)
noncomputable def lf_R18_Recv : List AV → Option AV := liftF (.pair tyA0 tyA3) (unpR (.pair tyA0 tyA3)) (fun x => R18_Recv x.1 x.2.1)
theorem lq_R18_Recv : lf_R18_Recv = liftF (.pair tyA0 tyA3) (unpR (.pair tyA0 tyA3)) (fun x => R18_Recv x.1 x.2.1) := rfl
attribute [irreducible] lf_R18_Recv
theorem ck_R18_Recv {vs : List AV} {k : AV → Prop} {x : ((.pair tyA0 tyA3) : Ty).den} {v : tzA2 × Int × Unit} (h1 : pks (.pair tyA0 tyA3) vs = some x) (h2 : R18_Recv x.1 x.2.1 = some v) (h3 : k ((unpR (.pair tyA0 tyA3)) v)) : callK (lf_R18_Recv vs) k := by
  rw [lq_R18_Recv]; exact callK_lift h1 h2 h3
def tt_R18_Recv : List (Nat × Ty) := [(3, .int .i64), (4, .bool), (107, .pair .bool tyA11), (109, .pair tyA7 tyA15)]
def et_R18_Recv : List (Nat × Nat) := []
theorem tt_R18_Recv_ok : subT tt tt_R18_Recv = true := by kernel_rfl
theorem et_R18_Recv_ok : subE et et_R18_Recv = true := by kernel_rfl
noncomputable def fns_R18_Recv : List (Nat × (List AV → Option AV)) := [(71, lf_R18_Fine), (72, lf_R17_Join)]
theorem fns_R18_Recv_ok : FnsOk Go.Proofs.Tryz.prog fns_R18_Recv := FnsOk.cons c_R18_Fine (FnsOk.cons c_R17_Join (FnsOk.nil _))
def kp_R18_Recv : List (Nat × List Nat) := [(0, [1, 2, 4]), (1, [1, 2, 4, 10]), (2, [4, 5]), (3, [2, 4, 6, 7]), (4, [2, 4, 6, 7, 20]), (5, [4, 5]), (6, [2, 4]), (7, [4, 5]), (4000000, [2, 4]), (4000001, [2, 4]), (4000002, [4]), (4000003, [2, 4, 6]), (4000004, [2, 4, 6]), (4000005, [4]), (4000006, [2, 4]), (4000007, [4])]
def od_R18_Recv : List (Nat × Ord) := []
noncomputable def E_R18_Recv : Env := ⟨0, 0, et_R18_Recv, tt_R18_Recv, fns_R18_Recv, [], od_R18_Recv, kp_R18_Recv, none, []⟩
set_option maxRecDepth 100000 in
set_option maxHeartbeats 40000000 in
theorem c_R18_Recv : PCon Go.Proofs.Tryz.prog 43 lf_R18_Recv := by
  rw [lq_R18_Recv]
  refine lift_conR (E := E_R18_Recv) (c := bodyOf Tryz.f43) (nt := 26) (rs := [.cell 4 109, .tmp 5]) (ts := [109, 3]) (EnvC.sub (off := 0) (nt := 0) (ords := od_R18_Recv) (keep := kp_R18_Recv) (yl := none) tt_ok et_ok fns_R18_Recv_ok (PrsOk.nil _) (ItsOk.nil _) tt_R18_Recv_ok et_R18_Recv_ok) (PrOk.of mixed_ok) Go.Proofs.Tryz.func43 rfl (by decide) rfl rfl rfl (pureR_many (e := (.pair tyA0 tyA3)) rfl) ?_
  intro x r hw hs
  repeat'
    (try (conv => whnf)
     first
       | (with_reducible have hs := letv_out hs)
       | (refine draw_and (by kernel_rfl) ?_)
       | (refine both_mk ?_ ?_)
       | (refine br_bool (fun h => ?_) (fun h => ?_) <;> first | have hs := cT h hs | have hs := cF h hs)
       | (refine bind_elim hs fun v hb hs => ?_; first | refine ck_R18_Fine rfl hb ?_ | refine ck_R17_Join rfl hb ?_)
       | refine chk_elim hs fun hs => ?_
       | (have hs := letv_out hs)
       | exact fin_some hs rfl
       | (intro b hb; first | have hs := nilq_elim hs b hb | have hs := nilqn_elim hs b hb)
       | (have hs := cT rfl hs)
       | (have hs := cF rfl hs)
       | exact (none_ne hs).elim)
noncomputable def lf_R18_Send : List AV → Option AV := liftF (.pair tyA0 (.pair (.int .i64) tyA3)) (unpR (.pair tyA0 tyA3)) (fun x => R18_Send x.1 x.2.1 x.2.2.1)
theorem lq_R18_Send : lf_R18_Send = liftF (.pair tyA0 (.pair (.int .i64) tyA3)) (unpR (.pair tyA0 tyA3)) (fun x => R18_Send x.1 x.2.1 x.2.2.1) := rfl
attribute [irreducible] lf_R18_Send
theorem ck_R18_Send {vs : List AV} {k : AV → Prop} {x : ((.pair tyA0 (.pair (.int .i64) tyA3)) : Ty).den} {v : tzA2 × Int × Unit} (h1 : pks (.pair tyA0 (.pair (.int .i64) tyA3)) vs = some x) (h2 : R18_Send x.1 x.2.1 x.2.2.1 = some v) (h3 : k ((unpR (.pair tyA0 tyA3)) v)) : callK (lf_R18_Send vs) k := by
  rw [lq_R18_Send]; exact callK_lift h1 h2 h3
def tt_R18_Send : List (Nat × Ty) := [(3, .int .i64), (4, .bool), (26, .sl (.int .i64)), (107, .pair .bool tyA11), (109, .pair tyA7 tyA15)]
def et_R18_Send : List (Nat × Nat) := [(26, 3)]
theorem tt_R18_Send_ok : subT tt tt_R18_Send = true := by kernel_rfl
theorem et_R18_Send_ok : subE et et_R18_Send = true := by kernel_rfl
noncomputable def fns_R18_Send : List (Nat × (List AV → Option AV)) := [(71, lf_R18_Fine), (72, lf_R17_Join), (73, lf_R08_Fine)]
theorem fns_R18_Send_ok : FnsOk Go.Proofs.Tryz.prog fns_R18_Send := FnsOk.cons c_R18_Fine (FnsOk.cons c_R17_Join (FnsOk.cons c_R08_Fine (FnsOk.nil _)))
def kp_R18_Send : List (Nat × List Nat) := [(0, [1, 2, 3, 6]), (1, [1, 2, 3, 6, 12]), (2, [6, 7]), (3, [1, 2, 3, 6, 16]), (4, [6, 7]), (5, [2, 3, 6, 8, 9]), (6, [2, 3, 6, 8, 9, 26]), (7, [6, 7]), (8, [2, 3, 6]), (9, [3, 6]), (10, [6, 7]), (4000000, [3, 6]), (4000001, [3, 6]), (4000002, [6]), (4000003, [3, 6]), (4000004, [6]), (4000005, [3, 6, 8]), (4000006, [3, 6, 8]), (4000007, [6]), (4000008, [3, 6]), (4000009, [3, 6, 33]), (4000010, [6, 33])]
def od_R18_Send : List (Nat × Ord) := []
noncomputable def E_R18_Send : Env := ⟨0, 0, et_R18_Send, tt_R18_Send, fns_R18_Send, [], od_R18_Send, kp_R18_Send, none, []⟩
set_option maxRecDepth 100000 in
set_option maxHeartbeats 40000000 in
theorem c_R18_Send : PCon Go.Proofs.Tryz.prog 44 lf_R18_Send := by
  rw [lq_R18_Send]
  refine lift_conR (E := E_R18_Send) (c := bodyOf Tryz.f44) (nt := 39) (rs := [.cell 6 109, .tmp 7]) (ts := [109, 3]) (EnvC.sub (off := 0) (nt := 0) (ords := od_R18_Send) (keep := kp_R18_Send) (yl := none) tt_ok et_ok fns_R18_Send_ok (PrsOk.nil _) (ItsOk.nil _) tt_R18_Send_ok et_R18_Send_ok) (PrOk.of mixed_ok) Go.Proofs.Tryz.func44 rfl (by decide) rfl rfl rfl (pureR_many (e := (.pair tyA0 tyA3)) rfl) ?_
  intro x r hw hs
  repeat'
    (try (conv => whnf)
     first
       | (with_reducible have hs := letv_out hs)
       | (refine draw_and (by kernel_rfl) ?_)
       | (refine both_mk ?_ ?_)
       | (refine br_bool (fun h => ?_) (fun h => ?_) <;> first | have hs := cT h hs | have hs := cF h hs)
       | (refine bind_elim hs fun v hb hs => ?_; first | refine ck_R18_Fine rfl hb ?_ | refine ck_R17_Join rfl hb ?_ | refine ck_R08_Fine rfl hb ?_)
       | refine chk_elim hs fun hs => ?_
       | (have hs := letv_out hs)
       | exact fin_some hs rfl
       | (intro b hb; first | have hs := nilq_elim hs b hb | have hs := nilqn_elim hs b hb)
       | (have hs := cT rfl hs)
       | (have hs := cF rfl hs)
       | exact (none_ne hs).elim)
noncomputable def lf_R18_InHit : List AV → Option AV := liftF (.pair tyA0 .unit) (unpack .bool) (fun x => R18_InHit x.1)
attribute [irreducible] lf_R18_InHit
noncomputable def lf_R18_OutHit : List AV → Option AV := liftF (.pair tyA0 .unit) (unpack .bool) (fun x => R18_OutHit x.1)
attribute [irreducible] lf_R18_OutHit
noncomputable def lf_R18_What : List AV → Option AV := liftF (.pair tyA0 .unit) (unpack (.sl (.int .i64))) (fun x => R18_What x.1)
attribute [irreducible] lf_R18_What
noncomputable def lf_R18_Poison : List AV → Option AV := liftF (.pair tyA0 tyA3) (unpR (.pair tyA0 tyA3)) (fun x => R18_Poison x.1 x.2.1)
theorem lq_R18_Poison : lf_R18_Poison = liftF (.pair tyA0 tyA3) (unpR (.pair tyA0 tyA3)) (fun x => R18_Poison x.1 x.2.1) := rfl
attribute [irreducible] lf_R18_Poison
theorem ck_R18_Poison {vs : List AV} {k : AV → Prop} {x : ((.pair tyA0 tyA3) : Ty).den} {v : tzA2 × Int × Unit} (h1 : pks (.pair tyA0 tyA3) vs = some x) (h2 : R18_Poison x.1 x.2.1 = some v) (h3 : k ((unpR (.pair tyA0 tyA3)) v)) : callK (lf_R18_Poison vs) k := by
  rw [lq_R18_Poison]; exact callK_lift h1 h2 h3
def tt_R18_Poison : List (Nat × Ty) := [(3, .int .i64), (4, .bool), (109, .pair tyA7 tyA15)]
def et_R18_Poison : List (Nat × Nat) := []
theorem tt_R18_Poison_ok : subT tt tt_R18_Poison = true := by kernel_rfl
theorem et_R18_Poison_ok : subE et et_R18_Poison = true := by kernel_rfl
noncomputable def fns_R18_Poison : List (Nat × (List AV → Option AV)) := [(71, lf_R18_Fine), (91, lf_R16_Raise)]
theorem fns_R18_Poison_ok : FnsOk Go.Proofs.Tryz.prog fns_R18_Poison := FnsOk.cons c_R18_Fine (FnsOk.cons c_R16_Raise (FnsOk.nil _))
def kp_R18_Poison : List (Nat × List Nat) := [(0, [1, 2, 4]), (1, [1, 2, 4, 10]), (2, [4, 5]), (3, [2, 4, 6, 7]), (4, [2, 4, 6, 7, 20]), (5, [4, 5]), (6, [2, 4]), (7, [4, 5]), (4000000, [2, 4]), (4000001, [2, 4]), (4000002, [4]), (4000003, [2, 4]), (4000004, [2, 4]), (4000005, [4]), (4000006, [2, 4]), (4000007, [4])]
def od_R18_Poison : List (Nat × Ord) := []
noncomputable def E_R18_Poison : Env := ⟨0, 0, et_R18_Poison, tt_R18_Poison, fns_R18_Poison, [], od_R18_Poison, kp_R18_Poison, none, []⟩
set_option maxRecDepth 100000 in
set_option maxHeartbeats 40000000 in
theorem c_R18_Poison : PCon Go.Proofs.Tryz.prog 65 lf_R18_Poison := by
  rw [lq_R18_Poison]
  refine lift_conR (E := E_R18_Poison) (c := bodyOf Tryz.f65) (nt := 26) (rs := [.cell 4 109, .tmp 5]) (ts := [109, 3]) (EnvC.sub (off := 0) (nt := 0) (ords := od_R18_Poison) (keep := kp_R18_Poison) (yl := none) tt_ok et_ok fns_R18_Poison_ok (PrsOk.nil _) (ItsOk.nil _) tt_R18_Poison_ok et_R18_Poison_ok) (PrOk.of mixed_ok) Go.Proofs.Tryz.func65 rfl (by decide) rfl rfl rfl (pureR_many (e := (.pair tyA0 tyA3)) rfl) ?_
  intro x r hw hs
  repeat'
    (try (conv => whnf)
     first
       | (with_reducible have hs := letv_out hs)
       | (refine draw_and (by kernel_rfl) ?_)
       | (refine both_mk ?_ ?_)
       | (refine br_bool (fun h => ?_) (fun h => ?_) <;> first | have hs := cT h hs | have hs := cF h hs)
       | (refine bind_elim hs fun v hb hs => ?_; first | refine ck_R18_Fine rfl hb ?_ | refine ck_R16_Raise rfl hb ?_)
       | refine chk_elim hs fun hs => ?_
       | (have hs := letv_out hs)
       | exact fin_some hs rfl
       | (intro b hb; first | have hs := nilq_elim hs b hb | have hs := nilqn_elim hs b hb)
       | (have hs := cT rfl hs)
       | (have hs := cF rfl hs)
       | exact (none_ne hs).elim)
end Go.Proofs.YtbkccpddkpclaaaGreatDoorV
namespace Go.Proofs.YtbkccpddkpclaaaGreatDoorV
open Go.Proofs
set_option linter.unusedVariables false
noncomputable def lf_R20_Fine : List AV → Option AV := liftF (.pair (.int .i64) tyA3) (unpack .bool) (fun x => R20_Fine x.1 x.2.1)
theorem lq_R20_Fine : lf_R20_Fine = liftF (.pair (.int .i64) tyA3) (unpack .bool) (fun x => R20_Fine x.1 x.2.1) := rfl
attribute [irreducible] lf_R20_Fine
theorem ck_R20_Fine {vs : List AV} {k : AV → Prop} {x : ((.pair (.int .i64) tyA3) : Ty).den} {v : Bool} (h1 : pks (.pair (.int .i64) tyA3) vs = some x) (h2 : R20_Fine x.1 x.2.1 = some v) (h3 : k ((unpack .bool) v)) : callK (lf_R20_Fine vs) k := by
  rw [lq_R20_Fine]; exact callK_lift h1 h2 h3
def tt_R20_Fine : List (Nat × Ty) := [(3, .int .i64), (4, .bool)]
def et_R20_Fine : List (Nat × Nat) := []
theorem tt_R20_Fine_ok : subT tt tt_R20_Fine = true := by kernel_rfl
theorem et_R20_Fine_ok : subE et et_R20_Fine = true := by kernel_rfl
noncomputable def fns_R20_Fine : List (Nat × (List AV → Option AV)) := []
theorem fns_R20_Fine_ok : FnsOk Go.Proofs.Tryz.prog fns_R20_Fine := FnsOk.nil _
def kp_R20_Fine : List (Nat × List Nat) := [(0, [0, 1]), (1, [4]), (4000000, []), (4000001, [])]
def od_R20_Fine : List (Nat × Ord) := []
noncomputable def E_R20_Fine : Env := ⟨0, 0, et_R20_Fine, tt_R20_Fine, fns_R20_Fine, [], od_R20_Fine, kp_R20_Fine, none, []⟩
set_option maxRecDepth 100000 in
set_option maxHeartbeats 40000000 in
theorem c_R20_Fine : PCon Go.Proofs.Tryz.prog 109 lf_R20_Fine := by
  rw [lq_R20_Fine]
  refine lift_conR (E := E_R20_Fine) (c := bodyOf Tryz.f109) (nt := 20) (rs := [.tmp 4]) (ts := [4]) (EnvC.sub (off := 0) (nt := 0) (ords := od_R20_Fine) (keep := kp_R20_Fine) (yl := none) tt_ok et_ok fns_R20_Fine_ok (PrsOk.nil _) (ItsOk.nil _) tt_R20_Fine_ok et_R20_Fine_ok) (PrOk.of mixed_ok) Go.Proofs.Tryz.func109 rfl (by decide) rfl rfl rfl (pureR_one (e := .bool) rfl) ?_
  intro x r hw hs
  repeat'
    (try (conv => whnf)
     first
       | (with_reducible have hs := letv_out hs)
       | (refine draw_and (by kernel_rfl) ?_)
       | (refine both_mk ?_ ?_)
       | (refine br_bool (fun h => ?_) (fun h => ?_) <;> first | have hs := cT h hs | have hs := cF h hs)
       | refine chk_elim hs fun hs => ?_
       | (have hs := letv_out hs)
       | exact fin_some hs rfl
       | (intro b hb; first | have hs := nilq_elim hs b hb | have hs := nilqn_elim hs b hb)
       | (have hs := cT rfl hs)
       | (have hs := cF rfl hs)
       | exact (none_ne hs).elim)
end Go.Proofs.YtbkccpddkpclaaaGreatDoorV
namespace Go.Proofs.YtbkccpddkpclaaaGreatDoorV
open Go.Proofs
set_option linter.unusedVariables false
noncomputable def lf_R21_Fine : List AV → Option AV := liftF (.pair tyA17 .unit) (unpack .bool) (fun x => R21_Fine x.1)
theorem lq_R21_Fine : lf_R21_Fine = liftF (.pair tyA17 .unit) (unpack .bool) (fun x => R21_Fine x.1) := rfl
attribute [irreducible] lf_R21_Fine
theorem ck_R21_Fine {vs : List AV} {k : AV → Prop} {x : ((.pair tyA17 .unit) : Ty).den} {v : Bool} (h1 : pks (.pair tyA17 .unit) vs = some x) (h2 : R21_Fine x.1 = some v) (h3 : k ((unpack .bool) v)) : callK (lf_R21_Fine vs) k := by
  rw [lq_R21_Fine]; exact callK_lift h1 h2 h3
def tt_R21_Fine : List (Nat × Ty) := [(3, .int .i64), (4, .bool), (26, .sl (.int .i64)), (113, .pair (.sl (.int .i64)) tyA11)]
def et_R21_Fine : List (Nat × Nat) := [(26, 3)]
theorem tt_R21_Fine_ok : subT tt tt_R21_Fine = true := by kernel_rfl
theorem et_R21_Fine_ok : subE et et_R21_Fine = true := by kernel_rfl
noncomputable def fns_R21_Fine : List (Nat × (List AV → Option AV)) := [(120, lf_R04_Less)]
theorem fns_R21_Fine_ok : FnsOk Go.Proofs.Tryz.prog fns_R21_Fine := FnsOk.cons c_R04_Less (FnsOk.nil _)
def R21_Fine_S1 (u0 : AV) (B2 : Blk) (x1 : Int) : St :=
  ⟨[(1, u0), (3, .int .i64 x1)], [(1, B2)], none⟩
def R21_Fine_M1 : Msk := ⟨[1, 3], [1], [], [], [], [], [], [], []⟩
def kp_R21_Fine : List (Nat × List Nat) := [(0, [1]), (1, [1, 3]), (2, [1, 3, 8]), (3, [1, 3]), (4, [1, 3, 24]), (5, [2]), (6, [2]), (4000000, [1]), (4000001, [1]), (4000002, [1]), (4000003, [1]), (4000004, [1]), (4000005, []), (4000006, [])]
def od_R21_Fine : List (Nat × Ord) := []
noncomputable def E_R21_Fine : Env := ⟨0, 0, et_R21_Fine, tt_R21_Fine, fns_R21_Fine, [], od_R21_Fine, kp_R21_Fine, none, []⟩
set_option maxRecDepth 100000 in
set_option maxHeartbeats 40000000 in
theorem c_R21_Fine : PCon Go.Proofs.Tryz.prog 110 lf_R21_Fine := by
  rw [lq_R21_Fine]
  refine lift_conR (E := E_R21_Fine) (c := bodyOf Tryz.f110) (nt := 32) (rs := [.tmp 2]) (ts := [4]) (EnvC.sub (off := 0) (nt := 0) (ords := od_R21_Fine) (keep := kp_R21_Fine) (yl := none) tt_ok et_ok fns_R21_Fine_ok (PrsOk.nil _) (ItsOk.nil _) tt_R21_Fine_ok et_R21_Fine_ok) (PrOk.of mixed_ok) Go.Proofs.Tryz.func110 rfl (by decide) rfl rfl rfl (pureR_one (e := .bool) rfl) ?_
  intro x r hw hs
  repeat'
    (try (conv => whnf)
     first
       | (with_reducible have hs := letv_out hs)
       | (refine draw_and (by kernel_rfl) ?_)
       | (refine both_mk ?_ ?_)
       | (refine br_bool (fun h => ?_) (fun h => ?_) <;> first | have hs := cT h hs | have hs := cF h hs)
       | (refine bind_elim hs fun v hb hs => ?_; first | refine ck_R04_Less rfl hb ?_)
       | refine chk_elim hs fun hs => ?_
       | (have hs := letv_out hs)
       | exact fin_some hs rfl
       | (intro b hb; first | have hs := nilq_elim hs b hb | have hs := nilqn_elim hs b hb)
       | exact hJ1 _ hs
       | (have hs := cT rfl hs)
       | (have hs := cF rfl hs)
       | ((with_reducible have hs : loop (R21_Fine_L1 _) _ = some _ := hs); refine vc_loopR (R21_Fine_S1 _ _) R21_Fine_M1 hs rfl ?_; intro J1 k1 x1 hJ1 hs)
       | (refine vc_loopR (R21_Fine_S1 _ _) R21_Fine_M1 hs rfl ?_; intro J1 k1 x1 hJ1 hs)
       | exact (none_ne hs).elim)
noncomputable def lf_R21_Full : List AV → Option AV := liftF (.pair tyA17 .unit) (unpack .bool) (fun x => R21_Full x.1)
attribute [irreducible] lf_R21_Full
noncomputable def lf_R21_asked : List AV → Option AV := liftF (.pair tyA17 tyA3) (unpack (.int .i64)) (fun x => R21_asked x.1 x.2.1)
theorem lq_R21_asked : lf_R21_asked = liftF (.pair tyA17 tyA3) (unpack (.int .i64)) (fun x => R21_asked x.1 x.2.1) := rfl
attribute [irreducible] lf_R21_asked
theorem ck_R21_asked {vs : List AV} {k : AV → Prop} {x : ((.pair tyA17 tyA3) : Ty).den} {v : Int} (h1 : pks (.pair tyA17 tyA3) vs = some x) (h2 : R21_asked x.1 x.2.1 = some v) (h3 : k ((unpack (.int .i64)) v)) : callK (lf_R21_asked vs) k := by
  rw [lq_R21_asked]; exact callK_lift h1 h2 h3
def tt_R21_asked : List (Nat × Ty) := [(3, .int .i64), (4, .bool), (113, .pair (.sl (.int .i64)) tyA11)]
def et_R21_asked : List (Nat × Nat) := []
theorem tt_R21_asked_ok : subT tt tt_R21_asked = true := by kernel_rfl
theorem et_R21_asked_ok : subE et et_R21_asked = true := by kernel_rfl
noncomputable def fns_R21_asked : List (Nat × (List AV → Option AV)) := [(110, lf_R21_Fine)]
theorem fns_R21_asked_ok : FnsOk Go.Proofs.Tryz.prog fns_R21_asked := FnsOk.cons c_R21_Fine (FnsOk.nil _)
def kp_R21_asked : List (Nat × List Nat) := [(0, [1, 2]), (1, [1, 7]), (2, [4]), (3, [13]), (4, [4]), (5, [4]), (4000000, [2]), (4000001, []), (4000002, []), (4000003, []), (4000004, []), (4000005, [])]
def od_R21_asked : List (Nat × Ord) := []
noncomputable def E_R21_asked : Env := ⟨0, 0, et_R21_asked, tt_R21_asked, fns_R21_asked, [], od_R21_asked, kp_R21_asked, none, []⟩
set_option maxRecDepth 100000 in
set_option maxHeartbeats 40000000 in
theorem c_R21_asked : PCon Go.Proofs.Tryz.prog 111 lf_R21_asked := by
  rw [lq_R21_asked]
  refine lift_conR (E := E_R21_asked) (c := bodyOf Tryz.f111) (nt := 14) (rs := [.tmp 4]) (ts := [3]) (EnvC.sub (off := 0) (nt := 0) (ords := od_R21_asked) (keep := kp_R21_asked) (yl := none) tt_ok et_ok fns_R21_asked_ok (PrsOk.nil _) (ItsOk.nil _) tt_R21_asked_ok et_R21_asked_ok) (PrOk.of mixed_ok) Go.Proofs.Tryz.func111 rfl (by decide) rfl rfl rfl (pureR_one (e := (.int .i64)) rfl) ?_
  intro x r hw hs
  repeat'
    (try (conv => whnf)
     first
       | (with_reducible have hs := letv_out hs)
       | (refine draw_and (by kernel_rfl) ?_)
       | (refine both_mk ?_ ?_)
       | (refine br_bool (fun h => ?_) (fun h => ?_) <;> first | have hs := cT h hs | have hs := cF h hs)
       | (refine bind_elim hs fun v hb hs => ?_; first | refine ck_R21_Fine rfl hb ?_)
       | refine chk_elim hs fun hs => ?_
       | (have hs := letv_out hs)
       | exact fin_some hs rfl
       | (intro b hb; first | have hs := nilq_elim hs b hb | have hs := nilqn_elim hs b hb)
       | (have hs := cT rfl hs)
       | (have hs := cF rfl hs)
       | exact (none_ne hs).elim)
noncomputable def lf_R21_Enrol : List AV → Option AV := liftF (.pair tyA17 tyA3) (unpR (.pair tyA17 tyA3)) (fun x => R21_Enrol x.1 x.2.1)
theorem lq_R21_Enrol : lf_R21_Enrol = liftF (.pair tyA17 tyA3) (unpR (.pair tyA17 tyA3)) (fun x => R21_Enrol x.1 x.2.1) := rfl
attribute [irreducible] lf_R21_Enrol
theorem ck_R21_Enrol {vs : List AV} {k : AV → Prop} {x : ((.pair tyA17 tyA3) : Ty).den} {v : tzA30 × Int × Unit} (h1 : pks (.pair tyA17 tyA3) vs = some x) (h2 : R21_Enrol x.1 x.2.1 = some v) (h3 : k ((unpR (.pair tyA17 tyA3)) v)) : callK (lf_R21_Enrol vs) k := by
  rw [lq_R21_Enrol]; exact callK_lift h1 h2 h3
def tt_R21_Enrol : List (Nat × Ty) := [(3, .int .i64), (26, .sl (.int .i64)), (113, .pair (.sl (.int .i64)) tyA11)]
def et_R21_Enrol : List (Nat × Nat) := [(26, 3)]
theorem tt_R21_Enrol_ok : subT tt tt_R21_Enrol = true := by kernel_rfl
theorem et_R21_Enrol_ok : subE et et_R21_Enrol = true := by kernel_rfl
noncomputable def fns_R21_Enrol : List (Nat × (List AV → Option AV)) := [(57, lf_R04_Has), (111, lf_R21_asked), (112, lf_R04_Add)]
theorem fns_R21_Enrol_ok : FnsOk Go.Proofs.Tryz.prog fns_R21_Enrol := FnsOk.cons c_R04_Has (FnsOk.cons c_R21_asked (FnsOk.cons c_R04_Add (FnsOk.nil _)))
def kp_R21_Enrol : List (Nat × List Nat) := [(0, [1, 2, 4]), (1, [1, 2, 4, 6]), (2, [1, 2, 4, 6, 11]), (3, [4, 5]), (4, [1, 2, 4, 17]), (5, [4, 5]), (6, [2, 4]), (7, [4, 5]), (4000000, [2, 4]), (4000001, [2, 4]), (4000002, [2, 4]), (4000003, [4]), (4000004, [2, 4]), (4000005, [4]), (4000006, [2, 4]), (4000007, [4])]
def od_R21_Enrol : List (Nat × Ord) := []
noncomputable def E_R21_Enrol : Env := ⟨0, 0, et_R21_Enrol, tt_R21_Enrol, fns_R21_Enrol, [], od_R21_Enrol, kp_R21_Enrol, none, []⟩
set_option maxRecDepth 100000 in
set_option maxHeartbeats 40000000 in
theorem c_R21_Enrol : PCon Go.Proofs.Tryz.prog 89 lf_R21_Enrol := by
  rw [lq_R21_Enrol]
  refine lift_conR (E := E_R21_Enrol) (c := bodyOf Tryz.f89) (nt := 25) (rs := [.cell 4 113, .tmp 5]) (ts := [113, 3]) (EnvC.sub (off := 0) (nt := 0) (ords := od_R21_Enrol) (keep := kp_R21_Enrol) (yl := none) tt_ok et_ok fns_R21_Enrol_ok (PrsOk.nil _) (ItsOk.nil _) tt_R21_Enrol_ok et_R21_Enrol_ok) (PrOk.of mixed_ok) Go.Proofs.Tryz.func89 rfl (by decide) rfl rfl rfl (pureR_many (e := (.pair tyA17 tyA3)) rfl) ?_
  intro x r hw hs
  repeat'
    (try (conv => whnf)
     first
       | (with_reducible have hs := letv_out hs)
       | (refine draw_and (by kernel_rfl) ?_)
       | (refine both_mk ?_ ?_)
       | (refine br_bool (fun h => ?_) (fun h => ?_) <;> first | have hs := cT h hs | have hs := cF h hs)
       | (refine bind_elim hs fun v hb hs => ?_; first | refine ck_R04_Has rfl hb ?_ | refine ck_R21_asked rfl hb ?_ | refine ck_R04_Add rfl hb ?_)
       | refine chk_elim hs fun hs => ?_
       | (have hs := letv_out hs)
       | exact fin_some hs rfl
       | (intro b hb; first | have hs := nilq_elim hs b hb | have hs := nilqn_elim hs b hb)
       | (have hs := cT rfl hs)
       | (have hs := cF rfl hs)
       | exact (none_ne hs).elim)
noncomputable def lf_R21_Offer : List AV → Option AV := liftF (.pair tyA17 tyA3) (unpR (.pair tyA17 tyA3)) (fun x => R21_Offer x.1 x.2.1)
theorem lq_R21_Offer : lf_R21_Offer = liftF (.pair tyA17 tyA3) (unpR (.pair tyA17 tyA3)) (fun x => R21_Offer x.1 x.2.1) := rfl
attribute [irreducible] lf_R21_Offer
theorem ck_R21_Offer {vs : List AV} {k : AV → Prop} {x : ((.pair tyA17 tyA3) : Ty).den} {v : tzA30 × Int × Unit} (h1 : pks (.pair tyA17 tyA3) vs = some x) (h2 : R21_Offer x.1 x.2.1 = some v) (h3 : k ((unpR (.pair tyA17 tyA3)) v)) : callK (lf_R21_Offer vs) k := by
  rw [lq_R21_Offer]; exact callK_lift h1 h2 h3
def tt_R21_Offer : List (Nat × Ty) := [(3, .int .i64), (4, .bool), (26, .sl (.int .i64)), (113, .pair (.sl (.int .i64)) tyA11)]
def et_R21_Offer : List (Nat × Nat) := [(26, 3)]
theorem tt_R21_Offer_ok : subT tt tt_R21_Offer = true := by kernel_rfl
theorem et_R21_Offer_ok : subE et et_R21_Offer = true := by kernel_rfl
noncomputable def fns_R21_Offer : List (Nat × (List AV → Option AV)) := [(57, lf_R04_Has), (111, lf_R21_asked), (112, lf_R04_Add)]
theorem fns_R21_Offer_ok : FnsOk Go.Proofs.Tryz.prog fns_R21_Offer := FnsOk.cons c_R04_Has (FnsOk.cons c_R21_asked (FnsOk.cons c_R04_Add (FnsOk.nil _)))
def kp_R21_Offer : List (Nat × List Nat) := [(0, [1, 2, 4]), (1, [1, 2, 4, 6]), (2, [1, 2, 4, 6, 11]), (3, [4, 5]), (4, [1, 2, 4, 18]), (5, [4, 5]), (6, [1, 2, 4, 23]), (7, [4, 5]), (8, [2, 4]), (9, [4, 5]), (4000000, [2, 4]), (4000001, [2, 4]), (4000002, [2, 4]), (4000003, [4]), (4000004, [2, 4]), (4000005, [4]), (4000006, [2, 4]), (4000007, [4]), (4000008, [2, 4]), (4000009, [4])]
def od_R21_Offer : List (Nat × Ord) := []
noncomputable def E_R21_Offer : Env := ⟨0, 0, et_R21_Offer, tt_R21_Offer, fns_R21_Offer, [], od_R21_Offer, kp_R21_Offer, none, []⟩
set_option maxRecDepth 100000 in
set_option maxHeartbeats 40000000 in
theorem c_R21_Offer : PCon Go.Proofs.Tryz.prog 90 lf_R21_Offer := by
  rw [lq_R21_Offer]
  refine lift_conR (E := E_R21_Offer) (c := bodyOf Tryz.f90) (nt := 31) (rs := [.cell 4 113, .tmp 5]) (ts := [113, 3]) (EnvC.sub (off := 0) (nt := 0) (ords := od_R21_Offer) (keep := kp_R21_Offer) (yl := none) tt_ok et_ok fns_R21_Offer_ok (PrsOk.nil _) (ItsOk.nil _) tt_R21_Offer_ok et_R21_Offer_ok) (PrOk.of mixed_ok) Go.Proofs.Tryz.func90 rfl (by decide) rfl rfl rfl (pureR_many (e := (.pair tyA17 tyA3)) rfl) ?_
  intro x r hw hs
  repeat'
    (try (conv => whnf)
     first
       | (with_reducible have hs := letv_out hs)
       | (refine draw_and (by kernel_rfl) ?_)
       | (refine both_mk ?_ ?_)
       | (refine br_bool (fun h => ?_) (fun h => ?_) <;> first | have hs := cT h hs | have hs := cF h hs)
       | (refine bind_elim hs fun v hb hs => ?_; first | refine ck_R04_Has rfl hb ?_ | refine ck_R21_asked rfl hb ?_ | refine ck_R04_Add rfl hb ?_)
       | refine chk_elim hs fun hs => ?_
       | (have hs := letv_out hs)
       | exact fin_some hs rfl
       | (intro b hb; first | have hs := nilq_elim hs b hb | have hs := nilqn_elim hs b hb)
       | (have hs := cT rfl hs)
       | (have hs := cF rfl hs)
       | exact (none_ne hs).elim)
end Go.Proofs.YtbkccpddkpclaaaGreatDoorV
namespace Go.Proofs.YtbkccpddkpclaaaGreatDoorV
open Go.Proofs
set_option linter.unusedVariables false
noncomputable def lf_R22_Fine : List AV → Option AV := liftF (.pair tyA5 .unit) (unpack .bool) (fun x => R22_Fine x.1)
theorem lq_R22_Fine : lf_R22_Fine = liftF (.pair tyA5 .unit) (unpack .bool) (fun x => R22_Fine x.1) := rfl
attribute [irreducible] lf_R22_Fine
theorem ck_R22_Fine {vs : List AV} {k : AV → Prop} {x : ((.pair tyA5 .unit) : Ty).den} {v : Bool} (h1 : pks (.pair tyA5 .unit) vs = some x) (h2 : R22_Fine x.1 = some v) (h3 : k ((unpack .bool) v)) : callK (lf_R22_Fine vs) k := by
  rw [lq_R22_Fine]; exact callK_lift h1 h2 h3
def tt_R22_Fine : List (Nat × Ty) := [(3, .int .i64), (4, .bool), (111, .pair .bool tyA3), (113, .pair (.sl (.int .i64)) tyA11), (115, .pair (.pair .bool tyA3) (.pair tyA17 tyA3))]
def et_R22_Fine : List (Nat × Nat) := []
theorem tt_R22_Fine_ok : subT tt tt_R22_Fine = true := by kernel_rfl
theorem et_R22_Fine_ok : subE et et_R22_Fine = true := by kernel_rfl
noncomputable def fns_R22_Fine : List (Nat × (List AV → Option AV)) := [(109, lf_R20_Fine), (110, lf_R21_Fine)]
theorem fns_R22_Fine_ok : FnsOk Go.Proofs.Tryz.prog fns_R22_Fine := FnsOk.cons c_R20_Fine (FnsOk.cons c_R21_Fine (FnsOk.nil _))
def kp_R22_Fine : List (Nat × List Nat) := [(0, [1]), (1, [2]), (4000000, [1]), (4000001, [])]
def od_R22_Fine : List (Nat × Ord) := []
noncomputable def E_R22_Fine : Env := ⟨0, 0, et_R22_Fine, tt_R22_Fine, fns_R22_Fine, [], od_R22_Fine, kp_R22_Fine, none, []⟩
set_option maxRecDepth 100000 in
set_option maxHeartbeats 40000000 in
theorem c_R22_Fine : PCon Go.Proofs.Tryz.prog 85 lf_R22_Fine := by
  rw [lq_R22_Fine]
  refine lift_conR (E := E_R22_Fine) (c := bodyOf Tryz.f85) (nt := 14) (rs := [.tmp 2]) (ts := [4]) (EnvC.sub (off := 0) (nt := 0) (ords := od_R22_Fine) (keep := kp_R22_Fine) (yl := none) tt_ok et_ok fns_R22_Fine_ok (PrsOk.nil _) (ItsOk.nil _) tt_R22_Fine_ok et_R22_Fine_ok) (PrOk.of mixed_ok) Go.Proofs.Tryz.func85 rfl (by decide) rfl rfl rfl (pureR_one (e := .bool) rfl) ?_
  intro x r hw hs
  repeat'
    (try (conv => whnf)
     first
       | (with_reducible have hs := letv_out hs)
       | (refine draw_and (by kernel_rfl) ?_)
       | (refine both_mk ?_ ?_)
       | (refine br_bool (fun h => ?_) (fun h => ?_) <;> first | have hs := cT h hs | have hs := cF h hs)
       | (refine bind_elim hs fun v hb hs => ?_; first | refine ck_R20_Fine rfl hb ?_ | refine ck_R21_Fine rfl hb ?_)
       | refine chk_elim hs fun hs => ?_
       | (have hs := letv_out hs)
       | exact fin_some hs rfl
       | (intro b hb; first | have hs := nilq_elim hs b hb | have hs := nilqn_elim hs b hb)
       | (have hs := cT rfl hs)
       | (have hs := cF rfl hs)
       | exact (none_ne hs).elim)
noncomputable def lf_R22_Ready : List AV → Option AV := liftF (.pair tyA5 .unit) (unpack .bool) (fun x => R22_Ready x.1)
attribute [irreducible] lf_R22_Ready
noncomputable def lf_R22_Check : List AV → Option AV := liftF (.pair (.pair .bool tyA3) .unit) (unpack (.int .i64)) (fun x => R22_Check x.1)
theorem lq_R22_Check : lf_R22_Check = liftF (.pair (.pair .bool tyA3) .unit) (unpack (.int .i64)) (fun x => R22_Check x.1) := rfl
attribute [irreducible] lf_R22_Check
theorem ck_R22_Check {vs : List AV} {k : AV → Prop} {x : ((.pair (.pair .bool tyA3) .unit) : Ty).den} {v : Int} (h1 : pks (.pair (.pair .bool tyA3) .unit) vs = some x) (h2 : R22_Check x.1 = some v) (h3 : k ((unpack (.int .i64)) v)) : callK (lf_R22_Check vs) k := by
  rw [lq_R22_Check]; exact callK_lift h1 h2 h3
def tt_R22_Check : List (Nat × Ty) := [(3, .int .i64), (111, .pair .bool tyA3)]
def et_R22_Check : List (Nat × Nat) := []
theorem tt_R22_Check_ok : subT tt tt_R22_Check = true := by kernel_rfl
theorem et_R22_Check_ok : subE et et_R22_Check = true := by kernel_rfl
noncomputable def fns_R22_Check : List (Nat × (List AV → Option AV)) := []
theorem fns_R22_Check_ok : FnsOk Go.Proofs.Tryz.prog fns_R22_Check := FnsOk.nil _
def kp_R22_Check : List (Nat × List Nat) := [(0, [1]), (1, [10]), (2, [2]), (3, [2]), (4000000, [1]), (4000001, []), (4000002, []), (4000003, [])]
def od_R22_Check : List (Nat × Ord) := []
noncomputable def E_R22_Check : Env := ⟨0, 0, et_R22_Check, tt_R22_Check, fns_R22_Check, [], od_R22_Check, kp_R22_Check, none, []⟩
set_option maxRecDepth 100000 in
set_option maxHeartbeats 40000000 in
theorem c_R22_Check : PCon Go.Proofs.Tryz.prog 88 lf_R22_Check := by
  rw [lq_R22_Check]
  refine lift_conR (E := E_R22_Check) (c := bodyOf Tryz.f88) (nt := 11) (rs := [.tmp 2]) (ts := [3]) (EnvC.sub (off := 0) (nt := 0) (ords := od_R22_Check) (keep := kp_R22_Check) (yl := none) tt_ok et_ok fns_R22_Check_ok (PrsOk.nil _) (ItsOk.nil _) tt_R22_Check_ok et_R22_Check_ok) (PrOk.of mixed_ok) Go.Proofs.Tryz.func88 rfl (by decide) rfl rfl rfl (pureR_one (e := (.int .i64)) rfl) ?_
  intro x r hw hs
  repeat'
    (try (conv => whnf)
     first
       | (with_reducible have hs := letv_out hs)
       | (refine draw_and (by kernel_rfl) ?_)
       | (refine both_mk ?_ ?_)
       | (refine br_bool (fun h => ?_) (fun h => ?_) <;> first | have hs := cT h hs | have hs := cF h hs)
       | refine chk_elim hs fun hs => ?_
       | (have hs := letv_out hs)
       | exact fin_some hs rfl
       | (intro b hb; first | have hs := nilq_elim hs b hb | have hs := nilqn_elim hs b hb)
       | (have hs := cT rfl hs)
       | (have hs := cF rfl hs)
       | exact (none_ne hs).elim)
noncomputable def lf_R22_New : List AV → Option AV := liftF (.pair (.pair .bool tyA3) .unit) (unpR (.pair tyA5 tyA3)) (fun x => R22_New x.1)
theorem lq_R22_New : lf_R22_New = liftF (.pair (.pair .bool tyA3) .unit) (unpR (.pair tyA5 tyA3)) (fun x => R22_New x.1) := rfl
attribute [irreducible] lf_R22_New
theorem ck_R22_New {vs : List AV} {k : AV → Prop} {x : ((.pair (.pair .bool tyA3) .unit) : Ty).den} {v : tzA4 × Int × Unit} (h1 : pks (.pair (.pair .bool tyA3) .unit) vs = some x) (h2 : R22_New x.1 = some v) (h3 : k ((unpR (.pair tyA5 tyA3)) v)) : callK (lf_R22_New vs) k := by
  rw [lq_R22_New]; exact callK_lift h1 h2 h3
def tt_R22_New : List (Nat × Ty) := [(3, .int .i64), (111, .pair .bool tyA3), (115, .pair (.pair .bool tyA3) (.pair tyA17 tyA3))]
def et_R22_New : List (Nat × Nat) := []
theorem tt_R22_New_ok : subT tt tt_R22_New = true := by kernel_rfl
theorem et_R22_New_ok : subE et et_R22_New = true := by kernel_rfl
noncomputable def fns_R22_New : List (Nat × (List AV → Option AV)) := [(88, lf_R22_Check)]
theorem fns_R22_New_ok : FnsOk Go.Proofs.Tryz.prog fns_R22_New := FnsOk.cons c_R22_Check (FnsOk.nil _)
def kp_R22_New : List (Nat × List Nat) := [(0, [1, 2]), (1, [1, 2, 4]), (2, [1, 2, 4, 8]), (3, [2, 3]), (4, [2, 3]), (4000000, [1, 2]), (4000001, [1, 2]), (4000002, [1, 2]), (4000003, [2]), (4000004, [2])]
def od_R22_New : List (Nat × Ord) := []
noncomputable def E_R22_New : Env := ⟨0, 0, et_R22_New, tt_R22_New, fns_R22_New, [], od_R22_New, kp_R22_New, none, []⟩
set_option maxRecDepth 100000 in
set_option maxHeartbeats 40000000 in
theorem c_R22_New : PCon Go.Proofs.Tryz.prog 59 lf_R22_New := by
  rw [lq_R22_New]
  refine lift_conR (E := E_R22_New) (c := bodyOf Tryz.f59) (nt := 13) (rs := [.cell 2 115, .tmp 3]) (ts := [115, 3]) (EnvC.sub (off := 0) (nt := 0) (ords := od_R22_New) (keep := kp_R22_New) (yl := none) tt_ok et_ok fns_R22_New_ok (PrsOk.nil _) (ItsOk.nil _) tt_R22_New_ok et_R22_New_ok) (PrOk.of mixed_ok) Go.Proofs.Tryz.func59 rfl (by decide) rfl rfl rfl (pureR_many (e := (.pair tyA5 tyA3)) rfl) ?_
  intro x r hw hs
  repeat'
    (try (conv => whnf)
     first
       | (with_reducible have hs := letv_out hs)
       | (refine draw_and (by kernel_rfl) ?_)
       | (refine both_mk ?_ ?_)
       | (refine br_bool (fun h => ?_) (fun h => ?_) <;> first | have hs := cT h hs | have hs := cF h hs)
       | (refine bind_elim hs fun v hb hs => ?_; first | refine ck_R22_Check rfl hb ?_)
       | refine chk_elim hs fun hs => ?_
       | (have hs := letv_out hs)
       | exact fin_some hs rfl
       | (intro b hb; first | have hs := nilq_elim hs b hb | have hs := nilqn_elim hs b hb)
       | (have hs := cT rfl hs)
       | (have hs := cF rfl hs)
       | exact (none_ne hs).elim)
noncomputable def lf_R22_Enrol : List AV → Option AV := liftF (.pair tyA5 tyA3) (unpR (.pair tyA5 tyA3)) (fun x => R22_Enrol x.1 x.2.1)
theorem lq_R22_Enrol : lf_R22_Enrol = liftF (.pair tyA5 tyA3) (unpR (.pair tyA5 tyA3)) (fun x => R22_Enrol x.1 x.2.1) := rfl
attribute [irreducible] lf_R22_Enrol
theorem ck_R22_Enrol {vs : List AV} {k : AV → Prop} {x : ((.pair tyA5 tyA3) : Ty).den} {v : tzA4 × Int × Unit} (h1 : pks (.pair tyA5 tyA3) vs = some x) (h2 : R22_Enrol x.1 x.2.1 = some v) (h3 : k ((unpR (.pair tyA5 tyA3)) v)) : callK (lf_R22_Enrol vs) k := by
  rw [lq_R22_Enrol]; exact callK_lift h1 h2 h3
def tt_R22_Enrol : List (Nat × Ty) := [(3, .int .i64), (4, .bool), (113, .pair (.sl (.int .i64)) tyA11), (115, .pair (.pair .bool tyA3) (.pair tyA17 tyA3))]
def et_R22_Enrol : List (Nat × Nat) := []
theorem tt_R22_Enrol_ok : subT tt tt_R22_Enrol = true := by kernel_rfl
theorem et_R22_Enrol_ok : subE et et_R22_Enrol = true := by kernel_rfl
noncomputable def fns_R22_Enrol : List (Nat × (List AV → Option AV)) := [(85, lf_R22_Fine), (89, lf_R21_Enrol)]
theorem fns_R22_Enrol_ok : FnsOk Go.Proofs.Tryz.prog fns_R22_Enrol := FnsOk.cons c_R22_Fine (FnsOk.cons c_R21_Enrol (FnsOk.nil _))
def kp_R22_Enrol : List (Nat × List Nat) := [(0, [1, 2, 4]), (1, [1, 2, 4, 10]), (2, [4, 5]), (3, [2, 4, 6, 7]), (4, [2, 4, 7]), (5, [4, 5]), (4000000, [2, 4]), (4000001, [2, 4]), (4000002, [4]), (4000003, [2, 4, 6]), (4000004, [2, 4]), (4000005, [4])]
def od_R22_Enrol : List (Nat × Ord) := []
noncomputable def E_R22_Enrol : Env := ⟨0, 0, et_R22_Enrol, tt_R22_Enrol, fns_R22_Enrol, [], od_R22_Enrol, kp_R22_Enrol, none, []⟩
set_option maxRecDepth 100000 in
set_option maxHeartbeats 40000000 in
theorem c_R22_Enrol : PCon Go.Proofs.Tryz.prog 61 lf_R22_Enrol := by
  rw [lq_R22_Enrol]
  refine lift_conR (E := E_R22_Enrol) (c := bodyOf Tryz.f61) (nt := 23) (rs := [.cell 4 115, .tmp 5]) (ts := [115, 3]) (EnvC.sub (off := 0) (nt := 0) (ords := od_R22_Enrol) (keep := kp_R22_Enrol) (yl := none) tt_ok et_ok fns_R22_Enrol_ok (PrsOk.nil _) (ItsOk.nil _) tt_R22_Enrol_ok et_R22_Enrol_ok) (PrOk.of mixed_ok) Go.Proofs.Tryz.func61 rfl (by decide) rfl rfl rfl (pureR_many (e := (.pair tyA5 tyA3)) rfl) ?_
  intro x r hw hs
  repeat'
    (try (conv => whnf)
     first
       | (with_reducible have hs := letv_out hs)
       | (refine draw_and (by kernel_rfl) ?_)
       | (refine both_mk ?_ ?_)
       | (refine br_bool (fun h => ?_) (fun h => ?_) <;> first | have hs := cT h hs | have hs := cF h hs)
       | (refine bind_elim hs fun v hb hs => ?_; first | refine ck_R22_Fine rfl hb ?_ | refine ck_R21_Enrol rfl hb ?_)
       | refine chk_elim hs fun hs => ?_
       | (have hs := letv_out hs)
       | exact fin_some hs rfl
       | (intro b hb; first | have hs := nilq_elim hs b hb | have hs := nilqn_elim hs b hb)
       | (have hs := cT rfl hs)
       | (have hs := cF rfl hs)
       | exact (none_ne hs).elim)
noncomputable def lf_R22_Offer : List AV → Option AV := liftF (.pair tyA5 (.pair (.int .i64) (.pair .bool .unit))) (unpR (.pair tyA5 tyA3)) (fun x => R22_Offer x.1 x.2.1 x.2.2.1)
theorem lq_R22_Offer : lf_R22_Offer = liftF (.pair tyA5 (.pair (.int .i64) (.pair .bool .unit))) (unpR (.pair tyA5 tyA3)) (fun x => R22_Offer x.1 x.2.1 x.2.2.1) := rfl
attribute [irreducible] lf_R22_Offer
theorem ck_R22_Offer {vs : List AV} {k : AV → Prop} {x : ((.pair tyA5 (.pair (.int .i64) (.pair .bool .unit))) : Ty).den} {v : tzA4 × Int × Unit} (h1 : pks (.pair tyA5 (.pair (.int .i64) (.pair .bool .unit))) vs = some x) (h2 : R22_Offer x.1 x.2.1 x.2.2.1 = some v) (h3 : k ((unpR (.pair tyA5 tyA3)) v)) : callK (lf_R22_Offer vs) k := by
  rw [lq_R22_Offer]; exact callK_lift h1 h2 h3
def tt_R22_Offer : List (Nat × Ty) := [(3, .int .i64), (4, .bool), (111, .pair .bool tyA3), (113, .pair (.sl (.int .i64)) tyA11), (115, .pair (.pair .bool tyA3) (.pair tyA17 tyA3))]
def et_R22_Offer : List (Nat × Nat) := []
theorem tt_R22_Offer_ok : subT tt tt_R22_Offer = true := by kernel_rfl
theorem et_R22_Offer_ok : subE et et_R22_Offer = true := by kernel_rfl
noncomputable def fns_R22_Offer : List (Nat × (List AV → Option AV)) := [(85, lf_R22_Fine), (90, lf_R21_Offer)]
theorem fns_R22_Offer_ok : FnsOk Go.Proofs.Tryz.prog fns_R22_Offer := FnsOk.cons c_R22_Fine (FnsOk.cons c_R21_Offer (FnsOk.nil _))
def kp_R22_Offer : List (Nat × List Nat) := [(0, [1, 2, 3, 6]), (1, [1, 2, 3, 6, 12]), (2, [6, 7]), (3, [1, 3, 6, 20]), (4, [6, 7]), (5, [1, 3, 6, 27]), (6, [6, 7]), (7, [3, 6, 8, 9]), (8, [3, 6, 9]), (9, [6, 7]), (4000000, [3, 6]), (4000001, [3, 6]), (4000002, [6]), (4000003, [3, 6]), (4000004, [6]), (4000005, [3, 6]), (4000006, [6]), (4000007, [3, 6, 8]), (4000008, [3, 6]), (4000009, [6])]
def od_R22_Offer : List (Nat × Ord) := []
noncomputable def E_R22_Offer : Env := ⟨0, 0, et_R22_Offer, tt_R22_Offer, fns_R22_Offer, [], od_R22_Offer, kp_R22_Offer, none, []⟩
set_option maxRecDepth 100000 in
set_option maxHeartbeats 40000000 in
theorem c_R22_Offer : PCon Go.Proofs.Tryz.prog 63 lf_R22_Offer := by
  rw [lq_R22_Offer]
  refine lift_conR (E := E_R22_Offer) (c := bodyOf Tryz.f63) (nt := 40) (rs := [.cell 6 115, .tmp 7]) (ts := [115, 3]) (EnvC.sub (off := 0) (nt := 0) (ords := od_R22_Offer) (keep := kp_R22_Offer) (yl := none) tt_ok et_ok fns_R22_Offer_ok (PrsOk.nil _) (ItsOk.nil _) tt_R22_Offer_ok et_R22_Offer_ok) (PrOk.of mixed_ok) Go.Proofs.Tryz.func63 rfl (by decide) rfl rfl rfl (pureR_many (e := (.pair tyA5 tyA3)) rfl) ?_
  intro x r hw hs
  repeat'
    (try (conv => whnf)
     first
       | (with_reducible have hs := letv_out hs)
       | (refine draw_and (by kernel_rfl) ?_)
       | (refine both_mk ?_ ?_)
       | (refine br_bool (fun h => ?_) (fun h => ?_) <;> first | have hs := cT h hs | have hs := cF h hs)
       | (refine bind_elim hs fun v hb hs => ?_; first | refine ck_R22_Fine rfl hb ?_ | refine ck_R21_Offer rfl hb ?_)
       | refine chk_elim hs fun hs => ?_
       | (have hs := letv_out hs)
       | exact fin_some hs rfl
       | (intro b hb; first | have hs := nilq_elim hs b hb | have hs := nilqn_elim hs b hb)
       | (have hs := cT rfl hs)
       | (have hs := cF rfl hs)
       | exact (none_ne hs).elim)
end Go.Proofs.YtbkccpddkpclaaaGreatDoorV
