import Derived.Test.YtbkccpddkpclaaaGreatDoorBVcTab
import Derived.Test.YtbkccpddkpclaaaGreatDoorBDDReady
import Derived.Test.YtbkccpddkpclaaaGreatDoorBCCRg0a
namespace Go.Proofs.YtbkccpddkpclaaaGreatDoorV
open Go.Proofs
set_option linter.unusedVariables false
noncomputable def lf_R23_New : List AV → Option AV := liftF (.pair (.sl (.pair .bool tyA3)) .unit) (unpR tyA28) (fun x => R23_New x.1)
theorem lq_R23_New : lf_R23_New = liftF (.pair (.sl (.pair .bool tyA3)) .unit) (unpR tyA28) (fun x => R23_New x.1) := rfl
attribute [irreducible] lf_R23_New
theorem ck_R23_New {vs : List AV} {k : AV → Prop} {x : ((.pair (.sl (.pair .bool tyA3)) .unit) : Ty).den} {v : (List tzA4) × Int × Int × Unit} (h1 : pks (.pair (.sl (.pair .bool tyA3)) .unit) vs = some x) (h2 : R23_New x.1 = some v) (h3 : k ((unpR tyA28) v)) : callK (lf_R23_New vs) k := by
  rw [lq_R23_New]; exact callK_lift h1 h2 h3
def tt_R23_New : List (Nat × Ty) := [(3, .int .i64), (23, .sl tyA5), (51, .sl (.pair .bool tyA3)), (111, .pair .bool tyA3), (115, .pair (.pair .bool tyA3) (.pair tyA17 tyA3))]
def et_R23_New : List (Nat × Nat) := [(23, 115), (51, 111)]
theorem tt_R23_New_ok : subT tt tt_R23_New = true := by kernel_rfl
theorem et_R23_New_ok : subE et et_R23_New = true := by kernel_rfl
noncomputable def fns_R23_New : List (Nat × (List AV → Option AV)) := [(59, lf_R22_New)]
theorem fns_R23_New_ok : FnsOk Go.Proofs.Tryz.prog fns_R23_New := FnsOk.cons c_R22_New (FnsOk.nil _)
def R23_New_S1 (u0 : AV) (u1 : AV) (x1 : Int × (List tzA4)) : St :=
  ⟨[(0, u0), (5, u1), (6, .int .i64 x1.1)], [(33, .row 115 tyA5 x1.2 false)], none⟩
def R23_New_M1 : Msk := ⟨[0, 5, 6], [33], [(5, 33, 23)], [], [], [], [], [], []⟩
def kp_R23_New : List (Nat × List Nat) := [(0, [0]), (1, [0, 11]), (2, [2, 3, 4]), (3, [0, 5]), (4, [0, 5, 6]), (5, [0, 5, 6, 15]), (6, [0, 5, 6]), (7, [0, 5, 6, 7, 8]), (8, [0, 5, 6, 7, 8, 27]), (9, [2, 3, 4]), (10, [0, 5, 6]), (11, [2, 3, 4]), (4000000, []), (4000001, []), (4000002, []), (4000003, []), (4000004, []), (4000005, [33]), (4000006, [33]), (4000007, [7, 33]), (4000008, [7, 33]), (4000009, []), (4000010, [33]), (4000011, [33])]
def od_R23_New : List (Nat × Ord) := []
noncomputable def E_R23_New : Env := ⟨0, 0, et_R23_New, tt_R23_New, fns_R23_New, [], od_R23_New, kp_R23_New, none, []⟩
set_option maxRecDepth 100000 in
set_option maxHeartbeats 40000000 in
theorem c_R23_New : PCon Go.Proofs.Tryz.prog 27 lf_R23_New := by
  rw [lq_R23_New]
  refine lift_conR (E := E_R23_New) (c := bodyOf Tryz.f27) (nt := 35) (rs := [.tmp 2, .tmp 3, .tmp 4]) (ts := [23, 3, 3]) (EnvC.sub (off := 0) (nt := 0) (ords := od_R23_New) (keep := kp_R23_New) (yl := none) tt_ok et_ok fns_R23_New_ok (PrsOk.nil _) (ItsOk.nil _) tt_R23_New_ok et_R23_New_ok) (PrOk.of mixed_ok) Go.Proofs.Tryz.func27 rfl (by decide) rfl rfl rfl (pureR_many (e := tyA28) rfl) ?_
  intro x r hw hs
  repeat'
    (try (conv => whnf)
     first
       | (with_reducible have hs := letv_out hs)
       | (refine draw_and (by kernel_rfl) ?_)
       | (refine both_mk ?_ ?_)
       | (refine br_bool (fun h => ?_) (fun h => ?_) <;> first | have hs := cT h hs | have hs := cF h hs)
       | (refine bind_elim hs fun v hb hs => ?_; first | refine ck_R22_New rfl hb ?_)
       | refine chk_elim hs fun hs => ?_
       | (have hs := letv_out hs)
       | exact fin_some hs rfl
       | (intro b hb; first | have hs := nilq_elim hs b hb | have hs := nilqn_elim hs b hb)
       | exact hJ1 _ hs
       | (have hs := cT rfl hs)
       | (have hs := cF rfl hs)
       | ((with_reducible have hs : loop (R23_New_L1 _) _ = some _ := hs); refine vc_loopR (R23_New_S1 _ _) R23_New_M1 hs rfl ?_; intro J1 k1 x1 hJ1 hs)
       | (refine vc_loopR (R23_New_S1 _ _) R23_New_M1 hs rfl ?_; intro J1 k1 x1 hJ1 hs)
       | exact (none_ne hs).elim)
noncomputable def lf_R23_is : List AV → Option AV := liftF (.pair (.sl tyA5) tyA3) (unpack .bool) (fun x => R23_is x.1 x.2.1)
theorem lq_R23_is : lf_R23_is = liftF (.pair (.sl tyA5) tyA3) (unpack .bool) (fun x => R23_is x.1 x.2.1) := rfl
attribute [irreducible] lf_R23_is
theorem ck_R23_is {vs : List AV} {k : AV → Prop} {x : ((.pair (.sl tyA5) tyA3) : Ty).den} {v : Bool} (h1 : pks (.pair (.sl tyA5) tyA3) vs = some x) (h2 : R23_is x.1 x.2.1 = some v) (h3 : k ((unpack .bool) v)) : callK (lf_R23_is vs) k := by
  rw [lq_R23_is]; exact callK_lift h1 h2 h3
def tt_R23_is : List (Nat × Ty) := [(3, .int .i64), (4, .bool), (23, .sl tyA5)]
def et_R23_is : List (Nat × Nat) := [(23, 115)]
theorem tt_R23_is_ok : subT tt tt_R23_is = true := by kernel_rfl
theorem et_R23_is_ok : subE et et_R23_is = true := by kernel_rfl
noncomputable def fns_R23_is : List (Nat × (List AV → Option AV)) := []
theorem fns_R23_is_ok : FnsOk Go.Proofs.Tryz.prog fns_R23_is := FnsOk.nil _
def kp_R23_is : List (Nat × List Nat) := [(0, [0, 1]), (1, [4]), (4000000, []), (4000001, [])]
def od_R23_is : List (Nat × Ord) := []
noncomputable def E_R23_is : Env := ⟨0, 0, et_R23_is, tt_R23_is, fns_R23_is, [], od_R23_is, kp_R23_is, none, []⟩
set_option maxRecDepth 100000 in
set_option maxHeartbeats 40000000 in
theorem c_R23_is : PCon Go.Proofs.Tryz.prog 60 lf_R23_is := by
  rw [lq_R23_is]
  refine lift_conR (E := E_R23_is) (c := bodyOf Tryz.f60) (nt := 13) (rs := [.tmp 4]) (ts := [4]) (EnvC.sub (off := 0) (nt := 0) (ords := od_R23_is) (keep := kp_R23_is) (yl := none) tt_ok et_ok fns_R23_is_ok (PrsOk.nil _) (ItsOk.nil _) tt_R23_is_ok et_R23_is_ok) (PrOk.of mixed_ok) Go.Proofs.Tryz.func60 rfl (by decide) rfl rfl rfl (pureR_one (e := .bool) rfl) ?_
  intro x r hw hs
  repeat'
    (try (conv => whnf)
     first
       | (with_reducible have hs := letv_out hs)
       | (refine draw_and (by kernel_rfl) ?_)
       | (refine both_mk ?_ ?_)
       | (refine br_bool (fun h => ?_) (fun h => ?_) <;> first | have hs := cT h hs | have hs := cF h hs)
       | refine chk_elim hs fun hs => ?_
       | (have hs := letv_out hs)
       | exact fin_some hs rfl
       | (intro b hb; first | have hs := nilq_elim hs b hb | have hs := nilqn_elim hs b hb)
       | (have hs := cT rfl hs)
       | (have hs := cF rfl hs)
       | exact (none_ne hs).elim)
noncomputable def lf_R23_put : List AV → Option AV := liftF (.pair (.sl tyA5) (.pair (.int .i64) (.pair tyA5 tyA3))) (unpR (.pair (.sl tyA5) tyA3)) (fun x => R23_put x.1 x.2.1 x.2.2.1 x.2.2.2.1)
theorem lq_R23_put : lf_R23_put = liftF (.pair (.sl tyA5) (.pair (.int .i64) (.pair tyA5 tyA3))) (unpR (.pair (.sl tyA5) tyA3)) (fun x => R23_put x.1 x.2.1 x.2.2.1 x.2.2.2.1) := rfl
attribute [irreducible] lf_R23_put
theorem ck_R23_put {vs : List AV} {k : AV → Prop} {x : ((.pair (.sl tyA5) (.pair (.int .i64) (.pair tyA5 tyA3))) : Ty).den} {v : (List tzA4) × Int × Unit} (h1 : pks (.pair (.sl tyA5) (.pair (.int .i64) (.pair tyA5 tyA3))) vs = some x) (h2 : R23_put x.1 x.2.1 x.2.2.1 x.2.2.2.1 = some v) (h3 : k ((unpR (.pair (.sl tyA5) tyA3)) v)) : callK (lf_R23_put vs) k := by
  rw [lq_R23_put]; exact callK_lift h1 h2 h3
def tt_R23_put : List (Nat × Ty) := [(3, .int .i64), (23, .sl tyA5), (115, .pair (.pair .bool tyA3) (.pair tyA17 tyA3))]
def et_R23_put : List (Nat × Nat) := [(23, 115)]
theorem tt_R23_put_ok : subT tt tt_R23_put = true := by kernel_rfl
theorem et_R23_put_ok : subE et et_R23_put = true := by kernel_rfl
noncomputable def fns_R23_put : List (Nat × (List AV → Option AV)) := []
theorem fns_R23_put_ok : FnsOk Go.Proofs.Tryz.prog fns_R23_put := FnsOk.nil _
def kp_R23_put : List (Nat × List Nat) := [(0, [0, 1, 3, 6]), (1, [0, 1, 3, 6, 12]), (2, [8, 9]), (3, [1, 6, 10]), (4, [10]), (5, [8, 9]), (4000000, [6]), (4000001, [6]), (4000002, []), (4000003, [6, 16]), (4000004, [16]), (4000005, [16])]
def od_R23_put : List (Nat × Ord) := []
noncomputable def E_R23_put : Env := ⟨0, 0, et_R23_put, tt_R23_put, fns_R23_put, [], od_R23_put, kp_R23_put, none, []⟩
set_option maxRecDepth 100000 in
set_option maxHeartbeats 40000000 in
theorem c_R23_put : PCon Go.Proofs.Tryz.prog 62 lf_R23_put := by
  rw [lq_R23_put]
  refine lift_conR (E := E_R23_put) (c := bodyOf Tryz.f62) (nt := 22) (rs := [.tmp 8, .tmp 9]) (ts := [23, 3]) (EnvC.sub (off := 0) (nt := 0) (ords := od_R23_put) (keep := kp_R23_put) (yl := none) tt_ok et_ok fns_R23_put_ok (PrsOk.nil _) (ItsOk.nil _) tt_R23_put_ok et_R23_put_ok) (PrOk.of mixed_ok) Go.Proofs.Tryz.func62 rfl (by decide) rfl rfl rfl (pureR_many (e := (.pair (.sl tyA5) tyA3)) rfl) ?_
  intro x r hw hs
  repeat'
    (try (conv => whnf)
     first
       | (with_reducible have hs := letv_out hs)
       | (refine draw_and (by kernel_rfl) ?_)
       | (refine both_mk ?_ ?_)
       | (refine br_bool (fun h => ?_) (fun h => ?_) <;> first | have hs := cT h hs | have hs := cF h hs)
       | refine chk_elim hs fun hs => ?_
       | (have hs := letv_out hs)
       | exact fin_some hs rfl
       | (intro b hb; first | have hs := nilq_elim hs b hb | have hs := nilqn_elim hs b hb)
       | (have hs := cT rfl hs)
       | (have hs := cF rfl hs)
       | exact (none_ne hs).elim)
noncomputable def lf_R23_Enrol : List AV → Option AV := liftF tyA28 (unpR (.pair (.sl tyA5) tyA3)) (fun x => R23_Enrol x.1 x.2.1 x.2.2.1)
theorem lq_R23_Enrol : lf_R23_Enrol = liftF tyA28 (unpR (.pair (.sl tyA5) tyA3)) (fun x => R23_Enrol x.1 x.2.1 x.2.2.1) := rfl
attribute [irreducible] lf_R23_Enrol
theorem ck_R23_Enrol {vs : List AV} {k : AV → Prop} {x : (tyA28 : Ty).den} {v : (List tzA4) × Int × Unit} (h1 : pks tyA28 vs = some x) (h2 : R23_Enrol x.1 x.2.1 x.2.2.1 = some v) (h3 : k ((unpR (.pair (.sl tyA5) tyA3)) v)) : callK (lf_R23_Enrol vs) k := by
  rw [lq_R23_Enrol]; exact callK_lift h1 h2 h3
def tt_R23_Enrol : List (Nat × Ty) := [(3, .int .i64), (4, .bool), (23, .sl tyA5), (115, .pair (.pair .bool tyA3) (.pair tyA17 tyA3))]
def et_R23_Enrol : List (Nat × Nat) := [(23, 115)]
theorem tt_R23_Enrol_ok : subT tt tt_R23_Enrol = true := by kernel_rfl
theorem et_R23_Enrol_ok : subE et et_R23_Enrol = true := by kernel_rfl
noncomputable def fns_R23_Enrol : List (Nat × (List AV → Option AV)) := [(60, lf_R23_is), (61, lf_R22_Enrol), (62, lf_R23_put)]
theorem fns_R23_Enrol_ok : FnsOk Go.Proofs.Tryz.prog fns_R23_Enrol := FnsOk.cons c_R23_is (FnsOk.cons c_R22_Enrol (FnsOk.cons c_R23_put (FnsOk.nil _)))
def kp_R23_Enrol : List (Nat × List Nat) := [(0, [0, 1, 2]), (1, [0, 1, 2, 13]), (2, [6, 7]), (3, [0, 1, 8, 9]), (4, [6, 7]), (4000000, []), (4000001, []), (4000002, []), (4000003, [8]), (4000004, [])]
def od_R23_Enrol : List (Nat × Ord) := []
noncomputable def E_R23_Enrol : Env := ⟨0, 0, et_R23_Enrol, tt_R23_Enrol, fns_R23_Enrol, [], od_R23_Enrol, kp_R23_Enrol, none, []⟩
set_option maxRecDepth 100000 in
set_option maxHeartbeats 40000000 in
theorem c_R23_Enrol : PCon Go.Proofs.Tryz.prog 28 lf_R23_Enrol := by
  rw [lq_R23_Enrol]
  refine lift_conR (E := E_R23_Enrol) (c := bodyOf Tryz.f28) (nt := 31) (rs := [.tmp 6, .tmp 7]) (ts := [23, 3]) (EnvC.sub (off := 0) (nt := 0) (ords := od_R23_Enrol) (keep := kp_R23_Enrol) (yl := none) tt_ok et_ok fns_R23_Enrol_ok (PrsOk.nil _) (ItsOk.nil _) tt_R23_Enrol_ok et_R23_Enrol_ok) (PrOk.of mixed_ok) Go.Proofs.Tryz.func28 rfl (by decide) rfl rfl rfl (pureR_many (e := (.pair (.sl tyA5) tyA3)) rfl) ?_
  intro x r hw hs
  repeat'
    (try (conv => whnf)
     first
       | (with_reducible have hs := letv_out hs)
       | (refine draw_and (by kernel_rfl) ?_)
       | (refine both_mk ?_ ?_)
       | (refine br_bool (fun h => ?_) (fun h => ?_) <;> first | have hs := cT h hs | have hs := cF h hs)
       | (refine bind_elim hs fun v hb hs => ?_; first | refine ck_R23_is rfl hb ?_ | refine ck_R22_Enrol rfl hb ?_ | refine ck_R23_put rfl hb ?_)
       | refine chk_elim hs fun hs => ?_
       | (have hs := letv_out hs)
       | exact fin_some hs rfl
       | (intro b hb; first | have hs := nilq_elim hs b hb | have hs := nilqn_elim hs b hb)
       | (have hs := cT rfl hs)
       | (have hs := cF rfl hs)
       | exact (none_ne hs).elim)
noncomputable def lf_R23_Offer : List AV → Option AV := liftF (.pair (.sl tyA5) tyA34) (unpR tyA28) (fun x => R23_Offer x.1 x.2.1 x.2.2.1 x.2.2.2.1)
theorem lq_R23_Offer : lf_R23_Offer = liftF (.pair (.sl tyA5) tyA34) (unpR tyA28) (fun x => R23_Offer x.1 x.2.1 x.2.2.1 x.2.2.2.1) := rfl
attribute [irreducible] lf_R23_Offer
theorem ck_R23_Offer {vs : List AV} {k : AV → Prop} {x : ((.pair (.sl tyA5) tyA34) : Ty).den} {v : (List tzA4) × Int × Int × Unit} (h1 : pks (.pair (.sl tyA5) tyA34) vs = some x) (h2 : R23_Offer x.1 x.2.1 x.2.2.1 x.2.2.2.1 = some v) (h3 : k ((unpR tyA28) v)) : callK (lf_R23_Offer vs) k := by
  rw [lq_R23_Offer]; exact callK_lift h1 h2 h3
def tt_R23_Offer : List (Nat × Ty) := [(3, .int .i64), (4, .bool), (23, .sl tyA5), (59, .sl (.pair (.int .i64) tyA7)), (63, .pair (.int .i64) tyA7), (115, .pair (.pair .bool tyA3) (.pair tyA17 tyA3))]
def et_R23_Offer : List (Nat × Nat) := [(23, 115), (59, 63)]
theorem tt_R23_Offer_ok : subT tt tt_R23_Offer = true := by kernel_rfl
theorem et_R23_Offer_ok : subE et et_R23_Offer = true := by kernel_rfl
noncomputable def fns_R23_Offer : List (Nat × (List AV → Option AV)) := [(60, lf_R23_is), (62, lf_R23_put), (63, lf_R22_Offer)]
theorem fns_R23_Offer_ok : FnsOk Go.Proofs.Tryz.prog fns_R23_Offer := FnsOk.cons c_R23_is (FnsOk.cons c_R23_put (FnsOk.cons c_R22_Offer (FnsOk.nil _)))
def R23_Offer_S1 (u0 : AV) (u1 : AV) (u2 : AV) (u3 : AV) (x1 : (List tzA4) × Int) : St :=
  ⟨[(0, u0), (1, u1), (2, u2), (3, u3), (11, .ro tyA5 x1.1), (12, .int .i64 x1.2)], [], none⟩
def R23_Offer_M1 : Msk := ⟨[0, 1, 2, 3, 11, 12], [], [], [], [], [], [], [], []⟩
def kp_R23_Offer : List (Nat × List Nat) := [(0, [0, 1, 2, 3]), (1, [0, 1, 2, 3, 11]), (2, [0, 1, 2, 3, 11, 12]), (3, [0, 1, 2, 3, 11, 12, 19]), (4, [0, 1, 2, 3, 11, 12]), (5, [0, 1, 2, 3, 11, 12, 27]), (6, [0, 1, 2, 3, 11, 12, 35]), (7, [8, 9, 10]), (8, [0, 1, 2, 3, 11, 12, 13, 14]), (9, [0, 1, 2, 3, 11, 12, 13, 14, 53]), (10, [8, 9, 10]), (11, [0, 1, 2, 3, 11, 12]), (12, [8, 9, 10]), (4000000, []), (4000001, []), (4000002, []), (4000003, []), (4000004, []), (4000005, []), (4000006, []), (4000007, []), (4000008, [13]), (4000009, [13]), (4000010, []), (4000011, []), (4000012, [])]
def od_R23_Offer : List (Nat × Ord) := [(11, (.one 0 (.one 1 (.one 2 (.one 3 (.one 4 (.one 5 (.one 6 (.one 100007 (.one 8 (.one 9 (.one 10 (.one 11 .nil)))))))))))))]
noncomputable def E_R23_Offer : Env := ⟨0, 0, et_R23_Offer, tt_R23_Offer, fns_R23_Offer, [], od_R23_Offer, kp_R23_Offer, none, []⟩
set_option maxRecDepth 100000 in
set_option maxHeartbeats 40000000 in
theorem c_R23_Offer : PCon Go.Proofs.Tryz.prog 30 lf_R23_Offer := by
  rw [lq_R23_Offer]
  refine lift_conR (E := E_R23_Offer) (c := bodyOf Tryz.f30) (nt := 69) (rs := [.tmp 8, .tmp 9, .tmp 10]) (ts := [23, 3, 3]) (EnvC.sub (off := 0) (nt := 0) (ords := od_R23_Offer) (keep := kp_R23_Offer) (yl := none) tt_ok et_ok fns_R23_Offer_ok (PrsOk.nil _) (ItsOk.nil _) tt_R23_Offer_ok et_R23_Offer_ok) (PrOk.of mixed_ok) Go.Proofs.Tryz.func30 rfl (by decide) rfl rfl rfl (pureR_many (e := tyA28) rfl) ?_
  intro x r hw hs
  repeat'
    (try (conv => whnf)
     first
       | (with_reducible have hs := letv_out hs)
       | (refine draw_and (by kernel_rfl) ?_)
       | (refine both_mk ?_ ?_)
       | (refine br_bool (fun h => ?_) (fun h => ?_) <;> first | have hs := cT h hs | have hs := cF h hs)
       | (refine bind_elim hs fun v hb hs => ?_; first | refine ck_R23_is rfl hb ?_ | refine ck_R23_put rfl hb ?_ | refine ck_R22_Offer rfl hb ?_)
       | refine chk_elim hs fun hs => ?_
       | (have hs := letv_out hs)
       | exact fin_some hs rfl
       | (intro b hb; first | have hs := nilq_elim hs b hb | have hs := nilqn_elim hs b hb)
       | exact hJ1 _ hs
       | (have hs := cT rfl hs)
       | (have hs := cF rfl hs)
       | ((with_reducible have hs : loop (R23_Offer_L1 _ _ _ _) _ = some _ := hs); refine vc_loopR (R23_Offer_S1 _ _ _ _) R23_Offer_M1 hs rfl ?_; intro J1 k1 x1 hJ1 hs)
       | (refine vc_loopR (R23_Offer_S1 _ _ _ _) R23_Offer_M1 hs rfl ?_; intro J1 k1 x1 hJ1 hs)
       | exact (none_ne hs).elim)
end Go.Proofs.YtbkccpddkpclaaaGreatDoorV
namespace Go.Proofs.YtbkccpddkpclaaaGreatDoorV
open Go.Proofs
set_option linter.unusedVariables false
noncomputable def lf_R29_guards : List AV → Option AV := liftF (.pair tyA12 tyA3) (unpack tyA24) (fun x => R29_guards x.1 x.2.1)
attribute [irreducible] lf_R29_guards
noncomputable def lf_R29_hit : List AV → Option AV := liftF (.pair tyA12 (.pair (.pair (.int .i64) tyA7) .unit)) (unpack .bool) (fun x => R29_hit x.1 x.2.1)
attribute [irreducible] lf_R29_hit
noncomputable def lf_R29_move : List AV → Option AV := liftF (.pair tyA12 tyA19) (unpack (.int .i64)) (fun x => R29_move x.1 x.2.1 x.2.2.1)
attribute [irreducible] lf_R29_move
noncomputable def lf_R29_due : List AV → Option AV := liftF (.pair tyA12 tyA19) (unpack .bool) (fun x => R29_due x.1 x.2.1 x.2.2.1)
attribute [irreducible] lf_R29_due
noncomputable def lf_R29_of : List AV → Option AV := liftF (.pair tyA12 tyA19) (unpR tyA26) (fun x => R29_of x.1 x.2.1 x.2.2.1)
attribute [irreducible] lf_R29_of
noncomputable def lf_R29_Which : List AV → Option AV := liftF (.pair tyA12 (.pair (.int .i64) tyA3)) (unpR tyA26) (fun x => R29_Which x.1 x.2.1 x.2.2.1)
attribute [irreducible] lf_R29_Which
noncomputable def lf_R29_Guards : List AV → Option AV := liftF (.pair tyA12 tyA3) (unpack (.sl (.int .i64))) (fun x => R29_Guards x.1 x.2.1)
attribute [irreducible] lf_R29_Guards
end Go.Proofs.YtbkccpddkpclaaaGreatDoorV
namespace Go.Proofs.YtbkccpddkpclaaaGreatDoorV
open Go.Proofs
set_option linter.unusedVariables false
noncomputable def lf_phase_Fine : List AV → Option AV := liftF (.pair (.int .i64) tyA3) (unpack .bool) (fun x => phase_Fine x.1 x.2.1)
theorem lq_phase_Fine : lf_phase_Fine = liftF (.pair (.int .i64) tyA3) (unpack .bool) (fun x => phase_Fine x.1 x.2.1) := rfl
attribute [irreducible] lf_phase_Fine
theorem ck_phase_Fine {vs : List AV} {k : AV → Prop} {x : ((.pair (.int .i64) tyA3) : Ty).den} {v : Bool} (h1 : pks (.pair (.int .i64) tyA3) vs = some x) (h2 : phase_Fine x.1 x.2.1 = some v) (h3 : k ((unpack .bool) v)) : callK (lf_phase_Fine vs) k := by
  rw [lq_phase_Fine]; exact callK_lift h1 h2 h3
def tt_phase_Fine : List (Nat × Ty) := [(3, .int .i64), (4, .bool)]
def et_phase_Fine : List (Nat × Nat) := []
theorem tt_phase_Fine_ok : subT tt tt_phase_Fine = true := by kernel_rfl
theorem et_phase_Fine_ok : subE et et_phase_Fine = true := by kernel_rfl
noncomputable def fns_phase_Fine : List (Nat × (List AV → Option AV)) := []
theorem fns_phase_Fine_ok : FnsOk Go.Proofs.Tryz.prog fns_phase_Fine := FnsOk.nil _
def kp_phase_Fine : List (Nat × List Nat) := [(0, [0, 1]), (1, [4]), (4000000, []), (4000001, [])]
def od_phase_Fine : List (Nat × Ord) := []
noncomputable def E_phase_Fine : Env := ⟨0, 0, et_phase_Fine, tt_phase_Fine, fns_phase_Fine, [], od_phase_Fine, kp_phase_Fine, none, []⟩
set_option maxRecDepth 100000 in
set_option maxHeartbeats 40000000 in
theorem c_phase_Fine : PCon Go.Proofs.Tryz.prog 113 lf_phase_Fine := by
  rw [lq_phase_Fine]
  refine lift_conR (E := E_phase_Fine) (c := bodyOf Tryz.f113) (nt := 20) (rs := [.tmp 4]) (ts := [4]) (EnvC.sub (off := 0) (nt := 0) (ords := od_phase_Fine) (keep := kp_phase_Fine) (yl := none) tt_ok et_ok fns_phase_Fine_ok (PrsOk.nil _) (ItsOk.nil _) tt_phase_Fine_ok et_phase_Fine_ok) (PrOk.of mixed_ok) Go.Proofs.Tryz.func113 rfl (by decide) rfl rfl rfl (pureR_one (e := .bool) rfl) ?_
  intro x r hw hs
  repeat'
    (try (conv => whnf)
     first
       | (with_reducible have hs := letv_out hs)
       | (refine draw_and (by kernel_rfl) ?_)
       | (refine both_mk ?_ ?_)
       | (refine br_bool (fun h => ?_) (fun h => ?_) <;> first | have hs := cT h hs | have hs := cF h hs)
       | refine chk_elim hs fun hs => ?_
       | (have hs := letv_out hs)
       | exact fin_some hs rfl
       | (intro b hb; first | have hs := nilq_elim hs b hb | have hs := nilqn_elim hs b hb)
       | (have hs := cT rfl hs)
       | (have hs := cF rfl hs)
       | exact (none_ne hs).elim)
noncomputable def lf_phase_Left : List AV → Option AV := liftF (.pair (.int .i64) tyA3) (unpack (.int .i64)) (fun x => phase_Left x.1 x.2.1)
theorem lq_phase_Left : lf_phase_Left = liftF (.pair (.int .i64) tyA3) (unpack (.int .i64)) (fun x => phase_Left x.1 x.2.1) := rfl
attribute [irreducible] lf_phase_Left
theorem ck_phase_Left {vs : List AV} {k : AV → Prop} {x : ((.pair (.int .i64) tyA3) : Ty).den} {v : Int} (h1 : pks (.pair (.int .i64) tyA3) vs = some x) (h2 : phase_Left x.1 x.2.1 = some v) (h3 : k ((unpack (.int .i64)) v)) : callK (lf_phase_Left vs) k := by
  rw [lq_phase_Left]; exact callK_lift h1 h2 h3
def tt_phase_Left : List (Nat × Ty) := [(3, .int .i64), (4, .bool)]
def et_phase_Left : List (Nat × Nat) := []
theorem tt_phase_Left_ok : subT tt tt_phase_Left = true := by kernel_rfl
theorem et_phase_Left_ok : subE et et_phase_Left = true := by kernel_rfl
noncomputable def fns_phase_Left : List (Nat × (List AV → Option AV)) := [(113, lf_phase_Fine)]
theorem fns_phase_Left_ok : FnsOk Go.Proofs.Tryz.prog fns_phase_Left := FnsOk.cons c_phase_Fine (FnsOk.nil _)
def kp_phase_Left : List (Nat × List Nat) := [(0, [0, 1]), (1, [0, 1, 8]), (2, [4]), (3, [4]), (4000000, []), (4000001, []), (4000002, []), (4000003, [])]
def od_phase_Left : List (Nat × Ord) := []
noncomputable def E_phase_Left : Env := ⟨0, 0, et_phase_Left, tt_phase_Left, fns_phase_Left, [], od_phase_Left, kp_phase_Left, none, []⟩
set_option maxRecDepth 100000 in
set_option maxHeartbeats 40000000 in
theorem c_phase_Left : PCon Go.Proofs.Tryz.prog 94 lf_phase_Left := by
  rw [lq_phase_Left]
  refine lift_conR (E := E_phase_Left) (c := bodyOf Tryz.f94) (nt := 12) (rs := [.tmp 4]) (ts := [3]) (EnvC.sub (off := 0) (nt := 0) (ords := od_phase_Left) (keep := kp_phase_Left) (yl := none) tt_ok et_ok fns_phase_Left_ok (PrsOk.nil _) (ItsOk.nil _) tt_phase_Left_ok et_phase_Left_ok) (PrOk.of mixed_ok) Go.Proofs.Tryz.func94 rfl (by decide) rfl rfl rfl (pureR_one (e := (.int .i64)) rfl) ?_
  intro x r hw hs
  repeat'
    (try (conv => whnf)
     first
       | (with_reducible have hs := letv_out hs)
       | (refine draw_and (by kernel_rfl) ?_)
       | (refine both_mk ?_ ?_)
       | (refine br_bool (fun h => ?_) (fun h => ?_) <;> first | have hs := cT h hs | have hs := cF h hs)
       | (refine bind_elim hs fun v hb hs => ?_; first | refine ck_phase_Fine rfl hb ?_)
       | refine chk_elim hs fun hs => ?_
       | (have hs := letv_out hs)
       | exact fin_some hs rfl
       | (intro b hb; first | have hs := nilq_elim hs b hb | have hs := nilqn_elim hs b hb)
       | (have hs := cT rfl hs)
       | (have hs := cF rfl hs)
       | exact (none_ne hs).elim)
end Go.Proofs.YtbkccpddkpclaaaGreatDoorV
namespace Go.Proofs.YtbkccpddkpclaaaGreatDoorV
open Go.Proofs
set_option linter.unusedVariables false
noncomputable def lf_bitset_Less_1 : List AV → Option AV := liftF (.pair (.int .u64) (.pair (.int .u64) .unit)) (unpack (.int .u64)) (fun x => bitset_Less_1 x.1 x.2.1)
theorem lq_bitset_Less_1 : lf_bitset_Less_1 = liftF (.pair (.int .u64) (.pair (.int .u64) .unit)) (unpack (.int .u64)) (fun x => bitset_Less_1 x.1 x.2.1) := rfl
attribute [irreducible] lf_bitset_Less_1
theorem ck_bitset_Less_1 {vs : List AV} {k : AV → Prop} {x : ((.pair (.int .u64) (.pair (.int .u64) .unit)) : Ty).den} {v : Int} (h1 : pks (.pair (.int .u64) (.pair (.int .u64) .unit)) vs = some x) (h2 : bitset_Less_1 x.1 x.2.1 = some v) (h3 : k ((unpack (.int .u64)) v)) : callK (lf_bitset_Less_1 vs) k := by
  rw [lq_bitset_Less_1]; exact callK_lift h1 h2 h3
def tt_bitset_Less_1 : List (Nat × Ty) := [(130, .int .u64)]
def et_bitset_Less_1 : List (Nat × Nat) := []
theorem tt_bitset_Less_1_ok : subT tt tt_bitset_Less_1 = true := by kernel_rfl
theorem et_bitset_Less_1_ok : subE et et_bitset_Less_1 = true := by kernel_rfl
noncomputable def fns_bitset_Less_1 : List (Nat × (List AV → Option AV)) := []
theorem fns_bitset_Less_1_ok : FnsOk Go.Proofs.Tryz.prog fns_bitset_Less_1 := FnsOk.nil _
def kp_bitset_Less_1 : List (Nat × List Nat) := [(0, [0, 1]), (1, [4]), (4000000, []), (4000001, [])]
def od_bitset_Less_1 : List (Nat × Ord) := []
noncomputable def E_bitset_Less_1 : Env := ⟨0, 0, et_bitset_Less_1, tt_bitset_Less_1, fns_bitset_Less_1, [], od_bitset_Less_1, kp_bitset_Less_1, none, []⟩
set_option maxRecDepth 100000 in
set_option maxHeartbeats 40000000 in
theorem c_bitset_Less_1 : PCon Go.Proofs.Tryz.prog 128 lf_bitset_Less_1 := by
  rw [lq_bitset_Less_1]
  refine lift_conR (E := E_bitset_Less_1) (c := bodyOf Tryz.f128) (nt := 8) (rs := [.tmp 4]) (ts := [130]) (EnvC.sub (off := 0) (nt := 0) (ords := od_bitset_Less_1) (keep := kp_bitset_Less_1) (yl := none) tt_ok et_ok fns_bitset_Less_1_ok (PrsOk.nil _) (ItsOk.nil _) tt_bitset_Less_1_ok et_bitset_Less_1_ok) (PrOk.of mixed_ok) Go.Proofs.Tryz.func128 rfl (by decide) rfl rfl rfl (pureR_one (e := (.int .u64)) rfl) ?_
  intro x r hw hs
  repeat'
    (try (conv => whnf)
     first
       | (with_reducible have hs := letv_out hs)
       | (refine draw_and (by kernel_rfl) ?_)
       | (refine both_mk ?_ ?_)
       | (refine br_bool (fun h => ?_) (fun h => ?_) <;> first | have hs := cT h hs | have hs := cF h hs)
       | refine chk_elim hs fun hs => ?_
       | (have hs := letv_out hs)
       | exact fin_some hs rfl
       | (intro b hb; first | have hs := nilq_elim hs b hb | have hs := nilqn_elim hs b hb)
       | (have hs := cT rfl hs)
       | (have hs := cF rfl hs)
       | exact (none_ne hs).elim)
noncomputable def lf_bitset_Less : List AV → Option AV := liftF (.pair (.arr 4 (.int .u64)) (.pair (.arr 4 (.int .u64)) .unit)) (unpack (.arr 4 (.int .u64))) (fun x => bitset_Less x.1 x.2.1)
theorem lq_bitset_Less : lf_bitset_Less = liftF (.pair (.arr 4 (.int .u64)) (.pair (.arr 4 (.int .u64)) .unit)) (unpack (.arr 4 (.int .u64))) (fun x => bitset_Less x.1 x.2.1) := rfl
attribute [irreducible] lf_bitset_Less
theorem ck_bitset_Less {vs : List AV} {k : AV → Prop} {x : ((.pair (.arr 4 (.int .u64)) (.pair (.arr 4 (.int .u64)) .unit)) : Ty).den} {v : List Int} (h1 : pks (.pair (.arr 4 (.int .u64)) (.pair (.arr 4 (.int .u64)) .unit)) vs = some x) (h2 : bitset_Less x.1 x.2.1 = some v) (h3 : k ((unpack (.arr 4 (.int .u64))) v)) : callK (lf_bitset_Less vs) k := by
  rw [lq_bitset_Less]; exact callK_lift h1 h2 h3
def tt_bitset_Less : List (Nat × Ty) := [(3, .int .i64), (130, .int .u64), (132, .arr 4 (.int .u64)), (193, .opq 1)]
def et_bitset_Less : List (Nat × Nat) := []
theorem tt_bitset_Less_ok : subT tt tt_bitset_Less = true := by kernel_rfl
theorem et_bitset_Less_ok : subE et et_bitset_Less = true := by kernel_rfl
noncomputable def fns_bitset_Less : List (Nat × (List AV → Option AV)) := [(128, lf_bitset_Less_1)]
theorem fns_bitset_Less_ok : FnsOk Go.Proofs.Tryz.prog fns_bitset_Less := FnsOk.cons c_bitset_Less_1 (FnsOk.nil _)
def kp_bitset_Less_127 : List (Nat × List Nat) := [(0, [2, 3, 4, 6]), (1, [2, 3, 4, 6, 8]), (2, [2, 3, 4, 6, 8, 9]), (3, [2, 3, 4, 6, 7, 8]), (4, [2, 3, 4, 6, 8]), (5, [2, 3, 4, 6, 8]), (6, [6]), (5000004, []), (819204000004, [2, 3, 4, 8195, 8196, 8198]), (819206000004, [])]
def od_bitset_Less_127 : List (Nat × Ord) := [(4, (.one 0 (.one 1 (.one 2 (.one 3 (.one 5 (.one 6 (.alt (.cons 4 (.one 200007 (.one 200008 (.one 9 (.one 200010 .nil)))) (.cons 7 (.one 200004 (.one 200008 (.one 9 (.one 200010 .nil)))) .nil))))))))))]
noncomputable def E_bitset_Less_127 : Env := ⟨0, 0, et_bitset_Less, tt_bitset_Less, fns_bitset_Less, [], od_bitset_Less_127, kp_bitset_Less_127, none, []⟩
noncomputable def pr_bitset_Less_127 : List (Nat × Proc) := (127, procR E_bitset_Less_127 23 [.cell 6 132] (bodyOf Tryz.f127)) :: []
theorem pr_bitset_Less_127_ok : PrsOk Go.Proofs.Tryz.prog pr_bitset_Less_127 :=
  PrsOk.cons (proc_conR (E := E_bitset_Less_127) (EnvC.sub (off := 0) (nt := 0) (ords := od_bitset_Less_127) (keep := kp_bitset_Less_127) (yl := none) tt_ok et_ok fns_bitset_Less_ok (PrsOk.nil _) (ItsOk.nil _) tt_bitset_Less_ok et_bitset_Less_ok) (PrOk.of mixed_ok) Go.Proofs.Tryz.func127 rfl (by decide) rfl rfl) (PrsOk.nil _)
def bitset_Less_S1 (u0 : AV) (u1 : AV) (u2 : AV) (u3 : AV) (x2 : Int × List Int × List Int × List Int × List Int × List Int × List Int) : St :=
  ⟨[(2, u0), (3, u1), (4, u2), (6, u3), (8, .int .i64 x2.1)], [(2, .var (.arr 4 (.int .u64)) (.arr 4 (.int .u64) x2.2.1) false), (3, .var (.arr 4 (.int .u64)) (.arr 4 (.int .u64) x2.2.2.1) false), (4, .var (.arr 4 (.int .u64)) (.arr 4 (.int .u64) x2.2.2.2.1) false), (8195, .var (.arr 4 (.int .u64)) (.arr 4 (.int .u64) x2.2.2.2.2.1) false), (8196, .var (.arr 4 (.int .u64)) (.arr 4 (.int .u64) x2.2.2.2.2.2.1) false), (8198, .var (.arr 4 (.int .u64)) (.arr 4 (.int .u64) x2.2.2.2.2.2.2) false)], (some ([], 0))⟩
def bitset_Less_M1 : Msk := ⟨[2, 3, 4, 6, 8], [2, 3, 4, 8195, 8196, 8198], [], [], [], [], [], [], []⟩
def bitset_Less_Q1 (x3 : Int × List Int × List Int × List Int × List Int × List Int × List Int) : St :=
  ⟨[(2, .fn (.func 128) [] []), (3, .ptr 8195 []), (4, .ptr 8196 []), (6, .ptr 8198 []), (8, .int .i64 x3.1)], [(2, .var (.arr 4 (.int .u64)) (.arr 4 (.int .u64) x3.2.1) false), (3, .var (.arr 4 (.int .u64)) (.arr 4 (.int .u64) x3.2.2.1) false), (4, .var (.arr 4 (.int .u64)) (.arr 4 (.int .u64) x3.2.2.2.1) false), (8195, .var (.arr 4 (.int .u64)) (.arr 4 (.int .u64) x3.2.2.2.2.1) false), (8196, .var (.arr 4 (.int .u64)) (.arr 4 (.int .u64) x3.2.2.2.2.2.1) false), (8198, .var (.arr 4 (.int .u64)) (.arr 4 (.int .u64) x3.2.2.2.2.2.2) false)], (some ([], 0))⟩
def bitset_Less_Q2 (x1 : List Int × List Int) : St :=
  ⟨[(4, .ptr 4 []), (7, .arr 4 (.int .u64) x1.1)], [(4, .var (.arr 4 (.int .u64)) (.arr 4 (.int .u64) x1.2) false)], none⟩
def kp_bitset_Less : List (Nat × List Nat) := [(0, [2, 3, 4]), (1, [4]), (25000007, []), (20000007, [4, 7]), (24000007, [4]), (26000007, []), (4000000, [2, 3, 4]), (4000001, [4])]
def od_bitset_Less : List (Nat × Ord) := []
noncomputable def E_bitset_Less : Env := ⟨0, 0, et_bitset_Less, tt_bitset_Less, fns_bitset_Less, pr_bitset_Less_127, od_bitset_Less, kp_bitset_Less, none, []⟩
set_option maxRecDepth 100000 in
set_option maxHeartbeats 40000000 in
theorem c_bitset_Less : PCon Go.Proofs.Tryz.prog 125 lf_bitset_Less := by
  rw [lq_bitset_Less]
  refine lift_conR (E := E_bitset_Less) (c := bodyOf Tryz.f125) (nt := 8) (rs := [.cell 4 132]) (ts := [132]) (EnvC.sub (off := 0) (nt := 0) (ords := od_bitset_Less) (keep := kp_bitset_Less) (yl := none) tt_ok et_ok fns_bitset_Less_ok (pr_bitset_Less_127_ok) (ItsOk.nil _) tt_bitset_Less_ok et_bitset_Less_ok) (PrOk.of mixed_ok) Go.Proofs.Tryz.func125 rfl (by decide) rfl rfl rfl (pureR_one (e := (.arr 4 (.int .u64))) rfl) ?_
  intro x r hw hs
  have hks := True.intro
  have hbs := True.intro
  repeat'
    (try (conv => whnf)
     first
       | (with_reducible have hs := letv_out hs)
       | (refine draw_and (by kernel_rfl) ?_)
       | (refine both_mk ?_ ?_)
       | (refine br_bool (fun h => ?_) (fun h => ?_) <;> first | have hs := cT h hs | have hs := cF h hs)
       | (refine bind_elim hs fun v hb hs => ?_; first | refine ck_bitset_Less_1 rfl hb ?_)
       | refine chk_elim hs fun hs => ?_
       | (have hs := letv_out hs)
       | exact fin_some hs rfl
       | (intro b hb; first | have hs := nilq_elim hs b hb | have hs := nilqn_elim hs b hb)
       | exact hJ1 _ hs
       | exact hC1 _ hs
       | exact hC2 _ hs
       | (refine cut_out 1 bitset_Less_Q1 hs (fun Jc1 kc1 hC1 hs => ?_) (fun xc1 hs => ?_))
       | (refine cut_out 2 bitset_Less_Q2 hs (fun Jc2 kc2 hC2 hs => ?_) (fun xc2 hs => ?_))
       | (have hs := cT rfl hs)
       | (have hs := cF rfl hs)
       | ((with_reducible have hs : loop (bitset_Less_L1 _) _ = some _ := hs); refine vc_loopR (bitset_Less_S1 _ _ _ _) bitset_Less_M1 hs rfl ?_; intro J1 k1 x1 hJ1 hs)
       | (refine vc_loopR (bitset_Less_S1 _ _ _ _) bitset_Less_M1 hs rfl ?_; intro J1 k1 x1 hJ1 hs)
       | (refine And.intro (by first | exact hks.1 | exact hks.2.1 | exact hks.2.2.1 | exact hks.2.2.2.1 | exact hks.2.2.2.2.1 | exact hks.2.2.2.2.2.1 | exact hks.2.2.2.2.2.2.1 | exact hks.2.2.2.2.2.2.2.1) ?_)
       | (first | refine ck_bitset_Less_1 rfl hbs.1 ?_ | refine ck_bitset_Less_1 rfl hbs.2.1 ?_ | refine ck_bitset_Less_1 rfl hbs.2.2.1 ?_)
       | (obtain ⟨hk, hs⟩ := chk_some hs; have hks := And.intro hk hks)
       | (obtain ⟨vb, hb, hs⟩ := bind_some hs; have hbs := And.intro hb hbs)
       | exact (none_ne hs).elim)
noncomputable def lf_bitset_Sub : List AV → Option AV := liftF (.pair (.arr 4 (.int .u64)) (.pair (.arr 4 (.int .u64)) .unit)) (unpack .bool) (fun x => bitset_Sub x.1 x.2.1)
theorem lq_bitset_Sub : lf_bitset_Sub = liftF (.pair (.arr 4 (.int .u64)) (.pair (.arr 4 (.int .u64)) .unit)) (unpack .bool) (fun x => bitset_Sub x.1 x.2.1) := rfl
attribute [irreducible] lf_bitset_Sub
theorem ck_bitset_Sub {vs : List AV} {k : AV → Prop} {x : ((.pair (.arr 4 (.int .u64)) (.pair (.arr 4 (.int .u64)) .unit)) : Ty).den} {v : Bool} (h1 : pks (.pair (.arr 4 (.int .u64)) (.pair (.arr 4 (.int .u64)) .unit)) vs = some x) (h2 : bitset_Sub x.1 x.2.1 = some v) (h3 : k ((unpack .bool) v)) : callK (lf_bitset_Sub vs) k := by
  rw [lq_bitset_Sub]; exact callK_lift h1 h2 h3
def tt_bitset_Sub : List (Nat × Ty) := [(4, .bool), (132, .arr 4 (.int .u64))]
def et_bitset_Sub : List (Nat × Nat) := []
theorem tt_bitset_Sub_ok : subT tt tt_bitset_Sub = true := by kernel_rfl
theorem et_bitset_Sub_ok : subE et et_bitset_Sub = true := by kernel_rfl
noncomputable def fns_bitset_Sub : List (Nat × (List AV → Option AV)) := [(125, lf_bitset_Less)]
theorem fns_bitset_Sub_ok : FnsOk Go.Proofs.Tryz.prog fns_bitset_Sub := FnsOk.cons c_bitset_Less (FnsOk.nil _)
def kp_bitset_Sub : List (Nat × List Nat) := [(0, [2, 3]), (1, [4]), (4000000, [2, 3]), (4000001, [])]
def od_bitset_Sub : List (Nat × Ord) := []
noncomputable def E_bitset_Sub : Env := ⟨0, 0, et_bitset_Sub, tt_bitset_Sub, fns_bitset_Sub, [], od_bitset_Sub, kp_bitset_Sub, none, []⟩
set_option maxRecDepth 100000 in
set_option maxHeartbeats 40000000 in
theorem c_bitset_Sub : PCon Go.Proofs.Tryz.prog 121 lf_bitset_Sub := by
  rw [lq_bitset_Sub]
  refine lift_conR (E := E_bitset_Sub) (c := bodyOf Tryz.f121) (nt := 10) (rs := [.tmp 4]) (ts := [4]) (EnvC.sub (off := 0) (nt := 0) (ords := od_bitset_Sub) (keep := kp_bitset_Sub) (yl := none) tt_ok et_ok fns_bitset_Sub_ok (PrsOk.nil _) (ItsOk.nil _) tt_bitset_Sub_ok et_bitset_Sub_ok) (PrOk.of mixed_ok) Go.Proofs.Tryz.func121 rfl (by decide) rfl rfl rfl (pureR_one (e := .bool) rfl) ?_
  intro x r hw hs
  repeat'
    (try (conv => whnf)
     first
       | (with_reducible have hs := letv_out hs)
       | (refine draw_and (by kernel_rfl) ?_)
       | (refine both_mk ?_ ?_)
       | (refine br_bool (fun h => ?_) (fun h => ?_) <;> first | have hs := cT h hs | have hs := cF h hs)
       | (refine bind_elim hs fun v hb hs => ?_; first | refine ck_bitset_Less rfl hb ?_)
       | refine chk_elim hs fun hs => ?_
       | (have hs := letv_out hs)
       | exact fin_some hs rfl
       | (intro b hb; first | have hs := nilq_elim hs b hb | have hs := nilqn_elim hs b hb)
       | (have hs := cT rfl hs)
       | (have hs := cF rfl hs)
       | exact (none_ne hs).elim)
noncomputable def lf_bitset_fine : List AV → Option AV := liftF tyA3 (unpack .bool) (fun x => bitset_fine x.1)
theorem lq_bitset_fine : lf_bitset_fine = liftF tyA3 (unpack .bool) (fun x => bitset_fine x.1) := rfl
attribute [irreducible] lf_bitset_fine
theorem ck_bitset_fine {vs : List AV} {k : AV → Prop} {x : (tyA3 : Ty).den} {v : Bool} (h1 : pks tyA3 vs = some x) (h2 : bitset_fine x.1 = some v) (h3 : k ((unpack .bool) v)) : callK (lf_bitset_fine vs) k := by
  rw [lq_bitset_fine]; exact callK_lift h1 h2 h3
def tt_bitset_fine : List (Nat × Ty) := [(3, .int .i64), (4, .bool)]
def et_bitset_fine : List (Nat × Nat) := []
theorem tt_bitset_fine_ok : subT tt tt_bitset_fine = true := by kernel_rfl
theorem et_bitset_fine_ok : subE et et_bitset_fine = true := by kernel_rfl
noncomputable def fns_bitset_fine : List (Nat × (List AV → Option AV)) := []
theorem fns_bitset_fine_ok : FnsOk Go.Proofs.Tryz.prog fns_bitset_fine := FnsOk.nil _
def kp_bitset_fine : List (Nat × List Nat) := [(0, [0]), (1, [2]), (4000000, []), (4000001, [])]
def od_bitset_fine : List (Nat × Ord) := []
noncomputable def E_bitset_fine : Env := ⟨0, 0, et_bitset_fine, tt_bitset_fine, fns_bitset_fine, [], od_bitset_fine, kp_bitset_fine, none, []⟩
set_option maxRecDepth 100000 in
set_option maxHeartbeats 40000000 in
theorem c_bitset_fine : PCon Go.Proofs.Tryz.prog 104 lf_bitset_fine := by
  rw [lq_bitset_fine]
  refine lift_conR (E := E_bitset_fine) (c := bodyOf Tryz.f104) (nt := 9) (rs := [.tmp 2]) (ts := [4]) (EnvC.sub (off := 0) (nt := 0) (ords := od_bitset_fine) (keep := kp_bitset_fine) (yl := none) tt_ok et_ok fns_bitset_fine_ok (PrsOk.nil _) (ItsOk.nil _) tt_bitset_fine_ok et_bitset_fine_ok) (PrOk.of mixed_ok) Go.Proofs.Tryz.func104 rfl (by decide) rfl rfl rfl (pureR_one (e := .bool) rfl) ?_
  intro x r hw hs
  repeat'
    (try (conv => whnf)
     first
       | (with_reducible have hs := letv_out hs)
       | (refine draw_and (by kernel_rfl) ?_)
       | (refine both_mk ?_ ?_)
       | (refine br_bool (fun h => ?_) (fun h => ?_) <;> first | have hs := cT h hs | have hs := cF h hs)
       | refine chk_elim hs fun hs => ?_
       | (have hs := letv_out hs)
       | exact fin_some hs rfl
       | (intro b hb; first | have hs := nilq_elim hs b hb | have hs := nilqn_elim hs b hb)
       | (have hs := cT rfl hs)
       | (have hs := cF rfl hs)
       | exact (none_ne hs).elim)
noncomputable def lf_bitset_Has : List AV → Option AV := liftF (.pair (.arr 4 (.int .u64)) tyA3) (unpack .bool) (fun x => bitset_Has x.1 x.2.1)
theorem lq_bitset_Has : lf_bitset_Has = liftF (.pair (.arr 4 (.int .u64)) tyA3) (unpack .bool) (fun x => bitset_Has x.1 x.2.1) := rfl
attribute [irreducible] lf_bitset_Has
theorem ck_bitset_Has {vs : List AV} {k : AV → Prop} {x : ((.pair (.arr 4 (.int .u64)) tyA3) : Ty).den} {v : Bool} (h1 : pks (.pair (.arr 4 (.int .u64)) tyA3) vs = some x) (h2 : bitset_Has x.1 x.2.1 = some v) (h3 : k ((unpack .bool) v)) : callK (lf_bitset_Has vs) k := by
  rw [lq_bitset_Has]; exact callK_lift h1 h2 h3
def tt_bitset_Has : List (Nat × Ty) := [(3, .int .i64), (4, .bool), (130, .int .u64), (132, .arr 4 (.int .u64))]
def et_bitset_Has : List (Nat × Nat) := []
theorem tt_bitset_Has_ok : subT tt tt_bitset_Has = true := by kernel_rfl
theorem et_bitset_Has_ok : subE et et_bitset_Has = true := by kernel_rfl
noncomputable def fns_bitset_Has : List (Nat × (List AV → Option AV)) := [(104, lf_bitset_fine)]
theorem fns_bitset_Has_ok : FnsOk Go.Proofs.Tryz.prog fns_bitset_Has := FnsOk.cons c_bitset_fine (FnsOk.nil _)
def kp_bitset_Has : List (Nat × List Nat) := [(0, [1, 2]), (1, [4]), (4000000, [2]), (4000001, [])]
def od_bitset_Has : List (Nat × Ord) := []
noncomputable def E_bitset_Has : Env := ⟨0, 0, et_bitset_Has, tt_bitset_Has, fns_bitset_Has, [], od_bitset_Has, kp_bitset_Has, none, []⟩
set_option maxRecDepth 100000 in
set_option maxHeartbeats 40000000 in
theorem c_bitset_Has : PCon Go.Proofs.Tryz.prog 76 lf_bitset_Has := by
  rw [lq_bitset_Has]
  refine lift_conR (E := E_bitset_Has) (c := bodyOf Tryz.f76) (nt := 18) (rs := [.tmp 4]) (ts := [4]) (EnvC.sub (off := 0) (nt := 0) (ords := od_bitset_Has) (keep := kp_bitset_Has) (yl := none) tt_ok et_ok fns_bitset_Has_ok (PrsOk.nil _) (ItsOk.nil _) tt_bitset_Has_ok et_bitset_Has_ok) (PrOk.of mixed_ok) Go.Proofs.Tryz.func76 rfl (by decide) rfl rfl rfl (pureR_one (e := .bool) rfl) ?_
  intro x r hw hs
  repeat'
    (try (conv => whnf)
     first
       | (with_reducible have hs := letv_out hs)
       | (refine draw_and (by kernel_rfl) ?_)
       | (refine both_mk ?_ ?_)
       | (refine br_bool (fun h => ?_) (fun h => ?_) <;> first | have hs := cT h hs | have hs := cF h hs)
       | (refine bind_elim hs fun v hb hs => ?_; first | refine ck_bitset_fine rfl hb ?_)
       | refine chk_elim hs fun hs => ?_
       | (have hs := letv_out hs)
       | exact fin_some hs rfl
       | (intro b hb; first | have hs := nilq_elim hs b hb | have hs := nilqn_elim hs b hb)
       | (have hs := cT rfl hs)
       | (have hs := cF rfl hs)
       | exact (none_ne hs).elim)
end Go.Proofs.YtbkccpddkpclaaaGreatDoorV
namespace Go.Proofs.YtbkccpddkpclaaaGreatDoorV
open Go.Proofs
set_option linter.unusedVariables false
noncomputable def lf_roll_Fine : List AV → Option AV := liftF (.pair (.pair (.arr 4 (.int .u64)) (.pair (.arr 4 (.int .u64)) .unit)) .unit) (unpack .bool) (fun x => roll_Fine x.1)
theorem lq_roll_Fine : lf_roll_Fine = liftF (.pair (.pair (.arr 4 (.int .u64)) (.pair (.arr 4 (.int .u64)) .unit)) .unit) (unpack .bool) (fun x => roll_Fine x.1) := rfl
attribute [irreducible] lf_roll_Fine
theorem ck_roll_Fine {vs : List AV} {k : AV → Prop} {x : ((.pair (.pair (.arr 4 (.int .u64)) (.pair (.arr 4 (.int .u64)) .unit)) .unit) : Ty).den} {v : Bool} (h1 : pks (.pair (.pair (.arr 4 (.int .u64)) (.pair (.arr 4 (.int .u64)) .unit)) .unit) vs = some x) (h2 : roll_Fine x.1 = some v) (h3 : k ((unpack .bool) v)) : callK (lf_roll_Fine vs) k := by
  rw [lq_roll_Fine]; exact callK_lift h1 h2 h3
def tt_roll_Fine : List (Nat × Ty) := [(4, .bool), (132, .arr 4 (.int .u64)), (134, .pair (.arr 4 (.int .u64)) (.pair (.arr 4 (.int .u64)) .unit))]
def et_roll_Fine : List (Nat × Nat) := []
theorem tt_roll_Fine_ok : subT tt tt_roll_Fine = true := by kernel_rfl
theorem et_roll_Fine_ok : subE et et_roll_Fine = true := by kernel_rfl
noncomputable def fns_roll_Fine : List (Nat × (List AV → Option AV)) := [(121, lf_bitset_Sub)]
theorem fns_roll_Fine_ok : FnsOk Go.Proofs.Tryz.prog fns_roll_Fine := FnsOk.cons c_bitset_Sub (FnsOk.nil _)
def kp_roll_Fine : List (Nat × List Nat) := [(0, [1]), (1, [2]), (4000000, [1]), (4000001, [])]
def od_roll_Fine : List (Nat × Ord) := []
noncomputable def E_roll_Fine : Env := ⟨0, 0, et_roll_Fine, tt_roll_Fine, fns_roll_Fine, [], od_roll_Fine, kp_roll_Fine, none, []⟩
set_option maxRecDepth 100000 in
set_option maxHeartbeats 40000000 in
theorem c_roll_Fine : PCon Go.Proofs.Tryz.prog 114 lf_roll_Fine := by
  rw [lq_roll_Fine]
  refine lift_conR (E := E_roll_Fine) (c := bodyOf Tryz.f114) (nt := 14) (rs := [.tmp 2]) (ts := [4]) (EnvC.sub (off := 0) (nt := 0) (ords := od_roll_Fine) (keep := kp_roll_Fine) (yl := none) tt_ok et_ok fns_roll_Fine_ok (PrsOk.nil _) (ItsOk.nil _) tt_roll_Fine_ok et_roll_Fine_ok) (PrOk.of mixed_ok) Go.Proofs.Tryz.func114 rfl (by decide) rfl rfl rfl (pureR_one (e := .bool) rfl) ?_
  intro x r hw hs
  repeat'
    (try (conv => whnf)
     first
       | (with_reducible have hs := letv_out hs)
       | (refine draw_and (by kernel_rfl) ?_)
       | (refine both_mk ?_ ?_)
       | (refine br_bool (fun h => ?_) (fun h => ?_) <;> first | have hs := cT h hs | have hs := cF h hs)
       | (refine bind_elim hs fun v hb hs => ?_; first | refine ck_bitset_Sub rfl hb ?_)
       | refine chk_elim hs fun hs => ?_
       | (have hs := letv_out hs)
       | exact fin_some hs rfl
       | (intro b hb; first | have hs := nilq_elim hs b hb | have hs := nilqn_elim hs b hb)
       | (have hs := cT rfl hs)
       | (have hs := cF rfl hs)
       | exact (none_ne hs).elim)
noncomputable def lf_roll_Full : List AV → Option AV := liftF (.pair (.pair (.arr 4 (.int .u64)) (.pair (.arr 4 (.int .u64)) .unit)) .unit) (unpack .bool) (fun x => roll_Full x.1)
theorem lq_roll_Full : lf_roll_Full = liftF (.pair (.pair (.arr 4 (.int .u64)) (.pair (.arr 4 (.int .u64)) .unit)) .unit) (unpack .bool) (fun x => roll_Full x.1) := rfl
attribute [irreducible] lf_roll_Full
theorem ck_roll_Full {vs : List AV} {k : AV → Prop} {x : ((.pair (.pair (.arr 4 (.int .u64)) (.pair (.arr 4 (.int .u64)) .unit)) .unit) : Ty).den} {v : Bool} (h1 : pks (.pair (.pair (.arr 4 (.int .u64)) (.pair (.arr 4 (.int .u64)) .unit)) .unit) vs = some x) (h2 : roll_Full x.1 = some v) (h3 : k ((unpack .bool) v)) : callK (lf_roll_Full vs) k := by
  rw [lq_roll_Full]; exact callK_lift h1 h2 h3
def tt_roll_Full : List (Nat × Ty) := [(4, .bool), (132, .arr 4 (.int .u64)), (134, .pair (.arr 4 (.int .u64)) (.pair (.arr 4 (.int .u64)) .unit))]
def et_roll_Full : List (Nat × Nat) := []
theorem tt_roll_Full_ok : subT tt tt_roll_Full = true := by kernel_rfl
theorem et_roll_Full_ok : subE et et_roll_Full = true := by kernel_rfl
noncomputable def fns_roll_Full : List (Nat × (List AV → Option AV)) := [(114, lf_roll_Fine)]
theorem fns_roll_Full_ok : FnsOk Go.Proofs.Tryz.prog fns_roll_Full := FnsOk.cons c_roll_Fine (FnsOk.nil _)
def kp_roll_Full : List (Nat × List Nat) := [(0, [1]), (1, [2]), (4000000, [1]), (4000001, [])]
def od_roll_Full : List (Nat × Ord) := []
noncomputable def E_roll_Full : Env := ⟨0, 0, et_roll_Full, tt_roll_Full, fns_roll_Full, [], od_roll_Full, kp_roll_Full, none, []⟩
set_option maxRecDepth 100000 in
set_option maxHeartbeats 40000000 in
theorem c_roll_Full : PCon Go.Proofs.Tryz.prog 93 lf_roll_Full := by
  rw [lq_roll_Full]
  refine lift_conR (E := E_roll_Full) (c := bodyOf Tryz.f93) (nt := 18) (rs := [.tmp 2]) (ts := [4]) (EnvC.sub (off := 0) (nt := 0) (ords := od_roll_Full) (keep := kp_roll_Full) (yl := none) tt_ok et_ok fns_roll_Full_ok (PrsOk.nil _) (ItsOk.nil _) tt_roll_Full_ok et_roll_Full_ok) (PrOk.of mixed_ok) Go.Proofs.Tryz.func93 rfl (by decide) rfl rfl rfl (pureR_one (e := .bool) rfl) ?_
  intro x r hw hs
  repeat'
    (try (conv => whnf)
     first
       | (with_reducible have hs := letv_out hs)
       | (refine draw_and (by kernel_rfl) ?_)
       | (refine both_mk ?_ ?_)
       | (refine br_bool (fun h => ?_) (fun h => ?_) <;> first | have hs := cT h hs | have hs := cF h hs)
       | (refine bind_elim hs fun v hb hs => ?_; first | refine ck_roll_Fine rfl hb ?_)
       | refine chk_elim hs fun hs => ?_
       | (have hs := letv_out hs)
       | exact fin_some hs rfl
       | (intro b hb; first | have hs := nilq_elim hs b hb | have hs := nilqn_elim hs b hb)
       | (have hs := cT rfl hs)
       | (have hs := cF rfl hs)
       | exact (none_ne hs).elim)
end Go.Proofs.YtbkccpddkpclaaaGreatDoorV
namespace Go.Proofs.YtbkccpddkpclaaaGreatDoorV
open Go.Proofs
set_option linter.unusedVariables false
noncomputable def lf_barrier_Fine : List AV → Option AV := liftF (.pair (.pair (.pair .bool tyA3) (.pair (.pair (.arr 4 (.int .u64)) (.pair (.arr 4 (.int .u64)) .unit)) tyA3)) .unit) (unpack .bool) (fun x => barrier_Fine x.1)
theorem lq_barrier_Fine : lf_barrier_Fine = liftF (.pair (.pair (.pair .bool tyA3) (.pair (.pair (.arr 4 (.int .u64)) (.pair (.arr 4 (.int .u64)) .unit)) tyA3)) .unit) (unpack .bool) (fun x => barrier_Fine x.1) := rfl
attribute [irreducible] lf_barrier_Fine
theorem ck_barrier_Fine {vs : List AV} {k : AV → Prop} {x : ((.pair (.pair (.pair .bool tyA3) (.pair (.pair (.arr 4 (.int .u64)) (.pair (.arr 4 (.int .u64)) .unit)) tyA3)) .unit) : Ty).den} {v : Bool} (h1 : pks (.pair (.pair (.pair .bool tyA3) (.pair (.pair (.arr 4 (.int .u64)) (.pair (.arr 4 (.int .u64)) .unit)) tyA3)) .unit) vs = some x) (h2 : barrier_Fine x.1 = some v) (h3 : k ((unpack .bool) v)) : callK (lf_barrier_Fine vs) k := by
  rw [lq_barrier_Fine]; exact callK_lift h1 h2 h3
def tt_barrier_Fine : List (Nat × Ty) := [(3, .int .i64), (4, .bool), (111, .pair .bool tyA3), (134, .pair (.arr 4 (.int .u64)) (.pair (.arr 4 (.int .u64)) .unit)), (136, .pair (.pair .bool tyA3) (.pair (.pair (.arr 4 (.int .u64)) (.pair (.arr 4 (.int .u64)) .unit)) tyA3))]
def et_barrier_Fine : List (Nat × Nat) := []
theorem tt_barrier_Fine_ok : subT tt tt_barrier_Fine = true := by kernel_rfl
theorem et_barrier_Fine_ok : subE et et_barrier_Fine = true := by kernel_rfl
noncomputable def fns_barrier_Fine : List (Nat × (List AV → Option AV)) := [(113, lf_phase_Fine), (114, lf_roll_Fine)]
theorem fns_barrier_Fine_ok : FnsOk Go.Proofs.Tryz.prog fns_barrier_Fine := FnsOk.cons c_phase_Fine (FnsOk.cons c_roll_Fine (FnsOk.nil _))
def kp_barrier_Fine : List (Nat × List Nat) := [(0, [1]), (1, [2]), (4000000, [1]), (4000001, [])]
def od_barrier_Fine : List (Nat × Ord) := []
noncomputable def E_barrier_Fine : Env := ⟨0, 0, et_barrier_Fine, tt_barrier_Fine, fns_barrier_Fine, [], od_barrier_Fine, kp_barrier_Fine, none, []⟩
set_option maxRecDepth 100000 in
set_option maxHeartbeats 40000000 in
theorem c_barrier_Fine : PCon Go.Proofs.Tryz.prog 92 lf_barrier_Fine := by
  rw [lq_barrier_Fine]
  refine lift_conR (E := E_barrier_Fine) (c := bodyOf Tryz.f92) (nt := 14) (rs := [.tmp 2]) (ts := [4]) (EnvC.sub (off := 0) (nt := 0) (ords := od_barrier_Fine) (keep := kp_barrier_Fine) (yl := none) tt_ok et_ok fns_barrier_Fine_ok (PrsOk.nil _) (ItsOk.nil _) tt_barrier_Fine_ok et_barrier_Fine_ok) (PrOk.of mixed_ok) Go.Proofs.Tryz.func92 rfl (by decide) rfl rfl rfl (pureR_one (e := .bool) rfl) ?_
  intro x r hw hs
  repeat'
    (try (conv => whnf)
     first
       | (with_reducible have hs := letv_out hs)
       | (refine draw_and (by kernel_rfl) ?_)
       | (refine both_mk ?_ ?_)
       | (refine br_bool (fun h => ?_) (fun h => ?_) <;> first | have hs := cT h hs | have hs := cF h hs)
       | (refine bind_elim hs fun v hb hs => ?_; first | refine ck_phase_Fine rfl hb ?_ | refine ck_roll_Fine rfl hb ?_)
       | refine chk_elim hs fun hs => ?_
       | (have hs := letv_out hs)
       | exact fin_some hs rfl
       | (intro b hb; first | have hs := nilq_elim hs b hb | have hs := nilqn_elim hs b hb)
       | (have hs := cT rfl hs)
       | (have hs := cF rfl hs)
       | exact (none_ne hs).elim)
noncomputable def lf_barrier_Ready : List AV → Option AV := liftF (.pair (.pair (.pair .bool tyA3) (.pair (.pair (.arr 4 (.int .u64)) (.pair (.arr 4 (.int .u64)) .unit)) tyA3)) .unit) (unpack .bool) (fun x => barrier_Ready x.1)
theorem lq_barrier_Ready : lf_barrier_Ready = liftF (.pair (.pair (.pair .bool tyA3) (.pair (.pair (.arr 4 (.int .u64)) (.pair (.arr 4 (.int .u64)) .unit)) tyA3)) .unit) (unpack .bool) (fun x => barrier_Ready x.1) := rfl
attribute [irreducible] lf_barrier_Ready
theorem ck_barrier_Ready {vs : List AV} {k : AV → Prop} {x : ((.pair (.pair (.pair .bool tyA3) (.pair (.pair (.arr 4 (.int .u64)) (.pair (.arr 4 (.int .u64)) .unit)) tyA3)) .unit) : Ty).den} {v : Bool} (h1 : pks (.pair (.pair (.pair .bool tyA3) (.pair (.pair (.arr 4 (.int .u64)) (.pair (.arr 4 (.int .u64)) .unit)) tyA3)) .unit) vs = some x) (h2 : barrier_Ready x.1 = some v) (h3 : k ((unpack .bool) v)) : callK (lf_barrier_Ready vs) k := by
  rw [lq_barrier_Ready]; exact callK_lift h1 h2 h3
def tt_barrier_Ready : List (Nat × Ty) := [(3, .int .i64), (4, .bool), (111, .pair .bool tyA3), (134, .pair (.arr 4 (.int .u64)) (.pair (.arr 4 (.int .u64)) .unit)), (136, .pair (.pair .bool tyA3) (.pair (.pair (.arr 4 (.int .u64)) (.pair (.arr 4 (.int .u64)) .unit)) tyA3))]
def et_barrier_Ready : List (Nat × Nat) := []
theorem tt_barrier_Ready_ok : subT tt tt_barrier_Ready = true := by kernel_rfl
theorem et_barrier_Ready_ok : subE et et_barrier_Ready = true := by kernel_rfl
noncomputable def fns_barrier_Ready : List (Nat × (List AV → Option AV)) := [(92, lf_barrier_Fine), (93, lf_roll_Full), (94, lf_phase_Left)]
theorem fns_barrier_Ready_ok : FnsOk Go.Proofs.Tryz.prog fns_barrier_Ready := FnsOk.cons c_barrier_Fine (FnsOk.cons c_roll_Full (FnsOk.cons c_phase_Left (FnsOk.nil _)))
def kp_barrier_Ready : List (Nat × List Nat) := [(0, [1]), (1, [2]), (4000000, [1]), (4000001, [])]
def od_barrier_Ready : List (Nat × Ord) := []
noncomputable def E_barrier_Ready : Env := ⟨0, 0, et_barrier_Ready, tt_barrier_Ready, fns_barrier_Ready, [], od_barrier_Ready, kp_barrier_Ready, none, []⟩
set_option maxRecDepth 100000 in
set_option maxHeartbeats 40000000 in
theorem c_barrier_Ready : PCon Go.Proofs.Tryz.prog 66 lf_barrier_Ready := by
  rw [lq_barrier_Ready]
  refine lift_conR (E := E_barrier_Ready) (c := bodyOf Tryz.f66) (nt := 19) (rs := [.tmp 2]) (ts := [4]) (EnvC.sub (off := 0) (nt := 0) (ords := od_barrier_Ready) (keep := kp_barrier_Ready) (yl := none) tt_ok et_ok fns_barrier_Ready_ok (PrsOk.nil _) (ItsOk.nil _) tt_barrier_Ready_ok et_barrier_Ready_ok) (PrOk.of mixed_ok) Go.Proofs.Tryz.func66 rfl (by decide) rfl rfl rfl (pureR_one (e := .bool) rfl) ?_
  intro x r hw hs
  repeat'
    (try (conv => whnf)
     first
       | (with_reducible have hs := letv_out hs)
       | (refine draw_and (by kernel_rfl) ?_)
       | (refine both_mk ?_ ?_)
       | (refine br_bool (fun h => ?_) (fun h => ?_) <;> first | have hs := cT h hs | have hs := cF h hs)
       | (refine bind_elim hs fun v hb hs => ?_; first | refine ck_barrier_Fine rfl hb ?_ | refine ck_roll_Full rfl hb ?_ | refine ck_phase_Left rfl hb ?_)
       | refine chk_elim hs fun hs => ?_
       | (have hs := letv_out hs)
       | exact fin_some hs rfl
       | (intro b hb; first | have hs := nilq_elim hs b hb | have hs := nilqn_elim hs b hb)
       | (have hs := cT rfl hs)
       | (have hs := cF rfl hs)
       | exact (none_ne hs).elim)
end Go.Proofs.YtbkccpddkpclaaaGreatDoorV
namespace Go.Proofs.YtbkccpddkpclaaaGreatDoorV
open Go.Proofs
set_option linter.unusedVariables false
noncomputable def lf_bartab_Ready : List AV → Option AV := liftF (.pair (.sl (.pair (.pair .bool tyA3) (.pair (.pair (.arr 4 (.int .u64)) (.pair (.arr 4 (.int .u64)) .unit)) tyA3))) .unit) (unpack (.sl (.int .i64))) (fun x => bartab_Ready x.1)
theorem lq_bartab_Ready : lf_bartab_Ready = liftF (.pair (.sl (.pair (.pair .bool tyA3) (.pair (.pair (.arr 4 (.int .u64)) (.pair (.arr 4 (.int .u64)) .unit)) tyA3))) .unit) (unpack (.sl (.int .i64))) (fun x => bartab_Ready x.1) := rfl
attribute [irreducible] lf_bartab_Ready
theorem ck_bartab_Ready {vs : List AV} {k : AV → Prop} {x : ((.pair (.sl (.pair (.pair .bool tyA3) (.pair (.pair (.arr 4 (.int .u64)) (.pair (.arr 4 (.int .u64)) .unit)) tyA3))) .unit) : Ty).den} {v : List Int} (h1 : pks (.pair (.sl (.pair (.pair .bool tyA3) (.pair (.pair (.arr 4 (.int .u64)) (.pair (.arr 4 (.int .u64)) .unit)) tyA3))) .unit) vs = some x) (h2 : bartab_Ready x.1 = some v) (h3 : k ((unpack (.sl (.int .i64))) v)) : callK (lf_bartab_Ready vs) k := by
  rw [lq_bartab_Ready]; exact callK_lift h1 h2 h3
def tt_bartab_Ready : List (Nat × Ty) := [(3, .int .i64), (26, .sl (.int .i64)), (36, .sl (.pair (.pair .bool tyA3) (.pair (.pair (.arr 4 (.int .u64)) (.pair (.arr 4 (.int .u64)) .unit)) tyA3))), (136, .pair (.pair .bool tyA3) (.pair (.pair (.arr 4 (.int .u64)) (.pair (.arr 4 (.int .u64)) .unit)) tyA3))]
def et_bartab_Ready : List (Nat × Nat) := [(26, 3), (36, 136)]
theorem tt_bartab_Ready_ok : subT tt tt_bartab_Ready = true := by kernel_rfl
theorem et_bartab_Ready_ok : subE et et_bartab_Ready = true := by kernel_rfl
noncomputable def fns_bartab_Ready : List (Nat × (List AV → Option AV)) := [(66, lf_barrier_Ready)]
theorem fns_bartab_Ready_ok : FnsOk Go.Proofs.Tryz.prog fns_bartab_Ready := FnsOk.cons c_barrier_Ready (FnsOk.nil _)
def bartab_Ready_S1 (u0 : AV) (u1 : AV) (u2 : AV) (x1 : Int × List Int) : St :=
  ⟨[(3, u0), (6, u1), (7, u2), (8, .int .i64 x1.1)], [(18, .row 3 (.int .i64) x1.2 false)], none⟩
def bartab_Ready_M1 : Msk := ⟨[3, 6, 7, 8], [18], [(3, 18, 26)], [], [], [], [], [], []⟩
def kp_bartab_Ready : List (Nat × List Nat) := [(0, [0]), (1, [0, 3]), (2, [3, 6, 7, 8]), (3, [3, 6, 7, 8, 9]), (4, [3, 4, 5, 6, 7, 8]), (5, [3, 4, 6, 7, 8, 14]), (6, [3, 6, 7, 8]), (7, [3, 6, 7, 8]), (8, [2]), (4000000, []), (4000001, []), (4000002, []), (4000003, [18]), (4000004, [5, 18]), (4000005, [18]), (4000006, [18]), (4000007, [18]), (4000008, [18])]
def od_bartab_Ready : List (Nat × Ord) := []
noncomputable def E_bartab_Ready : Env := ⟨0, 0, et_bartab_Ready, tt_bartab_Ready, fns_bartab_Ready, [], od_bartab_Ready, kp_bartab_Ready, none, []⟩
set_option maxRecDepth 100000 in
set_option maxHeartbeats 40000000 in
theorem c_bartab_Ready : PCon Go.Proofs.Tryz.prog 34 lf_bartab_Ready := by
  rw [lq_bartab_Ready]
  refine lift_conR (E := E_bartab_Ready) (c := bodyOf Tryz.f34) (nt := 21) (rs := [.tmp 2]) (ts := [26]) (EnvC.sub (off := 0) (nt := 0) (ords := od_bartab_Ready) (keep := kp_bartab_Ready) (yl := none) tt_ok et_ok fns_bartab_Ready_ok (PrsOk.nil _) (ItsOk.nil _) tt_bartab_Ready_ok et_bartab_Ready_ok) (PrOk.of mixed_ok) Go.Proofs.Tryz.func34 rfl (by decide) rfl rfl rfl (pureR_one (e := (.sl (.int .i64))) rfl) ?_
  intro x r hw hs
  repeat'
    (try (conv => whnf)
     first
       | (with_reducible have hs := letv_out hs)
       | (refine draw_and (by kernel_rfl) ?_)
       | (refine both_mk ?_ ?_)
       | (refine br_bool (fun h => ?_) (fun h => ?_) <;> first | have hs := cT h hs | have hs := cF h hs)
       | (refine bind_elim hs fun v hb hs => ?_; first | refine ck_barrier_Ready rfl hb ?_)
       | refine chk_elim hs fun hs => ?_
       | (have hs := letv_out hs)
       | exact fin_some hs rfl
       | (intro b hb; first | have hs := nilq_elim hs b hb | have hs := nilqn_elim hs b hb)
       | exact hJ1 _ hs
       | (have hs := cT rfl hs)
       | (have hs := cF rfl hs)
       | ((with_reducible have hs : loop (bartab_Ready_L1 _ _) _ = some _ := hs); refine vc_loopR (bartab_Ready_S1 _ _ _) bartab_Ready_M1 hs rfl ?_; intro J1 k1 x1 hJ1 hs)
       | (refine vc_loopR (bartab_Ready_S1 _ _ _) bartab_Ready_M1 hs rfl ?_; intro J1 k1 x1 hJ1 hs)
       | exact (none_ne hs).elim)
end Go.Proofs.YtbkccpddkpclaaaGreatDoorV
namespace Go.Proofs.YtbkccpddkpclaaaGreatDoorV
open Go.Proofs
set_option linter.unusedVariables false
noncomputable def lf_slices_Index_int_int : List AV → Option AV := liftF tyA27 (unpack (.int .i64)) (fun x => slices_Index_int_int x.1 x.2.1)
theorem lq_slices_Index_int_int : lf_slices_Index_int_int = liftF tyA27 (unpack (.int .i64)) (fun x => slices_Index_int_int x.1 x.2.1) := rfl
attribute [irreducible] lf_slices_Index_int_int
theorem ck_slices_Index_int_int {vs : List AV} {k : AV → Prop} {x : (tyA27 : Ty).den} {v : Int} (h1 : pks tyA27 vs = some x) (h2 : slices_Index_int_int x.1 x.2.1 = some v) (h3 : k ((unpack (.int .i64)) v)) : callK (lf_slices_Index_int_int vs) k := by
  rw [lq_slices_Index_int_int]; exact callK_lift h1 h2 h3
def tt_slices_Index_int_int : List (Nat × Ty) := [(3, .int .i64), (26, .sl (.int .i64))]
def et_slices_Index_int_int : List (Nat × Nat) := [(26, 3)]
theorem tt_slices_Index_int_int_ok : subT tt tt_slices_Index_int_int = true := by kernel_rfl
theorem et_slices_Index_int_int_ok : subE et et_slices_Index_int_int = true := by kernel_rfl
noncomputable def fns_slices_Index_int_int : List (Nat × (List AV → Option AV)) := []
theorem fns_slices_Index_int_int_ok : FnsOk Go.Proofs.Tryz.prog fns_slices_Index_int_int := FnsOk.nil _
def slices_Index_int_int_S1 (u0 : AV) (u1 : AV) (u2 : AV) (x1 : Int) : St :=
  ⟨[(0, u0), (1, u1), (7, u2), (8, .int .i64 x1)], [], none⟩
def slices_Index_int_int_M1 : Msk := ⟨[0, 1, 7, 8], [], [], [], [], [], [], [], []⟩
def kp_slices_Index_int_int : List (Nat × List Nat) := [(0, [0, 1]), (1, [0, 1, 7, 8]), (2, [0, 1, 7, 8, 9]), (3, [0, 1, 5, 7, 8]), (4, [0, 1, 5, 7, 8, 16]), (5, [4]), (6, [0, 1, 7, 8]), (7, [4]), (4000000, []), (4000001, []), (4000002, []), (4000003, []), (4000004, []), (4000005, []), (4000006, []), (4000007, [])]
def od_slices_Index_int_int : List (Nat × Ord) := []
noncomputable def E_slices_Index_int_int : Env := ⟨0, 0, et_slices_Index_int_int, tt_slices_Index_int_int, fns_slices_Index_int_int, [], od_slices_Index_int_int, kp_slices_Index_int_int, none, []⟩
set_option maxRecDepth 100000 in
set_option maxHeartbeats 40000000 in
theorem c_slices_Index_int_int : PCon Go.Proofs.Tryz.prog 79 lf_slices_Index_int_int := by
  rw [lq_slices_Index_int_int]
  refine lift_conR (E := E_slices_Index_int_int) (c := bodyOf Tryz.f79) (nt := 19) (rs := [.tmp 4]) (ts := [3]) (EnvC.sub (off := 0) (nt := 0) (ords := od_slices_Index_int_int) (keep := kp_slices_Index_int_int) (yl := none) tt_ok et_ok fns_slices_Index_int_int_ok (PrsOk.nil _) (ItsOk.nil _) tt_slices_Index_int_int_ok et_slices_Index_int_int_ok) (PrOk.of mixed_ok) Go.Proofs.Tryz.func79 rfl (by decide) rfl rfl rfl (pureR_one (e := (.int .i64)) rfl) ?_
  intro x r hw hs
  repeat'
    (try (conv => whnf)
     first
       | (with_reducible have hs := letv_out hs)
       | (refine draw_and (by kernel_rfl) ?_)
       | (refine both_mk ?_ ?_)
       | (refine br_bool (fun h => ?_) (fun h => ?_) <;> first | have hs := cT h hs | have hs := cF h hs)
       | refine chk_elim hs fun hs => ?_
       | (have hs := letv_out hs)
       | exact fin_some hs rfl
       | (intro b hb; first | have hs := nilq_elim hs b hb | have hs := nilqn_elim hs b hb)
       | exact hJ1 _ hs
       | (have hs := cT rfl hs)
       | (have hs := cF rfl hs)
       | ((with_reducible have hs : loop (slices_Index_int_int_L1 _ _ _) _ = some _ := hs); refine vc_loopR (slices_Index_int_int_S1 _ _ _) slices_Index_int_int_M1 hs rfl ?_; intro J1 k1 x1 hJ1 hs)
       | (refine vc_loopR (slices_Index_int_int_S1 _ _ _) slices_Index_int_int_M1 hs rfl ?_; intro J1 k1 x1 hJ1 hs)
       | exact (none_ne hs).elim)
noncomputable def lf_slices_Contains_int_int : List AV → Option AV := liftF tyA27 (unpack .bool) (fun x => slices_Contains_int_int x.1 x.2.1)
theorem lq_slices_Contains_int_int : lf_slices_Contains_int_int = liftF tyA27 (unpack .bool) (fun x => slices_Contains_int_int x.1 x.2.1) := rfl
attribute [irreducible] lf_slices_Contains_int_int
theorem ck_slices_Contains_int_int {vs : List AV} {k : AV → Prop} {x : (tyA27 : Ty).den} {v : Bool} (h1 : pks tyA27 vs = some x) (h2 : slices_Contains_int_int x.1 x.2.1 = some v) (h3 : k ((unpack .bool) v)) : callK (lf_slices_Contains_int_int vs) k := by
  rw [lq_slices_Contains_int_int]; exact callK_lift h1 h2 h3
def tt_slices_Contains_int_int : List (Nat × Ty) := [(3, .int .i64), (4, .bool), (26, .sl (.int .i64))]
def et_slices_Contains_int_int : List (Nat × Nat) := [(26, 3)]
theorem tt_slices_Contains_int_int_ok : subT tt tt_slices_Contains_int_int = true := by kernel_rfl
theorem et_slices_Contains_int_int_ok : subE et et_slices_Contains_int_int = true := by kernel_rfl
noncomputable def fns_slices_Contains_int_int : List (Nat × (List AV → Option AV)) := [(79, lf_slices_Index_int_int)]
theorem fns_slices_Contains_int_int_ok : FnsOk Go.Proofs.Tryz.prog fns_slices_Contains_int_int := FnsOk.cons c_slices_Index_int_int (FnsOk.nil _)
def kp_slices_Contains_int_int : List (Nat × List Nat) := [(0, [0, 1]), (1, [4]), (4000000, []), (4000001, [])]
def od_slices_Contains_int_int : List (Nat × Ord) := []
noncomputable def E_slices_Contains_int_int : Env := ⟨0, 0, et_slices_Contains_int_int, tt_slices_Contains_int_int, fns_slices_Contains_int_int, [], od_slices_Contains_int_int, kp_slices_Contains_int_int, none, []⟩
set_option maxRecDepth 100000 in
set_option maxHeartbeats 40000000 in
theorem c_slices_Contains_int_int : PCon Go.Proofs.Tryz.prog 50 lf_slices_Contains_int_int := by
  rw [lq_slices_Contains_int_int]
  refine lift_conR (E := E_slices_Contains_int_int) (c := bodyOf Tryz.f50) (nt := 9) (rs := [.tmp 4]) (ts := [4]) (EnvC.sub (off := 0) (nt := 0) (ords := od_slices_Contains_int_int) (keep := kp_slices_Contains_int_int) (yl := none) tt_ok et_ok fns_slices_Contains_int_int_ok (PrsOk.nil _) (ItsOk.nil _) tt_slices_Contains_int_int_ok et_slices_Contains_int_int_ok) (PrOk.of mixed_ok) Go.Proofs.Tryz.func50 rfl (by decide) rfl rfl rfl (pureR_one (e := .bool) rfl) ?_
  intro x r hw hs
  repeat'
    (try (conv => whnf)
     first
       | (with_reducible have hs := letv_out hs)
       | (refine draw_and (by kernel_rfl) ?_)
       | (refine both_mk ?_ ?_)
       | (refine br_bool (fun h => ?_) (fun h => ?_) <;> first | have hs := cT h hs | have hs := cF h hs)
       | (refine bind_elim hs fun v hb hs => ?_; first | refine ck_slices_Index_int_int rfl hb ?_)
       | refine chk_elim hs fun hs => ?_
       | (have hs := letv_out hs)
       | exact fin_some hs rfl
       | (intro b hb; first | have hs := nilq_elim hs b hb | have hs := nilqn_elim hs b hb)
       | (have hs := cT rfl hs)
       | (have hs := cF rfl hs)
       | exact (none_ne hs).elim)
end Go.Proofs.YtbkccpddkpclaaaGreatDoorV
namespace Go.Proofs.YtbkccpddkpclaaaGreatDoorV
open Go.Proofs
set_option linter.unusedVariables false
noncomputable def lf_claims_process : List AV → Option AV := liftF tyA3 (unpack .bool) (fun x => claims_process x.1)
theorem lq_claims_process : lf_claims_process = liftF tyA3 (unpack .bool) (fun x => claims_process x.1) := rfl
attribute [irreducible] lf_claims_process
theorem ck_claims_process {vs : List AV} {k : AV → Prop} {x : (tyA3 : Ty).den} {v : Bool} (h1 : pks tyA3 vs = some x) (h2 : claims_process x.1 = some v) (h3 : k ((unpack .bool) v)) : callK (lf_claims_process vs) k := by
  rw [lq_claims_process]; exact callK_lift h1 h2 h3
def tt_claims_process : List (Nat × Ty) := [(3, .int .i64), (4, .bool)]
def et_claims_process : List (Nat × Nat) := []
theorem tt_claims_process_ok : subT tt tt_claims_process = true := by kernel_rfl
theorem et_claims_process_ok : subE et et_claims_process = true := by kernel_rfl
noncomputable def fns_claims_process : List (Nat × (List AV → Option AV)) := []
theorem fns_claims_process_ok : FnsOk Go.Proofs.Tryz.prog fns_claims_process := FnsOk.nil _
def kp_claims_process : List (Nat × List Nat) := [(0, [0]), (1, [2]), (4000000, []), (4000001, [])]
def od_claims_process : List (Nat × Ord) := []
noncomputable def E_claims_process : Env := ⟨0, 0, et_claims_process, tt_claims_process, fns_claims_process, [], od_claims_process, kp_claims_process, none, []⟩
set_option maxRecDepth 100000 in
set_option maxHeartbeats 40000000 in
theorem c_claims_process : PCon Go.Proofs.Tryz.prog 118 lf_claims_process := by
  rw [lq_claims_process]
  refine lift_conR (E := E_claims_process) (c := bodyOf Tryz.f118) (nt := 9) (rs := [.tmp 2]) (ts := [4]) (EnvC.sub (off := 0) (nt := 0) (ords := od_claims_process) (keep := kp_claims_process) (yl := none) tt_ok et_ok fns_claims_process_ok (PrsOk.nil _) (ItsOk.nil _) tt_claims_process_ok et_claims_process_ok) (PrOk.of mixed_ok) Go.Proofs.Tryz.func118 rfl (by decide) rfl rfl rfl (pureR_one (e := .bool) rfl) ?_
  intro x r hw hs
  repeat'
    (try (conv => whnf)
     first
       | (with_reducible have hs := letv_out hs)
       | (refine draw_and (by kernel_rfl) ?_)
       | (refine both_mk ?_ ?_)
       | (refine br_bool (fun h => ?_) (fun h => ?_) <;> first | have hs := cT h hs | have hs := cF h hs)
       | refine chk_elim hs fun hs => ?_
       | (have hs := letv_out hs)
       | exact fin_some hs rfl
       | (intro b hb; first | have hs := nilq_elim hs b hb | have hs := nilqn_elim hs b hb)
       | (have hs := cT rfl hs)
       | (have hs := cF rfl hs)
       | exact (none_ne hs).elim)
noncomputable def lf_claims_Fine : List AV → Option AV := liftF (.pair (.pair .bool tyA11) .unit) (unpack .bool) (fun x => claims_Fine x.1)
theorem lq_claims_Fine : lf_claims_Fine = liftF (.pair (.pair .bool tyA11) .unit) (unpack .bool) (fun x => claims_Fine x.1) := rfl
attribute [irreducible] lf_claims_Fine
theorem ck_claims_Fine {vs : List AV} {k : AV → Prop} {x : ((.pair (.pair .bool tyA11) .unit) : Ty).den} {v : Bool} (h1 : pks (.pair (.pair .bool tyA11) .unit) vs = some x) (h2 : claims_Fine x.1 = some v) (h3 : k ((unpack .bool) v)) : callK (lf_claims_Fine vs) k := by
  rw [lq_claims_Fine]; exact callK_lift h1 h2 h3
def tt_claims_Fine : List (Nat × Ty) := [(3, .int .i64), (4, .bool), (26, .sl (.int .i64)), (126, .pair .bool tyA11)]
def et_claims_Fine : List (Nat × Nat) := [(26, 3)]
theorem tt_claims_Fine_ok : subT tt tt_claims_Fine = true := by kernel_rfl
theorem et_claims_Fine_ok : subE et et_claims_Fine = true := by kernel_rfl
noncomputable def fns_claims_Fine : List (Nat × (List AV → Option AV)) := [(50, lf_slices_Contains_int_int), (118, lf_claims_process)]
theorem fns_claims_Fine_ok : FnsOk Go.Proofs.Tryz.prog fns_claims_Fine := FnsOk.cons c_slices_Contains_int_int (FnsOk.cons c_claims_process (FnsOk.nil _))
def claims_Fine_S1 (u0 : AV) (u1 : AV) (u2 : AV) (B4 : Blk) (x1 : Int) : St :=
  ⟨[(1, u0), (6, u1), (7, u2), (8, .int .i64 x1)], [(1, B4)], none⟩
def claims_Fine_M1 : Msk := ⟨[1, 6, 7, 8], [1], [], [], [], [], [], [], []⟩
def kp_claims_Fine : List (Nat × List Nat) := [(0, [1]), (1, [1, 6, 7, 8]), (2, [1, 6, 7, 8, 9]), (3, [1, 3, 4, 6, 7, 8]), (4, [1, 6, 7, 8, 23]), (5, [2]), (6, [1, 6, 7, 8]), (7, [2]), (4000000, [1]), (4000001, [1]), (4000002, [1]), (4000003, [1]), (4000004, [1]), (4000005, []), (4000006, [1]), (4000007, [])]
def od_claims_Fine : List (Nat × Ord) := []
noncomputable def E_claims_Fine : Env := ⟨0, 0, et_claims_Fine, tt_claims_Fine, fns_claims_Fine, [], od_claims_Fine, kp_claims_Fine, none, []⟩
set_option maxRecDepth 100000 in
set_option maxHeartbeats 40000000 in
theorem c_claims_Fine : PCon Go.Proofs.Tryz.prog 103 lf_claims_Fine := by
  rw [lq_claims_Fine]
  refine lift_conR (E := E_claims_Fine) (c := bodyOf Tryz.f103) (nt := 33) (rs := [.tmp 2]) (ts := [4]) (EnvC.sub (off := 0) (nt := 0) (ords := od_claims_Fine) (keep := kp_claims_Fine) (yl := none) tt_ok et_ok fns_claims_Fine_ok (PrsOk.nil _) (ItsOk.nil _) tt_claims_Fine_ok et_claims_Fine_ok) (PrOk.of mixed_ok) Go.Proofs.Tryz.func103 rfl (by decide) rfl rfl rfl (pureR_one (e := .bool) rfl) ?_
  intro x r hw hs
  repeat'
    (try (conv => whnf)
     first
       | (with_reducible have hs := letv_out hs)
       | (refine draw_and (by kernel_rfl) ?_)
       | (refine both_mk ?_ ?_)
       | (refine br_bool (fun h => ?_) (fun h => ?_) <;> first | have hs := cT h hs | have hs := cF h hs)
       | (refine bind_elim hs fun v hb hs => ?_; first | refine ck_slices_Contains_int_int rfl hb ?_ | refine ck_claims_process rfl hb ?_)
       | refine chk_elim hs fun hs => ?_
       | (have hs := letv_out hs)
       | exact fin_some hs rfl
       | (intro b hb; first | have hs := nilq_elim hs b hb | have hs := nilqn_elim hs b hb)
       | exact hJ1 _ hs
       | (have hs := cT rfl hs)
       | (have hs := cF rfl hs)
       | ((with_reducible have hs : loop (claims_Fine_L1 _ _) _ = some _ := hs); refine vc_loopR (claims_Fine_S1 _ _ _ _) claims_Fine_M1 hs rfl ?_; intro J1 k1 x1 hJ1 hs)
       | (refine vc_loopR (claims_Fine_S1 _ _ _ _) claims_Fine_M1 hs rfl ?_; intro J1 k1 x1 hJ1 hs)
       | exact (none_ne hs).elim)
noncomputable def lf_claims_Head : List AV → Option AV := liftF (.pair (.pair .bool tyA11) .unit) (unpR (.pair (.int .i64) (.pair .bool .unit))) (fun x => claims_Head x.1)
theorem lq_claims_Head : lf_claims_Head = liftF (.pair (.pair .bool tyA11) .unit) (unpR (.pair (.int .i64) (.pair .bool .unit))) (fun x => claims_Head x.1) := rfl
attribute [irreducible] lf_claims_Head
theorem ck_claims_Head {vs : List AV} {k : AV → Prop} {x : ((.pair (.pair .bool tyA11) .unit) : Ty).den} {v : Int × Bool × Unit} (h1 : pks (.pair (.pair .bool tyA11) .unit) vs = some x) (h2 : claims_Head x.1 = some v) (h3 : k ((unpR (.pair (.int .i64) (.pair .bool .unit))) v)) : callK (lf_claims_Head vs) k := by
  rw [lq_claims_Head]; exact callK_lift h1 h2 h3
def tt_claims_Head : List (Nat × Ty) := [(3, .int .i64), (4, .bool), (26, .sl (.int .i64)), (126, .pair .bool tyA11)]
def et_claims_Head : List (Nat × Nat) := [(26, 3)]
theorem tt_claims_Head_ok : subT tt tt_claims_Head = true := by kernel_rfl
theorem et_claims_Head_ok : subE et et_claims_Head = true := by kernel_rfl
noncomputable def fns_claims_Head : List (Nat × (List AV → Option AV)) := [(103, lf_claims_Fine)]
theorem fns_claims_Head_ok : FnsOk Go.Proofs.Tryz.prog fns_claims_Head := FnsOk.cons c_claims_Fine (FnsOk.nil _)
def kp_claims_Head : List (Nat × List Nat) := [(0, [1]), (1, [1, 12]), (2, [2, 3]), (3, [2, 3]), (4000000, [1]), (4000001, [1]), (4000002, []), (4000003, [])]
def od_claims_Head : List (Nat × Ord) := []
noncomputable def E_claims_Head : Env := ⟨0, 0, et_claims_Head, tt_claims_Head, fns_claims_Head, [], od_claims_Head, kp_claims_Head, none, []⟩
set_option maxRecDepth 100000 in
set_option maxHeartbeats 40000000 in
theorem c_claims_Head : PCon Go.Proofs.Tryz.prog 75 lf_claims_Head := by
  rw [lq_claims_Head]
  refine lift_conR (E := E_claims_Head) (c := bodyOf Tryz.f75) (nt := 17) (rs := [.tmp 2, .tmp 3]) (ts := [3, 4]) (EnvC.sub (off := 0) (nt := 0) (ords := od_claims_Head) (keep := kp_claims_Head) (yl := none) tt_ok et_ok fns_claims_Head_ok (PrsOk.nil _) (ItsOk.nil _) tt_claims_Head_ok et_claims_Head_ok) (PrOk.of mixed_ok) Go.Proofs.Tryz.func75 rfl (by decide) rfl rfl rfl (pureR_many (e := (.pair (.int .i64) (.pair .bool .unit))) rfl) ?_
  intro x r hw hs
  repeat'
    (try (conv => whnf)
     first
       | (with_reducible have hs := letv_out hs)
       | (refine draw_and (by kernel_rfl) ?_)
       | (refine both_mk ?_ ?_)
       | (refine br_bool (fun h => ?_) (fun h => ?_) <;> first | have hs := cT h hs | have hs := cF h hs)
       | (refine bind_elim hs fun v hb hs => ?_; first | refine ck_claims_Fine rfl hb ?_)
       | refine chk_elim hs fun hs => ?_
       | (have hs := letv_out hs)
       | exact fin_some hs rfl
       | (intro b hb; first | have hs := nilq_elim hs b hb | have hs := nilqn_elim hs b hb)
       | (have hs := cT rfl hs)
       | (have hs := cF rfl hs)
       | exact (none_ne hs).elim)
end Go.Proofs.YtbkccpddkpclaaaGreatDoorV
namespace Go.Proofs.YtbkccpddkpclaaaGreatDoorV
open Go.Proofs
set_option linter.unusedVariables false
noncomputable def lf_channel_Check : List AV → Option AV := liftF (.pair tyA7 .unit) (unpack (.int .i64)) (fun x => channel_Check x.1)
theorem lq_channel_Check : lf_channel_Check = liftF (.pair tyA7 .unit) (unpack (.int .i64)) (fun x => channel_Check x.1) := rfl
attribute [irreducible] lf_channel_Check
theorem ck_channel_Check {vs : List AV} {k : AV → Prop} {x : ((.pair tyA7 .unit) : Ty).den} {v : Int} (h1 : pks (.pair tyA7 .unit) vs = some x) (h2 : channel_Check x.1 = some v) (h3 : k ((unpack (.int .i64)) v)) : callK (lf_channel_Check vs) k := by
  rw [lq_channel_Check]; exact callK_lift h1 h2 h3
def tt_channel_Check : List (Nat × Ty) := [(3, .int .i64), (4, .bool), (73, .pair (.int .i64) tyA14), (183, .int .i64)]
def et_channel_Check : List (Nat × Nat) := []
theorem tt_channel_Check_ok : subT tt tt_channel_Check = true := by kernel_rfl
theorem et_channel_Check_ok : subE et et_channel_Check = true := by kernel_rfl
noncomputable def fns_channel_Check : List (Nat × (List AV → Option AV)) := [(102, lf_poison_Fine)]
theorem fns_channel_Check_ok : FnsOk Go.Proofs.Tryz.prog fns_channel_Check := FnsOk.cons c_poison_Fine (FnsOk.nil _)
def kp_channel_Check : List (Nat × List Nat) := [(0, [1]), (1, [1, 3]), (2, [2]), (3, [12]), (4, [2]), (5, [2]), (4000000, [1]), (4000001, [1]), (4000002, []), (4000003, []), (4000004, []), (4000005, [])]
def od_channel_Check : List (Nat × Ord) := []
noncomputable def E_channel_Check : Env := ⟨0, 0, et_channel_Check, tt_channel_Check, fns_channel_Check, [], od_channel_Check, kp_channel_Check, none, []⟩
set_option maxRecDepth 100000 in
set_option maxHeartbeats 40000000 in
theorem c_channel_Check : PCon Go.Proofs.Tryz.prog 115 lf_channel_Check := by
  rw [lq_channel_Check]
  refine lift_conR (E := E_channel_Check) (c := bodyOf Tryz.f115) (nt := 33) (rs := [.tmp 2]) (ts := [183]) (EnvC.sub (off := 0) (nt := 0) (ords := od_channel_Check) (keep := kp_channel_Check) (yl := none) tt_ok et_ok fns_channel_Check_ok (PrsOk.nil _) (ItsOk.nil _) tt_channel_Check_ok et_channel_Check_ok) (PrOk.of mixed_ok) Go.Proofs.Tryz.func115 rfl (by decide) rfl rfl rfl (pureR_one (e := (.int .i64)) rfl) ?_
  intro x r hw hs
  repeat'
    (try (conv => whnf)
     first
       | (with_reducible have hs := letv_out hs)
       | (refine draw_and (by kernel_rfl) ?_)
       | (refine both_mk ?_ ?_)
       | (refine br_bool (fun h => ?_) (fun h => ?_) <;> first | have hs := cT h hs | have hs := cF h hs)
       | (refine bind_elim hs fun v hb hs => ?_; first | refine ck_poison_Fine rfl hb ?_)
       | refine chk_elim hs fun hs => ?_
       | (have hs := letv_out hs)
       | exact fin_some hs rfl
       | (intro b hb; first | have hs := nilq_elim hs b hb | have hs := nilqn_elim hs b hb)
       | (have hs := cT rfl hs)
       | (have hs := cF rfl hs)
       | exact (none_ne hs).elim)
noncomputable def lf_channel_words_1 : List AV → Option AV := liftF tyA3 (unpack .bool) (fun x => channel_words_1 x.1)
theorem lq_channel_words_1 : lf_channel_words_1 = liftF tyA3 (unpack .bool) (fun x => channel_words_1 x.1) := rfl
attribute [irreducible] lf_channel_words_1
theorem ck_channel_words_1 {vs : List AV} {k : AV → Prop} {x : (tyA3 : Ty).den} {v : Bool} (h1 : pks tyA3 vs = some x) (h2 : channel_words_1 x.1 = some v) (h3 : k ((unpack .bool) v)) : callK (lf_channel_words_1 vs) k := by
  rw [lq_channel_words_1]; exact callK_lift h1 h2 h3
def tt_channel_words_1 : List (Nat × Ty) := [(3, .int .i64), (4, .bool)]
def et_channel_words_1 : List (Nat × Nat) := []
theorem tt_channel_words_1_ok : subT tt tt_channel_words_1 = true := by kernel_rfl
theorem et_channel_words_1_ok : subE et et_channel_words_1 = true := by kernel_rfl
noncomputable def fns_channel_words_1 : List (Nat × (List AV → Option AV)) := [(124, lf_word_Fine)]
theorem fns_channel_words_1_ok : FnsOk Go.Proofs.Tryz.prog fns_channel_words_1 := FnsOk.cons c_word_Fine (FnsOk.nil _)
def kp_channel_words_1 : List (Nat × List Nat) := [(0, [0]), (1, [2]), (4000000, []), (4000001, [])]
def od_channel_words_1 : List (Nat × Ord) := []
noncomputable def E_channel_words_1 : Env := ⟨0, 0, et_channel_words_1, tt_channel_words_1, fns_channel_words_1, [], od_channel_words_1, kp_channel_words_1, none, []⟩
set_option maxRecDepth 100000 in
set_option maxHeartbeats 40000000 in
theorem c_channel_words_1 : PCon Go.Proofs.Tryz.prog 123 lf_channel_words_1 := by
  rw [lq_channel_words_1]
  refine lift_conR (E := E_channel_words_1) (c := bodyOf Tryz.f123) (nt := 6) (rs := [.tmp 2]) (ts := [4]) (EnvC.sub (off := 0) (nt := 0) (ords := od_channel_words_1) (keep := kp_channel_words_1) (yl := none) tt_ok et_ok fns_channel_words_1_ok (PrsOk.nil _) (ItsOk.nil _) tt_channel_words_1_ok et_channel_words_1_ok) (PrOk.of mixed_ok) Go.Proofs.Tryz.func123 rfl (by decide) rfl rfl rfl (pureR_one (e := .bool) rfl) ?_
  intro x r hw hs
  repeat'
    (try (conv => whnf)
     first
       | (with_reducible have hs := letv_out hs)
       | (refine draw_and (by kernel_rfl) ?_)
       | (refine both_mk ?_ ?_)
       | (refine br_bool (fun h => ?_) (fun h => ?_) <;> first | have hs := cT h hs | have hs := cF h hs)
       | (refine bind_elim hs fun v hb hs => ?_; first | refine ck_word_Fine rfl hb ?_)
       | refine chk_elim hs fun hs => ?_
       | (have hs := letv_out hs)
       | exact fin_some hs rfl
       | (intro b hb; first | have hs := nilq_elim hs b hb | have hs := nilqn_elim hs b hb)
       | (have hs := cT rfl hs)
       | (have hs := cF rfl hs)
       | exact (none_ne hs).elim)
noncomputable def lf_channel_words : List AV → Option AV := liftF tyA11 (unpack .bool) (fun x => channel_words x.1)
theorem lq_channel_words : lf_channel_words = liftF tyA11 (unpack .bool) (fun x => channel_words x.1) := rfl
attribute [irreducible] lf_channel_words
theorem ck_channel_words {vs : List AV} {k : AV → Prop} {x : (tyA11 : Ty).den} {v : Bool} (h1 : pks tyA11 vs = some x) (h2 : channel_words x.1 = some v) (h3 : k ((unpack .bool) v)) : callK (lf_channel_words vs) k := by
  rw [lq_channel_words]; exact callK_lift h1 h2 h3
def tt_channel_words : List (Nat × Ty) := [(3, .int .i64), (4, .bool), (26, .sl (.int .i64)), (148, .opq 1)]
def et_channel_words : List (Nat × Nat) := [(26, 3)]
theorem tt_channel_words_ok : subT tt tt_channel_words = true := by kernel_rfl
theorem et_channel_words_ok : subE et et_channel_words = true := by kernel_rfl
noncomputable def fns_channel_words : List (Nat × (List AV → Option AV)) := [(123, lf_channel_words_1)]
theorem fns_channel_words_ok : FnsOk Go.Proofs.Tryz.prog fns_channel_words := FnsOk.cons c_channel_words_1 (FnsOk.nil _)
def kp_channel_words_126 : List (Nat × List Nat) := [(0, [0, 1]), (1, [0, 1, 7, 8]), (2, [0, 1, 7, 8, 9]), (3, [0, 1, 5, 7, 8]), (4, [0, 1, 5, 7, 8, 16]), (5, [4]), (6, [0, 1, 7, 8]), (7, [4])]
def od_channel_words_126 : List (Nat × Ord) := []
noncomputable def E_channel_words_126 : Env := ⟨0, 0, et_channel_words, tt_channel_words, fns_channel_words, [], od_channel_words_126, kp_channel_words_126, none, []⟩
noncomputable def pr_channel_words_126 : List (Nat × Proc) := (126, procR E_channel_words_126 19 [.tmp 4] (bodyOf Tryz.f126)) :: []
theorem pr_channel_words_126_ok : PrsOk Go.Proofs.Tryz.prog pr_channel_words_126 :=
  PrsOk.cons (proc_conR (E := E_channel_words_126) (EnvC.sub (off := 0) (nt := 0) (ords := od_channel_words_126) (keep := kp_channel_words_126) (yl := none) tt_ok et_ok fns_channel_words_ok (PrsOk.nil _) (ItsOk.nil _) tt_channel_words_ok et_channel_words_ok) (PrOk.of mixed_ok) Go.Proofs.Tryz.func126 rfl (by decide) rfl rfl) (PrsOk.nil _)
def kp_channel_words_122 : List (Nat × List Nat) := [(0, [0, 1]), (1, [4])]
def od_channel_words_122 : List (Nat × Ord) := []
noncomputable def E_channel_words_122 : Env := ⟨0, 0, et_channel_words, tt_channel_words, fns_channel_words, pr_channel_words_126, od_channel_words_122, kp_channel_words_122, none, []⟩
noncomputable def pr_channel_words_122 : List (Nat × Proc) := (122, procR E_channel_words_122 9 [.tmp 4] (bodyOf Tryz.f122)) :: pr_channel_words_126
theorem pr_channel_words_122_ok : PrsOk Go.Proofs.Tryz.prog pr_channel_words_122 :=
  PrsOk.cons (proc_conR (E := E_channel_words_122) (EnvC.sub (off := 0) (nt := 0) (ords := od_channel_words_122) (keep := kp_channel_words_122) (yl := none) tt_ok et_ok fns_channel_words_ok (pr_channel_words_126_ok) (ItsOk.nil _) tt_channel_words_ok et_channel_words_ok) (PrOk.of mixed_ok) Go.Proofs.Tryz.func122 rfl (by decide) rfl rfl) (pr_channel_words_126_ok)
def channel_words_S1 (u0 : AV) (u1 : AV) (u2 : AV) (x2 : Int) : St :=
  ⟨[(0, u0), (1, u1), (7, u2), (8, .int .i64 x2)], [], (some ([], 0))⟩
def channel_words_M1 : Msk := ⟨[0, 1, 7, 8], [], [], [], [], [], [], [], []⟩
def channel_words_Q1 (x1 : Bool) : St :=
  ⟨[(2, .dead), (4, .bool x1), (5, .dead)], [], none⟩
def kp_channel_words : List (Nat × List Nat) := [(0, [0]), (1, [2]), (25000004, []), (20000004, [2, 4, 5]), (24000004, []), (26000004, []), (4000000, []), (4000001, [])]
def od_channel_words : List (Nat × Ord) := []
noncomputable def E_channel_words : Env := ⟨0, 0, et_channel_words, tt_channel_words, fns_channel_words, pr_channel_words_122, od_channel_words, kp_channel_words, none, []⟩
set_option maxRecDepth 100000 in
set_option maxHeartbeats 40000000 in
theorem c_channel_words : PCon Go.Proofs.Tryz.prog 116 lf_channel_words := by
  rw [lq_channel_words]
  refine lift_conR (E := E_channel_words) (c := bodyOf Tryz.f116) (nt := 6) (rs := [.tmp 2]) (ts := [4]) (EnvC.sub (off := 0) (nt := 0) (ords := od_channel_words) (keep := kp_channel_words) (yl := none) tt_ok et_ok fns_channel_words_ok (pr_channel_words_122_ok) (ItsOk.nil _) tt_channel_words_ok et_channel_words_ok) (PrOk.of mixed_ok) Go.Proofs.Tryz.func116 rfl (by decide) rfl rfl rfl (pureR_one (e := .bool) rfl) ?_
  intro x r hw hs
  repeat'
    (try (conv => whnf)
     first
       | (with_reducible have hs := letv_out hs)
       | (refine draw_and (by kernel_rfl) ?_)
       | (refine both_mk ?_ ?_)
       | (refine br_bool (fun h => ?_) (fun h => ?_) <;> first | have hs := cT h hs | have hs := cF h hs)
       | (refine bind_elim hs fun v hb hs => ?_; first | refine ck_channel_words_1 rfl hb ?_)
       | refine chk_elim hs fun hs => ?_
       | (have hs := letv_out hs)
       | exact fin_some hs rfl
       | (intro b hb; first | have hs := nilq_elim hs b hb | have hs := nilqn_elim hs b hb)
       | exact hJ1 _ hs
       | exact hC1 _ hs
       | (refine cut_out 1 channel_words_Q1 hs (fun Jc1 kc1 hC1 hs => ?_) (fun xc1 hs => ?_))
       | (have hs := cT rfl hs)
       | (have hs := cF rfl hs)
       | ((with_reducible have hs : loop (channel_words_L1 _ _ _) _ = some _ := hs); refine vc_loopR (channel_words_S1 _ _ _) channel_words_M1 hs rfl ?_; intro J1 k1 x1 hJ1 hs)
       | (refine vc_loopR (channel_words_S1 _ _ _) channel_words_M1 hs rfl ?_; intro J1 k1 x1 hJ1 hs)
       | exact (none_ne hs).elim)
noncomputable def lf_channel_shares : List AV → Option AV := liftF (.pair tyA7 tyA3) (unpack .bool) (fun x => channel_shares x.1 x.2.1)
theorem lq_channel_shares : lf_channel_shares = liftF (.pair tyA7 tyA3) (unpack .bool) (fun x => channel_shares x.1 x.2.1) := rfl
attribute [irreducible] lf_channel_shares
theorem ck_channel_shares {vs : List AV} {k : AV → Prop} {x : ((.pair tyA7 tyA3) : Ty).den} {v : Bool} (h1 : pks (.pair tyA7 tyA3) vs = some x) (h2 : channel_shares x.1 x.2.1 = some v) (h3 : k ((unpack .bool) v)) : callK (lf_channel_shares vs) k := by
  rw [lq_channel_shares]; exact callK_lift h1 h2 h3
def tt_channel_shares : List (Nat × Ty) := [(3, .int .i64), (4, .bool), (73, .pair (.int .i64) tyA14)]
def et_channel_shares : List (Nat × Nat) := []
theorem tt_channel_shares_ok : subT tt tt_channel_shares = true := by kernel_rfl
theorem et_channel_shares_ok : subE et et_channel_shares = true := by kernel_rfl
noncomputable def fns_channel_shares : List (Nat × (List AV → Option AV)) := []
theorem fns_channel_shares_ok : FnsOk Go.Proofs.Tryz.prog fns_channel_shares := FnsOk.nil _
def kp_channel_shares : List (Nat × List Nat) := [(0, [1, 2]), (1, [4]), (4000000, [2]), (4000001, [])]
def od_channel_shares : List (Nat × Ord) := []
noncomputable def E_channel_shares : Env := ⟨0, 0, et_channel_shares, tt_channel_shares, fns_channel_shares, [], od_channel_shares, kp_channel_shares, none, []⟩
set_option maxRecDepth 100000 in
set_option maxHeartbeats 40000000 in
theorem c_channel_shares : PCon Go.Proofs.Tryz.prog 117 lf_channel_shares := by
  rw [lq_channel_shares]
  refine lift_conR (E := E_channel_shares) (c := bodyOf Tryz.f117) (nt := 10) (rs := [.tmp 4]) (ts := [4]) (EnvC.sub (off := 0) (nt := 0) (ords := od_channel_shares) (keep := kp_channel_shares) (yl := none) tt_ok et_ok fns_channel_shares_ok (PrsOk.nil _) (ItsOk.nil _) tt_channel_shares_ok et_channel_shares_ok) (PrOk.of mixed_ok) Go.Proofs.Tryz.func117 rfl (by decide) rfl rfl rfl (pureR_one (e := .bool) rfl) ?_
  intro x r hw hs
  repeat'
    (try (conv => whnf)
     first
       | (with_reducible have hs := letv_out hs)
       | (refine draw_and (by kernel_rfl) ?_)
       | (refine both_mk ?_ ?_)
       | (refine br_bool (fun h => ?_) (fun h => ?_) <;> first | have hs := cT h hs | have hs := cF h hs)
       | refine chk_elim hs fun hs => ?_
       | (have hs := letv_out hs)
       | exact fin_some hs rfl
       | (intro b hb; first | have hs := nilq_elim hs b hb | have hs := nilqn_elim hs b hb)
       | (have hs := cT rfl hs)
       | (have hs := cF rfl hs)
       | exact (none_ne hs).elim)
noncomputable def lf_channel_Fine : List AV → Option AV := liftF (.pair tyA0 .unit) (unpack .bool) (fun x => channel_Fine x.1)
theorem lq_channel_Fine : lf_channel_Fine = liftF (.pair tyA0 .unit) (unpack .bool) (fun x => channel_Fine x.1) := rfl
attribute [irreducible] lf_channel_Fine
theorem ck_channel_Fine {vs : List AV} {k : AV → Prop} {x : ((.pair tyA0 .unit) : Ty).den} {v : Bool} (h1 : pks (.pair tyA0 .unit) vs = some x) (h2 : channel_Fine x.1 = some v) (h3 : k ((unpack .bool) v)) : callK (lf_channel_Fine vs) k := by
  rw [lq_channel_Fine]; exact callK_lift h1 h2 h3
def tt_channel_Fine : List (Nat × Ty) := [(3, .int .i64), (4, .bool), (26, .sl (.int .i64)), (73, .pair (.int .i64) tyA14), (126, .pair .bool tyA11), (128, .pair tyA7 tyA15), (183, .int .i64)]
def et_channel_Fine : List (Nat × Nat) := [(26, 3)]
theorem tt_channel_Fine_ok : subT tt tt_channel_Fine = true := by kernel_rfl
theorem et_channel_Fine_ok : subE et et_channel_Fine = true := by kernel_rfl
noncomputable def fns_channel_Fine : List (Nat × (List AV → Option AV)) := [(102, lf_poison_Fine), (103, lf_claims_Fine), (115, lf_channel_Check), (116, lf_channel_words), (117, lf_channel_shares)]
theorem fns_channel_Fine_ok : FnsOk Go.Proofs.Tryz.prog fns_channel_Fine := FnsOk.cons c_poison_Fine (FnsOk.cons c_claims_Fine (FnsOk.cons c_channel_Check (FnsOk.cons c_channel_words (FnsOk.cons c_channel_shares (FnsOk.nil _)))))
def kp_channel_Fine : List (Nat × List Nat) := [(0, [1]), (1, [1, 3]), (2, [2]), (3, [1, 14]), (4, [2]), (5, [1, 34]), (6, [2]), (7, [2]), (4000000, [1]), (4000001, [1]), (4000002, []), (4000003, [1]), (4000004, []), (4000005, [1]), (4000006, []), (4000007, [])]
def od_channel_Fine : List (Nat × Ord) := [(5, (.one 0 (.one 1 (.one 2 (.one 3 (.one 4 (.one 5 (.one 6 (.one 7 (.one 8 (.one 9 (.one 10 (.one 11 (.one 12 (.one 13 (.one 14 (.one 15 (.one 16 .nil))))))))))))))))))]
noncomputable def E_channel_Fine : Env := ⟨0, 0, et_channel_Fine, tt_channel_Fine, fns_channel_Fine, [], od_channel_Fine, kp_channel_Fine, none, []⟩
set_option maxRecDepth 100000 in
set_option maxHeartbeats 40000000 in
theorem c_channel_Fine : PCon Go.Proofs.Tryz.prog 95 lf_channel_Fine := by
  rw [lq_channel_Fine]
  refine lift_conR (E := E_channel_Fine) (c := bodyOf Tryz.f95) (nt := 69) (rs := [.tmp 2]) (ts := [4]) (EnvC.sub (off := 0) (nt := 0) (ords := od_channel_Fine) (keep := kp_channel_Fine) (yl := none) tt_ok et_ok fns_channel_Fine_ok (PrsOk.nil _) (ItsOk.nil _) tt_channel_Fine_ok et_channel_Fine_ok) (PrOk.of mixed_ok) Go.Proofs.Tryz.func95 rfl (by decide) rfl rfl rfl (pureR_one (e := .bool) rfl) ?_
  intro x r hw hs
  repeat'
    (try (conv => whnf)
     first
       | (with_reducible have hs := letv_out hs)
       | (refine draw_and (by kernel_rfl) ?_)
       | (refine both_mk ?_ ?_)
       | (refine br_bool (fun h => ?_) (fun h => ?_) <;> first | have hs := cT h hs | have hs := cF h hs)
       | (refine bind_elim hs fun v hb hs => ?_; first | refine ck_poison_Fine rfl hb ?_ | refine ck_claims_Fine rfl hb ?_ | refine ck_channel_Check rfl hb ?_ | refine ck_channel_words rfl hb ?_ | refine ck_channel_shares rfl hb ?_)
       | refine chk_elim hs fun hs => ?_
       | (have hs := letv_out hs)
       | exact fin_some hs rfl
       | (intro b hb; first | have hs := nilq_elim hs b hb | have hs := nilqn_elim hs b hb)
       | (have hs := cT rfl hs)
       | (have hs := cF rfl hs)
       | exact (none_ne hs).elim)
noncomputable def lf_channel_may : List AV → Option AV := liftF (.pair tyA0 tyA3) (unpack .bool) (fun x => channel_may x.1 x.2.1)
theorem lq_channel_may : lf_channel_may = liftF (.pair tyA0 tyA3) (unpack .bool) (fun x => channel_may x.1 x.2.1) := rfl
attribute [irreducible] lf_channel_may
theorem ck_channel_may {vs : List AV} {k : AV → Prop} {x : ((.pair tyA0 tyA3) : Ty).den} {v : Bool} (h1 : pks (.pair tyA0 tyA3) vs = some x) (h2 : channel_may x.1 x.2.1 = some v) (h3 : k ((unpack .bool) v)) : callK (lf_channel_may vs) k := by
  rw [lq_channel_may]; exact callK_lift h1 h2 h3
def tt_channel_may : List (Nat × Ty) := [(3, .int .i64), (4, .bool), (26, .sl (.int .i64)), (73, .pair (.int .i64) tyA14), (126, .pair .bool tyA11), (128, .pair tyA7 tyA15)]
def et_channel_may : List (Nat × Nat) := [(26, 3)]
theorem tt_channel_may_ok : subT tt tt_channel_may = true := by kernel_rfl
theorem et_channel_may_ok : subE et et_channel_may = true := by kernel_rfl
noncomputable def fns_channel_may : List (Nat × (List AV → Option AV)) := [(74, lf_poison_Hit), (75, lf_claims_Head)]
theorem fns_channel_may_ok : FnsOk Go.Proofs.Tryz.prog fns_channel_may := FnsOk.cons c_poison_Hit (FnsOk.cons c_claims_Head (FnsOk.nil _))
def kp_channel_may : List (Nat × List Nat) := [(0, [1, 2]), (1, [1, 2, 6]), (2, [1, 2, 6, 8]), (3, [1, 2, 6, 8]), (4, [1, 2, 6, 8]), (5, [2, 6, 8, 41]), (6, [2, 6, 8, 41, 42]), (7, [4]), (8, [2, 6, 8, 41, 54]), (9, [4]), (10, [2, 8, 66]), (11, [4]), (12, [4]), (4000000, [2]), (4000001, [2]), (4000002, [2]), (4000003, [2]), (4000004, [2]), (4000005, [2]), (4000006, [2]), (4000007, []), (4000008, [2]), (4000009, []), (4000010, [2]), (4000011, []), (4000012, [])]
def od_channel_may : List (Nat × Ord) := []
noncomputable def E_channel_may : Env := ⟨0, 0, et_channel_may, tt_channel_may, fns_channel_may, [], od_channel_may, kp_channel_may, none, []⟩
set_option maxRecDepth 100000 in
set_option maxHeartbeats 40000000 in
theorem c_channel_may : PCon Go.Proofs.Tryz.prog 96 lf_channel_may := by
  rw [lq_channel_may]
  refine lift_conR (E := E_channel_may) (c := bodyOf Tryz.f96) (nt := 75) (rs := [.tmp 4]) (ts := [4]) (EnvC.sub (off := 0) (nt := 0) (ords := od_channel_may) (keep := kp_channel_may) (yl := none) tt_ok et_ok fns_channel_may_ok (PrsOk.nil _) (ItsOk.nil _) tt_channel_may_ok et_channel_may_ok) (PrOk.of mixed_ok) Go.Proofs.Tryz.func96 rfl (by decide) rfl rfl rfl (pureR_one (e := .bool) rfl) ?_
  intro x r hw hs
  repeat'
    (try (conv => whnf)
     first
       | (with_reducible have hs := letv_out hs)
       | (refine draw_and (by kernel_rfl) ?_)
       | (refine both_mk ?_ ?_)
       | (refine br_bool (fun h => ?_) (fun h => ?_) <;> first | have hs := cT h hs | have hs := cF h hs)
       | (refine bind_elim hs fun v hb hs => ?_; first | refine ck_poison_Hit rfl hb ?_ | refine ck_claims_Head rfl hb ?_)
       | refine chk_elim hs fun hs => ?_
       | (have hs := letv_out hs)
       | exact fin_some hs rfl
       | (intro b hb; first | have hs := nilq_elim hs b hb | have hs := nilqn_elim hs b hb)
       | (have hs := cT rfl hs)
       | (have hs := cF rfl hs)
       | exact (none_ne hs).elim)
noncomputable def lf_channel_What : List AV → Option AV := liftF (.pair tyA0 .unit) (unpack (.sl (.int .i64))) (fun x => channel_What x.1)
theorem lq_channel_What : lf_channel_What = liftF (.pair tyA0 .unit) (unpack (.sl (.int .i64))) (fun x => channel_What x.1) := rfl
attribute [irreducible] lf_channel_What
theorem ck_channel_What {vs : List AV} {k : AV → Prop} {x : ((.pair tyA0 .unit) : Ty).den} {v : List Int} (h1 : pks (.pair tyA0 .unit) vs = some x) (h2 : channel_What x.1 = some v) (h3 : k ((unpack (.sl (.int .i64))) v)) : callK (lf_channel_What vs) k := by
  rw [lq_channel_What]; exact callK_lift h1 h2 h3
def tt_channel_What : List (Nat × Ty) := [(3, .int .i64), (4, .bool), (26, .sl (.int .i64)), (128, .pair tyA7 tyA15)]
def et_channel_What : List (Nat × Nat) := [(26, 3)]
theorem tt_channel_What_ok : subT tt tt_channel_What = true := by kernel_rfl
theorem et_channel_What_ok : subE et et_channel_What = true := by kernel_rfl
noncomputable def fns_channel_What : List (Nat × (List AV → Option AV)) := [(95, lf_channel_Fine), (96, lf_channel_may)]
theorem fns_channel_What_ok : FnsOk Go.Proofs.Tryz.prog fns_channel_What := FnsOk.cons c_channel_Fine (FnsOk.cons c_channel_may (FnsOk.nil _))
def channel_What_S1 (u0 : AV) (u1 : AV) (B3 : Blk) (x1 : Int × List Int) : St :=
  ⟨[(1, u0), (3, u1), (4, .int .i64 x1.1)], [(1, B3), (18, .row 3 (.int .i64) x1.2 false)], none⟩
def channel_What_M1 : Msk := ⟨[1, 3, 4], [1, 18], [(3, 18, 26)], [], [], [], [], [], []⟩
def kp_channel_What : List (Nat × List Nat) := [(0, [1]), (1, [1, 7]), (2, [2]), (3, [1, 3]), (4, [1, 3, 4]), (5, [1, 3, 4, 9]), (6, [1, 3, 4]), (7, [1, 3, 4, 14]), (8, [1, 3, 4]), (9, [2]), (4000000, [1]), (4000001, [1]), (4000002, []), (4000003, [1]), (4000004, [1]), (4000005, [1, 18]), (4000006, [1, 18]), (4000007, [1, 18]), (4000008, [1, 18]), (4000009, [18])]
def od_channel_What : List (Nat × Ord) := []
noncomputable def E_channel_What : Env := ⟨0, 0, et_channel_What, tt_channel_What, fns_channel_What, [], od_channel_What, kp_channel_What, none, []⟩
set_option maxRecDepth 100000 in
set_option maxHeartbeats 40000000 in
theorem c_channel_What : PCon Go.Proofs.Tryz.prog 67 lf_channel_What := by
  rw [lq_channel_What]
  refine lift_conR (E := E_channel_What) (c := bodyOf Tryz.f67) (nt := 20) (rs := [.tmp 2]) (ts := [26]) (EnvC.sub (off := 0) (nt := 0) (ords := od_channel_What) (keep := kp_channel_What) (yl := none) tt_ok et_ok fns_channel_What_ok (PrsOk.nil _) (ItsOk.nil _) tt_channel_What_ok et_channel_What_ok) (PrOk.of mixed_ok) Go.Proofs.Tryz.func67 rfl (by decide) rfl rfl rfl (pureR_one (e := (.sl (.int .i64))) rfl) ?_
  intro x r hw hs
  repeat'
    (try (conv => whnf)
     first
       | (with_reducible have hs := letv_out hs)
       | (refine draw_and (by kernel_rfl) ?_)
       | (refine both_mk ?_ ?_)
       | (refine br_bool (fun h => ?_) (fun h => ?_) <;> first | have hs := cT h hs | have hs := cF h hs)
       | (refine bind_elim hs fun v hb hs => ?_; first | refine ck_channel_Fine rfl hb ?_ | refine ck_channel_may rfl hb ?_)
       | refine chk_elim hs fun hs => ?_
       | (have hs := letv_out hs)
       | exact fin_some hs rfl
       | (intro b hb; first | have hs := nilq_elim hs b hb | have hs := nilqn_elim hs b hb)
       | exact hJ1 _ hs
       | (have hs := cT rfl hs)
       | (have hs := cF rfl hs)
       | ((with_reducible have hs : loop (channel_What_L1 _) _ = some _ := hs); refine vc_loopR (channel_What_S1 _ _ _) channel_What_M1 hs rfl ?_; intro J1 k1 x1 hJ1 hs)
       | (refine vc_loopR (channel_What_S1 _ _ _) channel_What_M1 hs rfl ?_; intro J1 k1 x1 hJ1 hs)
       | exact (none_ne hs).elim)
end Go.Proofs.YtbkccpddkpclaaaGreatDoorV
namespace Go.Proofs.YtbkccpddkpclaaaGreatDoorV
open Go.Proofs
set_option linter.unusedVariables false
noncomputable def lf_chantab_Moves : List AV → Option AV := liftF (.pair (.sl tyA0) .unit) (unpack (.sl (.pair (.int .i64) tyA3))) (fun x => chantab_Moves x.1)
theorem lq_chantab_Moves : lf_chantab_Moves = liftF (.pair (.sl tyA0) .unit) (unpack (.sl (.pair (.int .i64) tyA3))) (fun x => chantab_Moves x.1) := rfl
attribute [irreducible] lf_chantab_Moves
theorem ck_chantab_Moves {vs : List AV} {k : AV → Prop} {x : ((.pair (.sl tyA0) .unit) : Ty).den} {v : List (Int × Int × Unit)} (h1 : pks (.pair (.sl tyA0) .unit) vs = some x) (h2 : chantab_Moves x.1 = some v) (h3 : k ((unpack (.sl (.pair (.int .i64) tyA3))) v)) : callK (lf_chantab_Moves vs) k := by
  rw [lq_chantab_Moves]; exact callK_lift h1 h2 h3
def tt_chantab_Moves : List (Nat × Ty) := [(3, .int .i64), (26, .sl (.int .i64)), (35, .sl tyA0), (97, .sl (.pair (.int .i64) tyA3)), (100, .pair (.int .i64) tyA3), (128, .pair tyA7 tyA15)]
def et_chantab_Moves : List (Nat × Nat) := [(26, 3), (35, 128), (97, 100)]
theorem tt_chantab_Moves_ok : subT tt tt_chantab_Moves = true := by kernel_rfl
theorem et_chantab_Moves_ok : subE et et_chantab_Moves = true := by kernel_rfl
noncomputable def fns_chantab_Moves : List (Nat × (List AV → Option AV)) := [(67, lf_channel_What)]
theorem fns_chantab_Moves_ok : FnsOk Go.Proofs.Tryz.prog fns_chantab_Moves := FnsOk.cons c_channel_What (FnsOk.nil _)
def chantab_Moves_S1 (u0 : AV) (u1 : AV) (u2 : AV) (u3 : AV) (u4 : AV) (u5 : AV) (u6 : AV) (x2 : Int × tzA32) : St :=
  ⟨[(3, u0), (4, u1), (8, u2), (9, u3), (10, u4), (16, u5), (17, u6), (18, .int .i64 x2.1)], [(27, .row 100 (.pair (.int .i64) tyA3) x2.2 false)], none⟩
def chantab_Moves_M1 : Msk := ⟨[3, 4, 8, 9, 10, 16, 17, 18], [27], [], [], [], [], [], [], []⟩
def chantab_Moves_S2 (u0 : AV) (u1 : AV) (x1 : Int × Int × tzA32) : St :=
  ⟨[(3, u0), (8, u1), (9, .int .i64 x1.1), (10, .int .i64 x1.2.1)], [(27, .row 100 (.pair (.int .i64) tyA3) x1.2.2 false)], none⟩
def chantab_Moves_M2 : Msk := ⟨[3, 8, 9, 10], [27], [(3, 27, 97)], [], [], [], [], [], []⟩
def kp_chantab_Moves : List (Nat × List Nat) := [(0, [0]), (1, [0, 3]), (2, [3, 8, 9, 10]), (3, [3, 8, 9, 10, 11]), (4, [3, 4, 5, 8, 9, 10]), (5, [3, 4, 8, 9, 10, 16, 17, 18]), (6, [3, 4, 8, 9, 10, 16, 17, 18, 19]), (7, [3, 4, 7, 8, 9, 10, 16, 17, 18]), (8, [3, 4, 8, 9, 10, 16, 17, 18]), (9, [3, 4, 8, 9, 10, 16, 17, 18]), (10, [3, 8, 9, 10]), (11, [2]), (4000000, []), (4000001, []), (4000002, []), (4000003, [27]), (4000004, [5, 27]), (4000005, [27]), (4000006, [27]), (4000007, [27]), (4000008, [27]), (4000009, [27]), (4000010, [27]), (4000011, [27])]
def od_chantab_Moves : List (Nat × Ord) := []
noncomputable def E_chantab_Moves : Env := ⟨0, 0, et_chantab_Moves, tt_chantab_Moves, fns_chantab_Moves, [], od_chantab_Moves, kp_chantab_Moves, none, []⟩
set_option maxRecDepth 100000 in
set_option maxHeartbeats 40000000 in
theorem c_chantab_Moves : PCon Go.Proofs.Tryz.prog 35 lf_chantab_Moves := by
  rw [lq_chantab_Moves]
  refine lift_conR (E := E_chantab_Moves) (c := bodyOf Tryz.f35) (nt := 31) (rs := [.tmp 2]) (ts := [97]) (EnvC.sub (off := 0) (nt := 0) (ords := od_chantab_Moves) (keep := kp_chantab_Moves) (yl := none) tt_ok et_ok fns_chantab_Moves_ok (PrsOk.nil _) (ItsOk.nil _) tt_chantab_Moves_ok et_chantab_Moves_ok) (PrOk.of mixed_ok) Go.Proofs.Tryz.func35 rfl (by decide) rfl rfl rfl (pureR_one (e := (.sl (.pair (.int .i64) tyA3))) rfl) ?_
  intro x r hw hs
  repeat'
    (try (conv => whnf)
     first
       | (with_reducible have hs := letv_out hs)
       | (refine draw_and (by kernel_rfl) ?_)
       | (refine both_mk ?_ ?_)
       | (refine br_bool (fun h => ?_) (fun h => ?_) <;> first | have hs := cT h hs | have hs := cF h hs)
       | (refine bind_elim hs fun v hb hs => ?_; first | refine ck_channel_What rfl hb ?_)
       | refine chk_elim hs fun hs => ?_
       | (have hs := letv_out hs)
       | exact fin_some hs rfl
       | (intro b hb; first | have hs := nilq_elim hs b hb | have hs := nilqn_elim hs b hb)
       | exact hJ1 _ hs
       | exact hJ2 _ hs
       | (have hs := cT rfl hs)
       | (have hs := cF rfl hs)
       | ((with_reducible have hs : chantab_Moves _ = some _ := hs); unfold chantab_Moves at hs)
       | ((with_reducible have hs : loop (chantab_Moves_L1 _ _ _ _) _ = some _ := hs); refine vc_loopR (chantab_Moves_S1 _ _ _ _ _ _ _) chantab_Moves_M1 hs rfl ?_; intro J1 k1 x1 hJ1 hs)
       | ((with_reducible have hs : loop (chantab_Moves_L2 _) _ = some _ := hs); refine vc_loopR (chantab_Moves_S2 _ _) chantab_Moves_M2 hs rfl ?_; intro J2 k2 x2 hJ2 hs)
       | (refine vc_loopR (chantab_Moves_S1 _ _ _ _ _ _ _) chantab_Moves_M1 hs rfl ?_; intro J1 k1 x1 hJ1 hs)
       | (refine vc_loopR (chantab_Moves_S2 _ _) chantab_Moves_M2 hs rfl ?_; intro J2 k2 x2 hJ2 hs)
       | exact (none_ne hs).elim)
end Go.Proofs.YtbkccpddkpclaaaGreatDoorV
namespace Go.Proofs.YtbkccpddkpclaaaGreatDoorV
open Go.Proofs
set_option linter.unusedVariables false
noncomputable def lf_clock_held_int : List AV → Option AV := liftF tyA14 (unpack (.int .i64)) (fun x => clock_held_int x.1 x.2.1 x.2.2.1)
theorem lq_clock_held_int : lf_clock_held_int = liftF tyA14 (unpack (.int .i64)) (fun x => clock_held_int x.1 x.2.1 x.2.2.1) := rfl
attribute [irreducible] lf_clock_held_int
theorem ck_clock_held_int {vs : List AV} {k : AV → Prop} {x : (tyA14 : Ty).den} {v : Int} (h1 : pks tyA14 vs = some x) (h2 : clock_held_int x.1 x.2.1 x.2.2.1 = some v) (h3 : k ((unpack (.int .i64)) v)) : callK (lf_clock_held_int vs) k := by
  rw [lq_clock_held_int]; exact callK_lift h1 h2 h3
def tt_clock_held_int : List (Nat × Ty) := [(3, .int .i64)]
def et_clock_held_int : List (Nat × Nat) := []
theorem tt_clock_held_int_ok : subT tt tt_clock_held_int = true := by kernel_rfl
theorem et_clock_held_int_ok : subE et et_clock_held_int = true := by kernel_rfl
noncomputable def fns_clock_held_int : List (Nat × (List AV → Option AV)) := []
theorem fns_clock_held_int_ok : FnsOk Go.Proofs.Tryz.prog fns_clock_held_int := FnsOk.nil _
def kp_clock_held_int : List (Nat × List Nat) := [(0, [0, 1, 2]), (1, [6]), (4000000, []), (4000001, [])]
def od_clock_held_int : List (Nat × Ord) := []
noncomputable def E_clock_held_int : Env := ⟨0, 0, et_clock_held_int, tt_clock_held_int, fns_clock_held_int, [], od_clock_held_int, kp_clock_held_int, none, []⟩
set_option maxRecDepth 100000 in
set_option maxHeartbeats 40000000 in
theorem c_clock_held_int : PCon Go.Proofs.Tryz.prog 97 lf_clock_held_int := by
  rw [lq_clock_held_int]
  refine lift_conR (E := E_clock_held_int) (c := bodyOf Tryz.f97) (nt := 12) (rs := [.tmp 6]) (ts := [3]) (EnvC.sub (off := 0) (nt := 0) (ords := od_clock_held_int) (keep := kp_clock_held_int) (yl := none) tt_ok et_ok fns_clock_held_int_ok (PrsOk.nil _) (ItsOk.nil _) tt_clock_held_int_ok et_clock_held_int_ok) (PrOk.of mixed_ok) Go.Proofs.Tryz.func97 rfl (by decide) rfl rfl rfl (pureR_one (e := (.int .i64)) rfl) ?_
  intro x r hw hs
  repeat'
    (try (conv => whnf)
     first
       | (with_reducible have hs := letv_out hs)
       | (refine draw_and (by kernel_rfl) ?_)
       | (refine both_mk ?_ ?_)
       | (refine br_bool (fun h => ?_) (fun h => ?_) <;> first | have hs := cT h hs | have hs := cF h hs)
       | refine chk_elim hs fun hs => ?_
       | (have hs := letv_out hs)
       | exact fin_some hs rfl
       | (intro b hb; first | have hs := nilq_elim hs b hb | have hs := nilqn_elim hs b hb)
       | (have hs := cT rfl hs)
       | (have hs := cF rfl hs)
       | exact (none_ne hs).elim)
noncomputable def lf_clock_Fine : List AV → Option AV := liftF tyA3 (unpack .bool) (fun x => clock_Fine x.1)
theorem lq_clock_Fine : lf_clock_Fine = liftF tyA3 (unpack .bool) (fun x => clock_Fine x.1) := rfl
attribute [irreducible] lf_clock_Fine
theorem ck_clock_Fine {vs : List AV} {k : AV → Prop} {x : (tyA3 : Ty).den} {v : Bool} (h1 : pks tyA3 vs = some x) (h2 : clock_Fine x.1 = some v) (h3 : k ((unpack .bool) v)) : callK (lf_clock_Fine vs) k := by
  rw [lq_clock_Fine]; exact callK_lift h1 h2 h3
def tt_clock_Fine : List (Nat × Ty) := [(3, .int .i64), (4, .bool)]
def et_clock_Fine : List (Nat × Nat) := []
theorem tt_clock_Fine_ok : subT tt tt_clock_Fine = true := by kernel_rfl
theorem et_clock_Fine_ok : subE et et_clock_Fine = true := by kernel_rfl
noncomputable def fns_clock_Fine : List (Nat × (List AV → Option AV)) := [(97, lf_clock_held_int)]
theorem fns_clock_Fine_ok : FnsOk Go.Proofs.Tryz.prog fns_clock_Fine := FnsOk.cons c_clock_held_int (FnsOk.nil _)
def kp_clock_Fine : List (Nat × List Nat) := [(0, [0]), (1, [2]), (4000000, []), (4000001, [])]
def od_clock_Fine : List (Nat × Ord) := []
noncomputable def E_clock_Fine : Env := ⟨0, 0, et_clock_Fine, tt_clock_Fine, fns_clock_Fine, [], od_clock_Fine, kp_clock_Fine, none, []⟩
set_option maxRecDepth 100000 in
set_option maxHeartbeats 40000000 in
theorem c_clock_Fine : PCon Go.Proofs.Tryz.prog 69 lf_clock_Fine := by
  rw [lq_clock_Fine]
  refine lift_conR (E := E_clock_Fine) (c := bodyOf Tryz.f69) (nt := 7) (rs := [.tmp 2]) (ts := [4]) (EnvC.sub (off := 0) (nt := 0) (ords := od_clock_Fine) (keep := kp_clock_Fine) (yl := none) tt_ok et_ok fns_clock_Fine_ok (PrsOk.nil _) (ItsOk.nil _) tt_clock_Fine_ok et_clock_Fine_ok) (PrOk.of mixed_ok) Go.Proofs.Tryz.func69 rfl (by decide) rfl rfl rfl (pureR_one (e := .bool) rfl) ?_
  intro x r hw hs
  repeat'
    (try (conv => whnf)
     first
       | (with_reducible have hs := letv_out hs)
       | (refine draw_and (by kernel_rfl) ?_)
       | (refine both_mk ?_ ?_)
       | (refine br_bool (fun h => ?_) (fun h => ?_) <;> first | have hs := cT h hs | have hs := cF h hs)
       | (refine bind_elim hs fun v hb hs => ?_; first | refine ck_clock_held_int rfl hb ?_)
       | refine chk_elim hs fun hs => ?_
       | (have hs := letv_out hs)
       | exact fin_some hs rfl
       | (intro b hb; first | have hs := nilq_elim hs b hb | have hs := nilqn_elim hs b hb)
       | (have hs := cT rfl hs)
       | (have hs := cF rfl hs)
       | exact (none_ne hs).elim)
noncomputable def lf_clock_Due : List AV → Option AV := liftF (.pair (.int .i64) tyA3) (unpack .bool) (fun x => clock_Due x.1 x.2.1)
theorem lq_clock_Due : lf_clock_Due = liftF (.pair (.int .i64) tyA3) (unpack .bool) (fun x => clock_Due x.1 x.2.1) := rfl
attribute [irreducible] lf_clock_Due
theorem ck_clock_Due {vs : List AV} {k : AV → Prop} {x : ((.pair (.int .i64) tyA3) : Ty).den} {v : Bool} (h1 : pks (.pair (.int .i64) tyA3) vs = some x) (h2 : clock_Due x.1 x.2.1 = some v) (h3 : k ((unpack .bool) v)) : callK (lf_clock_Due vs) k := by
  rw [lq_clock_Due]; exact callK_lift h1 h2 h3
def tt_clock_Due : List (Nat × Ty) := [(3, .int .i64), (4, .bool)]
def et_clock_Due : List (Nat × Nat) := []
theorem tt_clock_Due_ok : subT tt tt_clock_Due = true := by kernel_rfl
theorem et_clock_Due_ok : subE et et_clock_Due = true := by kernel_rfl
noncomputable def fns_clock_Due : List (Nat × (List AV → Option AV)) := [(69, lf_clock_Fine)]
theorem fns_clock_Due_ok : FnsOk Go.Proofs.Tryz.prog fns_clock_Due := FnsOk.cons c_clock_Fine (FnsOk.nil _)
def kp_clock_Due : List (Nat × List Nat) := [(0, [0, 1]), (1, [4]), (4000000, []), (4000001, [])]
def od_clock_Due : List (Nat × Ord) := []
noncomputable def E_clock_Due : Env := ⟨0, 0, et_clock_Due, tt_clock_Due, fns_clock_Due, [], od_clock_Due, kp_clock_Due, none, []⟩
set_option maxRecDepth 100000 in
set_option maxHeartbeats 40000000 in
theorem c_clock_Due : PCon Go.Proofs.Tryz.prog 39 lf_clock_Due := by
  rw [lq_clock_Due]
  refine lift_conR (E := E_clock_Due) (c := bodyOf Tryz.f39) (nt := 16) (rs := [.tmp 4]) (ts := [4]) (EnvC.sub (off := 0) (nt := 0) (ords := od_clock_Due) (keep := kp_clock_Due) (yl := none) tt_ok et_ok fns_clock_Due_ok (PrsOk.nil _) (ItsOk.nil _) tt_clock_Due_ok et_clock_Due_ok) (PrOk.of mixed_ok) Go.Proofs.Tryz.func39 rfl (by decide) rfl rfl rfl (pureR_one (e := .bool) rfl) ?_
  intro x r hw hs
  repeat'
    (try (conv => whnf)
     first
       | (with_reducible have hs := letv_out hs)
       | (refine draw_and (by kernel_rfl) ?_)
       | (refine both_mk ?_ ?_)
       | (refine br_bool (fun h => ?_) (fun h => ?_) <;> first | have hs := cT h hs | have hs := cF h hs)
       | (refine bind_elim hs fun v hb hs => ?_; first | refine ck_clock_Fine rfl hb ?_)
       | refine chk_elim hs fun hs => ?_
       | (have hs := letv_out hs)
       | exact fin_some hs rfl
       | (intro b hb; first | have hs := nilq_elim hs b hb | have hs := nilqn_elim hs b hb)
       | (have hs := cT rfl hs)
       | (have hs := cF rfl hs)
       | exact (none_ne hs).elim)
end Go.Proofs.YtbkccpddkpclaaaGreatDoorV
