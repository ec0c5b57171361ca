import Derived.Test.YtbkccpddkpclaaaGreatDoorBVcTab
import Derived.Test.YtbkccpddkpclaaaGreatDoorBDDReady
import Derived.Test.YtbkccpddkpclaaaGreatDoorBCCRg0a
namespace Go.Proofs.YtbkccpddkpclaaaGreatDoorV
open Go.Proofs
set_option linter.unusedVariables false
noncomputable def lf_R19_New : List AV → Option AV := liftF (.pair (.sl tyA7) .unit) (unpR tyA29) (fun x => R19_New x.1)
theorem lq_R19_New : lf_R19_New = liftF (.pair (.sl tyA7) .unit) (unpR tyA29) (fun x => R19_New x.1) := rfl
attribute [irreducible] lf_R19_New
theorem ck_R19_New {vs : List AV} {k : AV → Prop} {x : ((.pair (.sl tyA7) .unit) : Ty).den} {v : (List tzA2) × Int × Int × Unit} (h1 : pks (.pair (.sl tyA7) .unit) vs = some x) (h2 : R19_New x.1 = some v) (h3 : k ((unpR tyA29) v)) : callK (lf_R19_New vs) k := by
  rw [lq_R19_New]; exact callK_lift h1 h2 h3
def tt_R19_New : List (Nat × Ty) := [(3, .int .i64), (22, .sl tyA0), (50, .sl tyA7), (73, .pair (.int .i64) tyA14), (109, .pair tyA7 tyA15)]
def et_R19_New : List (Nat × Nat) := [(22, 109), (50, 73)]
theorem tt_R19_New_ok : subT tt tt_R19_New = true := by kernel_rfl
theorem et_R19_New_ok : subE et et_R19_New = true := by kernel_rfl
noncomputable def fns_R19_New : List (Nat × (List AV → Option AV)) := [(41, lf_R18_New)]
theorem fns_R19_New_ok : FnsOk Go.Proofs.Tryz.prog fns_R19_New := FnsOk.cons c_R18_New (FnsOk.nil _)
def R19_New_S1 (u0 : AV) (u1 : AV) (x1 : Int × (List tzA2)) : St :=
  ⟨[(0, u0), (5, u1), (6, .int .i64 x1.1)], [(33, .row 109 tyA0 x1.2 false)], none⟩
def R19_New_M1 : Msk := ⟨[0, 5, 6], [33], [(5, 33, 22)], [], [], [], [], [], []⟩
def kp_R19_New : List (Nat × List Nat) := [(0, [0]), (1, [0, 11]), (2, [2, 3, 4]), (3, [0, 5]), (4, [0, 5, 6]), (5, [0, 5, 6, 15]), (6, [0, 5, 6]), (7, [0, 5, 6, 7, 8]), (8, [0, 5, 6, 7, 8, 27]), (9, [2, 3, 4]), (10, [0, 5, 6]), (11, [2, 3, 4]), (4000000, []), (4000001, []), (4000002, []), (4000003, []), (4000004, []), (4000005, [33]), (4000006, [33]), (4000007, [7, 33]), (4000008, [7, 33]), (4000009, []), (4000010, [33]), (4000011, [33])]
def od_R19_New : List (Nat × Ord) := []
noncomputable def E_R19_New : Env := ⟨0, 0, et_R19_New, tt_R19_New, fns_R19_New, [], od_R19_New, kp_R19_New, none, []⟩
set_option maxRecDepth 100000 in
set_option maxHeartbeats 40000000 in
theorem c_R19_New : PCon Go.Proofs.Tryz.prog 18 lf_R19_New := by
  rw [lq_R19_New]
  refine lift_conR (E := E_R19_New) (c := bodyOf Tryz.f18) (nt := 35) (rs := [.tmp 2, .tmp 3, .tmp 4]) (ts := [22, 3, 3]) (EnvC.sub (off := 0) (nt := 0) (ords := od_R19_New) (keep := kp_R19_New) (yl := none) tt_ok et_ok fns_R19_New_ok (PrsOk.nil _) (ItsOk.nil _) tt_R19_New_ok et_R19_New_ok) (PrOk.of mixed_ok) Go.Proofs.Tryz.func18 rfl (by decide) rfl rfl rfl (pureR_many (e := tyA29) rfl) ?_
  intro x r hw hs
  repeat'
    (try (conv => whnf)
     first
       | (with_reducible have hs := letv_out hs)
       | (refine draw_and (by kernel_rfl) ?_)
       | (refine both_mk ?_ ?_)
       | (refine br_bool (fun h => ?_) (fun h => ?_) <;> first | have hs := cT h hs | have hs := cF h hs)
       | (refine bind_elim hs fun v hb hs => ?_; first | refine ck_R18_New rfl hb ?_)
       | refine chk_elim hs fun hs => ?_
       | (have hs := letv_out hs)
       | exact fin_some hs rfl
       | (intro b hb; first | have hs := nilq_elim hs b hb | have hs := nilqn_elim hs b hb)
       | exact hJ1 _ hs
       | (have hs := cT rfl hs)
       | (have hs := cF rfl hs)
       | ((with_reducible have hs : loop (R19_New_L1 _) _ = some _ := hs); refine vc_loopR (R19_New_S1 _ _) R19_New_M1 hs rfl ?_; intro J1 k1 x1 hJ1 hs)
       | (refine vc_loopR (R19_New_S1 _ _) R19_New_M1 hs rfl ?_; intro J1 k1 x1 hJ1 hs)
       | exact (none_ne hs).elim)
noncomputable def lf_R19_Is : List AV → Option AV := liftF (.pair (.sl tyA0) tyA3) (unpack .bool) (fun x => R19_Is x.1 x.2.1)
theorem lq_R19_Is : lf_R19_Is = liftF (.pair (.sl tyA0) tyA3) (unpack .bool) (fun x => R19_Is x.1 x.2.1) := rfl
attribute [irreducible] lf_R19_Is
theorem ck_R19_Is {vs : List AV} {k : AV → Prop} {x : ((.pair (.sl tyA0) tyA3) : Ty).den} {v : Bool} (h1 : pks (.pair (.sl tyA0) tyA3) vs = some x) (h2 : R19_Is x.1 x.2.1 = some v) (h3 : k ((unpack .bool) v)) : callK (lf_R19_Is vs) k := by
  rw [lq_R19_Is]; exact callK_lift h1 h2 h3
def tt_R19_Is : List (Nat × Ty) := [(3, .int .i64), (4, .bool), (22, .sl tyA0)]
def et_R19_Is : List (Nat × Nat) := [(22, 109)]
theorem tt_R19_Is_ok : subT tt tt_R19_Is = true := by kernel_rfl
theorem et_R19_Is_ok : subE et et_R19_Is = true := by kernel_rfl
noncomputable def fns_R19_Is : List (Nat × (List AV → Option AV)) := []
theorem fns_R19_Is_ok : FnsOk Go.Proofs.Tryz.prog fns_R19_Is := FnsOk.nil _
def kp_R19_Is : List (Nat × List Nat) := [(0, [0, 1]), (1, [4]), (4000000, []), (4000001, [])]
def od_R19_Is : List (Nat × Ord) := []
noncomputable def E_R19_Is : Env := ⟨0, 0, et_R19_Is, tt_R19_Is, fns_R19_Is, [], od_R19_Is, kp_R19_Is, none, []⟩
set_option maxRecDepth 100000 in
set_option maxHeartbeats 40000000 in
theorem c_R19_Is : PCon Go.Proofs.Tryz.prog 42 lf_R19_Is := by
  rw [lq_R19_Is]
  refine lift_conR (E := E_R19_Is) (c := bodyOf Tryz.f42) (nt := 13) (rs := [.tmp 4]) (ts := [4]) (EnvC.sub (off := 0) (nt := 0) (ords := od_R19_Is) (keep := kp_R19_Is) (yl := none) tt_ok et_ok fns_R19_Is_ok (PrsOk.nil _) (ItsOk.nil _) tt_R19_Is_ok et_R19_Is_ok) (PrOk.of mixed_ok) Go.Proofs.Tryz.func42 rfl (by decide) rfl rfl rfl (pureR_one (e := .bool) rfl) ?_
  intro x r hw hs
  repeat'
    (try (conv => whnf)
     first
       | (with_reducible have hs := letv_out hs)
       | (refine draw_and (by kernel_rfl) ?_)
       | (refine both_mk ?_ ?_)
       | (refine br_bool (fun h => ?_) (fun h => ?_) <;> first | have hs := cT h hs | have hs := cF h hs)
       | refine chk_elim hs fun hs => ?_
       | (have hs := letv_out hs)
       | exact fin_some hs rfl
       | (intro b hb; first | have hs := nilq_elim hs b hb | have hs := nilqn_elim hs b hb)
       | (have hs := cT rfl hs)
       | (have hs := cF rfl hs)
       | exact (none_ne hs).elim)
noncomputable def lf_R19_put : List AV → Option AV := liftF (.pair (.sl tyA0) (.pair (.int .i64) (.pair tyA0 .unit))) (unpack (.sl tyA0)) (fun x => R19_put x.1 x.2.1 x.2.2.1)
theorem lq_R19_put : lf_R19_put = liftF (.pair (.sl tyA0) (.pair (.int .i64) (.pair tyA0 .unit))) (unpack (.sl tyA0)) (fun x => R19_put x.1 x.2.1 x.2.2.1) := rfl
attribute [irreducible] lf_R19_put
theorem ck_R19_put {vs : List AV} {k : AV → Prop} {x : ((.pair (.sl tyA0) (.pair (.int .i64) (.pair tyA0 .unit))) : Ty).den} {v : List tzA2} (h1 : pks (.pair (.sl tyA0) (.pair (.int .i64) (.pair tyA0 .unit))) vs = some x) (h2 : R19_put x.1 x.2.1 x.2.2.1 = some v) (h3 : k ((unpack (.sl tyA0)) v)) : callK (lf_R19_put vs) k := by
  rw [lq_R19_put]; exact callK_lift h1 h2 h3
def tt_R19_put : List (Nat × Ty) := [(22, .sl tyA0), (109, .pair tyA7 tyA15)]
def et_R19_put : List (Nat × Nat) := [(22, 109)]
theorem tt_R19_put_ok : subT tt tt_R19_put = true := by kernel_rfl
theorem et_R19_put_ok : subE et et_R19_put = true := by kernel_rfl
noncomputable def fns_R19_put : List (Nat × (List AV → Option AV)) := []
theorem fns_R19_put_ok : FnsOk Go.Proofs.Tryz.prog fns_R19_put := FnsOk.nil _
def kp_R19_put : List (Nat × List Nat) := [(0, [0, 1, 5]), (1, [1, 5, 7]), (2, [7]), (3, [6]), (4000000, [5]), (4000001, [5, 9]), (4000002, [9]), (4000003, [9])]
def od_R19_put : List (Nat × Ord) := []
noncomputable def E_R19_put : Env := ⟨0, 0, et_R19_put, tt_R19_put, fns_R19_put, [], od_R19_put, kp_R19_put, none, []⟩
set_option maxRecDepth 100000 in
set_option maxHeartbeats 40000000 in
theorem c_R19_put : PCon Go.Proofs.Tryz.prog 45 lf_R19_put := by
  rw [lq_R19_put]
  refine lift_conR (E := E_R19_put) (c := bodyOf Tryz.f45) (nt := 15) (rs := [.tmp 6]) (ts := [22]) (EnvC.sub (off := 0) (nt := 0) (ords := od_R19_put) (keep := kp_R19_put) (yl := none) tt_ok et_ok fns_R19_put_ok (PrsOk.nil _) (ItsOk.nil _) tt_R19_put_ok et_R19_put_ok) (PrOk.of mixed_ok) Go.Proofs.Tryz.func45 rfl (by decide) rfl rfl rfl (pureR_one (e := (.sl tyA0)) rfl) ?_
  intro x r hw hs
  repeat'
    (try (conv => whnf)
     first
       | (with_reducible have hs := letv_out hs)
       | (refine draw_and (by kernel_rfl) ?_)
       | (refine both_mk ?_ ?_)
       | (refine br_bool (fun h => ?_) (fun h => ?_) <;> first | have hs := cT h hs | have hs := cF h hs)
       | refine chk_elim hs fun hs => ?_
       | (have hs := letv_out hs)
       | exact fin_some hs rfl
       | (intro b hb; first | have hs := nilq_elim hs b hb | have hs := nilqn_elim hs b hb)
       | (have hs := cT rfl hs)
       | (have hs := cF rfl hs)
       | exact (none_ne hs).elim)
noncomputable def lf_R19_Offer : List AV → Option AV := liftF (.pair (.sl tyA0) tyA34) (unpR tyA29) (fun x => R19_Offer x.1 x.2.1 x.2.2.1 x.2.2.2.1)
theorem lq_R19_Offer : lf_R19_Offer = liftF (.pair (.sl tyA0) tyA34) (unpR tyA29) (fun x => R19_Offer x.1 x.2.1 x.2.2.1 x.2.2.2.1) := rfl
attribute [irreducible] lf_R19_Offer
theorem ck_R19_Offer {vs : List AV} {k : AV → Prop} {x : ((.pair (.sl tyA0) tyA34) : Ty).den} {v : (List tzA2) × Int × Int × Unit} (h1 : pks (.pair (.sl tyA0) tyA34) vs = some x) (h2 : R19_Offer x.1 x.2.1 x.2.2.1 x.2.2.2.1 = some v) (h3 : k ((unpR tyA29) v)) : callK (lf_R19_Offer vs) k := by
  rw [lq_R19_Offer]; exact callK_lift h1 h2 h3
def tt_R19_Offer : List (Nat × Ty) := [(3, .int .i64), (4, .bool), (22, .sl tyA0), (59, .sl (.pair (.int .i64) tyA7)), (63, .pair (.int .i64) tyA7), (107, .pair .bool tyA11), (109, .pair tyA7 tyA15)]
def et_R19_Offer : List (Nat × Nat) := [(22, 109), (59, 63)]
theorem tt_R19_Offer_ok : subT tt tt_R19_Offer = true := by kernel_rfl
theorem et_R19_Offer_ok : subE et et_R19_Offer = true := by kernel_rfl
noncomputable def fns_R19_Offer : List (Nat × (List AV → Option AV)) := [(42, lf_R19_Is), (43, lf_R18_Recv), (44, lf_R18_Send), (45, lf_R19_put)]
theorem fns_R19_Offer_ok : FnsOk Go.Proofs.Tryz.prog fns_R19_Offer := FnsOk.cons c_R19_Is (FnsOk.cons c_R18_Recv (FnsOk.cons c_R18_Send (FnsOk.cons c_R19_put (FnsOk.nil _))))
def R19_Offer_S1 (u0 : AV) (u1 : AV) (u2 : AV) (u3 : AV) (x1 : (List tzA2) × Int) : St :=
  ⟨[(0, u0), (1, u1), (2, u2), (3, u3), (11, .ro tyA0 x1.1), (12, .int .i64 x1.2)], [], none⟩
def R19_Offer_M1 : Msk := ⟨[0, 1, 2, 3, 11, 12], [], [], [], [], [], [], [], []⟩
def kp_R19_Offer : List (Nat × List Nat) := [(0, [0, 1, 2, 3]), (1, [0, 1, 2, 3, 11]), (2, [0, 1, 2, 3, 11, 12]), (3, [0, 1, 2, 3, 11, 12, 20]), (4, [0, 1, 2, 3, 11, 12]), (5, [0, 1, 2, 3, 11, 12, 13]), (6, [0, 1, 2, 3, 11, 12, 13, 34]), (7, [0, 1, 2, 3, 11, 12, 13, 39]), (8, [8, 9, 10]), (9, [0, 1, 2, 3, 11, 12, 13, 70]), (10, [8, 9, 10]), (11, [0, 1, 2, 3, 11, 12, 13, 14, 15]), (12, [0, 1, 2, 3, 11, 12, 13, 14, 15, 85]), (13, [0, 1, 2, 3, 11, 12, 13, 14, 15]), (14, [0, 1, 2, 3, 11, 12, 13, 14, 15, 99]), (15, [8, 9, 10]), (16, [0, 1, 2, 3, 11, 12]), (17, [8, 9, 10]), (2000013, [14]), (3000013, []), (4000000, []), (4000001, []), (4000002, []), (4000003, []), (4000004, []), (4000005, [13]), (4000006, [13]), (4000007, [13]), (4000008, []), (4000009, [13]), (4000010, []), (4000011, [13, 14]), (4000012, [13, 14]), (4000013, [13, 14]), (4000014, [13, 14]), (4000015, []), (4000016, []), (4000017, [])]
def od_R19_Offer : List (Nat × Ord) := [(13, (.one 0 (.one 1 (.one 2 (.one 3 (.one 4 (.one 5 (.one 6 (.one 7 (.one 8 (.one 9 (.one 10 (.one 11 (.alt (.cons 12 (.one 13 .nil) .nil)))))))))))))))]
noncomputable def E_R19_Offer : Env := ⟨0, 0, et_R19_Offer, tt_R19_Offer, fns_R19_Offer, [], od_R19_Offer, kp_R19_Offer, none, []⟩
set_option maxRecDepth 100000 in
set_option maxHeartbeats 40000000 in
theorem c_R19_Offer : PCon Go.Proofs.Tryz.prog 19 lf_R19_Offer := by
  rw [lq_R19_Offer]
  refine lift_conR (E := E_R19_Offer) (c := bodyOf Tryz.f19) (nt := 109) (rs := [.tmp 8, .tmp 9, .tmp 10]) (ts := [22, 3, 3]) (EnvC.sub (off := 0) (nt := 0) (ords := od_R19_Offer) (keep := kp_R19_Offer) (yl := none) tt_ok et_ok fns_R19_Offer_ok (PrsOk.nil _) (ItsOk.nil _) tt_R19_Offer_ok et_R19_Offer_ok) (PrOk.of mixed_ok) Go.Proofs.Tryz.func19 rfl (by decide) rfl rfl rfl (pureR_many (e := tyA29) rfl) ?_
  intro x r hw hs
  repeat'
    (try (conv => whnf)
     first
       | (with_reducible have hs := letv_out hs)
       | (refine draw_and (by kernel_rfl) ?_)
       | (refine both_mk ?_ ?_)
       | (refine br_bool (fun h => ?_) (fun h => ?_) <;> first | have hs := cT h hs | have hs := cF h hs)
       | (refine bind_elim hs fun v hb hs => ?_; first | refine ck_R19_Is rfl hb ?_ | refine ck_R18_Recv rfl hb ?_ | refine ck_R18_Send rfl hb ?_ | refine ck_R19_put rfl hb ?_)
       | refine chk_elim hs fun hs => ?_
       | (have hs := letv_out hs)
       | exact fin_some hs rfl
       | (intro b hb; first | have hs := nilq_elim hs b hb | have hs := nilqn_elim hs b hb)
       | exact hJ1 _ hs
       | (have hs := cT rfl hs)
       | (have hs := cF rfl hs)
       | ((with_reducible have hs : loop (R19_Offer_L1 _ _ _ _) _ = some _ := hs); refine vc_loopR (R19_Offer_S1 _ _ _ _) R19_Offer_M1 hs rfl ?_; intro J1 k1 x1 hJ1 hs)
       | (refine vc_loopR (R19_Offer_S1 _ _ _ _) R19_Offer_M1 hs rfl ?_; intro J1 k1 x1 hJ1 hs)
       | exact (none_ne hs).elim)
noncomputable def lf_R19_Poison : List AV → Option AV := liftF tyA29 (unpR (.pair (.sl tyA0) tyA3)) (fun x => R19_Poison x.1 x.2.1 x.2.2.1)
theorem lq_R19_Poison : lf_R19_Poison = liftF tyA29 (unpR (.pair (.sl tyA0) tyA3)) (fun x => R19_Poison x.1 x.2.1 x.2.2.1) := rfl
attribute [irreducible] lf_R19_Poison
theorem ck_R19_Poison {vs : List AV} {k : AV → Prop} {x : (tyA29 : Ty).den} {v : (List tzA2) × Int × Unit} (h1 : pks tyA29 vs = some x) (h2 : R19_Poison x.1 x.2.1 x.2.2.1 = some v) (h3 : k ((unpR (.pair (.sl tyA0) tyA3)) v)) : callK (lf_R19_Poison vs) k := by
  rw [lq_R19_Poison]; exact callK_lift h1 h2 h3
def tt_R19_Poison : List (Nat × Ty) := [(3, .int .i64), (4, .bool), (22, .sl tyA0), (109, .pair tyA7 tyA15)]
def et_R19_Poison : List (Nat × Nat) := [(22, 109)]
theorem tt_R19_Poison_ok : subT tt tt_R19_Poison = true := by kernel_rfl
theorem et_R19_Poison_ok : subE et et_R19_Poison = true := by kernel_rfl
noncomputable def fns_R19_Poison : List (Nat × (List AV → Option AV)) := [(42, lf_R19_Is), (45, lf_R19_put), (65, lf_R18_Poison)]
theorem fns_R19_Poison_ok : FnsOk Go.Proofs.Tryz.prog fns_R19_Poison := FnsOk.cons c_R19_Is (FnsOk.cons c_R19_put (FnsOk.cons c_R18_Poison (FnsOk.nil _)))
def kp_R19_Poison : List (Nat × List Nat) := [(0, [0, 1, 2]), (1, [0, 1, 2, 13]), (2, [6, 7]), (3, [0, 1, 8, 9]), (4, [0, 1, 8, 9, 25]), (5, [6, 7]), (6, [6, 7]), (4000000, []), (4000001, []), (4000002, []), (4000003, [8]), (4000004, [8]), (4000005, []), (4000006, [])]
def od_R19_Poison : List (Nat × Ord) := []
noncomputable def E_R19_Poison : Env := ⟨0, 0, et_R19_Poison, tt_R19_Poison, fns_R19_Poison, [], od_R19_Poison, kp_R19_Poison, none, []⟩
set_option maxRecDepth 100000 in
set_option maxHeartbeats 40000000 in
theorem c_R19_Poison : PCon Go.Proofs.Tryz.prog 32 lf_R19_Poison := by
  rw [lq_R19_Poison]
  refine lift_conR (E := E_R19_Poison) (c := bodyOf Tryz.f32) (nt := 32) (rs := [.tmp 6, .tmp 7]) (ts := [22, 3]) (EnvC.sub (off := 0) (nt := 0) (ords := od_R19_Poison) (keep := kp_R19_Poison) (yl := none) tt_ok et_ok fns_R19_Poison_ok (PrsOk.nil _) (ItsOk.nil _) tt_R19_Poison_ok et_R19_Poison_ok) (PrOk.of mixed_ok) Go.Proofs.Tryz.func32 rfl (by decide) rfl rfl rfl (pureR_many (e := (.pair (.sl tyA0) tyA3)) rfl) ?_
  intro x r hw hs
  repeat'
    (try (conv => whnf)
     first
       | (with_reducible have hs := letv_out hs)
       | (refine draw_and (by kernel_rfl) ?_)
       | (refine both_mk ?_ ?_)
       | (refine br_bool (fun h => ?_) (fun h => ?_) <;> first | have hs := cT h hs | have hs := cF h hs)
       | (refine bind_elim hs fun v hb hs => ?_; first | refine ck_R19_Is rfl hb ?_ | refine ck_R19_put rfl hb ?_ | refine ck_R18_Poison rfl hb ?_)
       | refine chk_elim hs fun hs => ?_
       | (have hs := letv_out hs)
       | exact fin_some hs rfl
       | (intro b hb; first | have hs := nilq_elim hs b hb | have hs := nilqn_elim hs b hb)
       | (have hs := cT rfl hs)
       | (have hs := cF rfl hs)
       | exact (none_ne hs).elim)
end Go.Proofs.YtbkccpddkpclaaaGreatDoorV
