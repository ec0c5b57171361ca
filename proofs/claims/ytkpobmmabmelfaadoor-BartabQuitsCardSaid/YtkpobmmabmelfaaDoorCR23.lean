import Derived.Test.YtkpobmmabmelfaaDoorVcTab
import Derived.Test.YtkpobmmabmelfaaDoorDR23
import Derived.Test.YtkpobmmabmelfaaDoorCR22
namespace Go.Proofs.YtkpobmmabmelfaaDoorV
open Go.Proofs
set_option linter.unusedVariables false
noncomputable def lf_R23_is : List AV → Option AV := liftF (.pair (.sl (.pair (.pair .bool (.pair (.int .i64) .unit)) (.pair (.pair (.sl (.int .i64)) (.pair (.sl (.int .i64)) .unit)) (.pair (.int .i64) .unit)))) (.pair (.int .i64) .unit)) (unpack .bool) (fun x => R23_is x.1 x.2.1)
theorem lq_R23_is : lf_R23_is = liftF (.pair (.sl (.pair (.pair .bool (.pair (.int .i64) .unit)) (.pair (.pair (.sl (.int .i64)) (.pair (.sl (.int .i64)) .unit)) (.pair (.int .i64) .unit)))) (.pair (.int .i64) .unit)) (unpack .bool) (fun x => R23_is x.1 x.2.1) := rfl
attribute [irreducible] lf_R23_is
theorem ck_R23_is {vs : List AV} {k : AV → Prop} {x : ((.pair (.sl (.pair (.pair .bool (.pair (.int .i64) .unit)) (.pair (.pair (.sl (.int .i64)) (.pair (.sl (.int .i64)) .unit)) (.pair (.int .i64) .unit)))) (.pair (.int .i64) .unit)) : Ty).den} {v : Bool} (h1 : pks (.pair (.sl (.pair (.pair .bool (.pair (.int .i64) .unit)) (.pair (.pair (.sl (.int .i64)) (.pair (.sl (.int .i64)) .unit)) (.pair (.int .i64) .unit)))) (.pair (.int .i64) .unit)) vs = some x) (h2 : R23_is x.1 x.2.1 = some v) (h3 : k ((unpack .bool) v)) : callK (lf_R23_is vs) k := by
  rw [lq_R23_is]; exact callK_lift h1 h2 h3
def tt_R23_is : List (Nat × Ty) := [(3, .int .i64), (4, .bool), (68, .sl (.pair (.pair .bool (.pair (.int .i64) .unit)) (.pair (.pair (.sl (.int .i64)) (.pair (.sl (.int .i64)) .unit)) (.pair (.int .i64) .unit))))]
def et_R23_is : List (Nat × Nat) := [(68, 28)]
theorem tt_R23_is_ok : subT tt tt_R23_is = true := by kernel_rfl
theorem et_R23_is_ok : subE et et_R23_is = true := by kernel_rfl
noncomputable def fns_R23_is : List (Nat × (List AV → Option AV)) := []
theorem fns_R23_is_ok : FnsOk Go.Proofs.Tryd.prog fns_R23_is := FnsOk.nil _
def kp_R23_is : List (Nat × List Nat) := [(0, [0, 1]), (1, [4]), (4000000, []), (4000001, [])]
def od_R23_is : List (Nat × Ord) := []
noncomputable def E_R23_is : Env := ⟨0, 0, et_R23_is, tt_R23_is, fns_R23_is, [], od_R23_is, kp_R23_is, none, []⟩
set_option maxRecDepth 100000 in
set_option maxHeartbeats 40000000 in
theorem c_R23_is : PCon Go.Proofs.Tryd.prog 87 lf_R23_is := by
  rw [lq_R23_is]
  refine lift_conR (E := E_R23_is) (c := bodyOf Tryd.f87) (nt := 13) (rs := [.tmp 4]) (ts := [4]) (EnvC.sub (off := 0) (nt := 0) (ords := od_R23_is) (keep := kp_R23_is) (yl := none) tt_ok et_ok fns_R23_is_ok (PrsOk.nil _) (ItsOk.nil _) tt_R23_is_ok et_R23_is_ok) (PrOk.of mixed_ok) Go.Proofs.Tryd.func87 rfl (by decide) rfl rfl rfl (pureR_one (e := .bool) rfl) ?_
  intro x r hw hs
  repeat'
    (try (conv => whnf)
     first
       | (with_reducible have hs := letv_out hs)
       | (refine draw_and (by kernel_rfl) ?_)
       | (refine both_mk ?_ ?_)
       | (refine br_bool (fun h => ?_) (fun h => ?_) <;> first | have hs := cT h hs | have hs := cF h hs)
       | refine chk_elim hs fun hs => ?_
       | (have hs := letv_out hs)
       | exact fin_some hs rfl
       | (intro b hb; first | have hs := nilq_elim hs b hb | have hs := nilqn_elim hs b hb)
       | (have hs := cT rfl hs)
       | (have hs := cF rfl hs)
       | exact (none_ne hs).elim)
theorem cq_R23_is : PCon Go.Proofs.Tryd.prog 87 (liftF (.pair (.sl (.pair (.pair .bool (.pair (.int .i64) .unit)) (.pair (.pair (.sl (.int .i64)) (.pair (.sl (.int .i64)) .unit)) (.pair (.int .i64) .unit)))) (.pair (.int .i64) .unit)) (unpack .bool) (fun x => R23_is x.1 x.2.1)) := lq_R23_is ▸ c_R23_is
noncomputable def lf_R23_put : List AV → Option AV := liftF (.pair (.sl (.pair (.pair .bool (.pair (.int .i64) .unit)) (.pair (.pair (.sl (.int .i64)) (.pair (.sl (.int .i64)) .unit)) (.pair (.int .i64) .unit)))) (.pair (.int .i64) (.pair (.pair (.pair .bool (.pair (.int .i64) .unit)) (.pair (.pair (.sl (.int .i64)) (.pair (.sl (.int .i64)) .unit)) (.pair (.int .i64) .unit))) (.pair (.int .i64) .unit)))) (unpR (.pair (.sl (.pair (.pair .bool (.pair (.int .i64) .unit)) (.pair (.pair (.sl (.int .i64)) (.pair (.sl (.int .i64)) .unit)) (.pair (.int .i64) .unit)))) (.pair (.int .i64) .unit))) (fun x => R23_put x.1 x.2.1 x.2.2.1 x.2.2.2.1)
theorem lq_R23_put : lf_R23_put = liftF (.pair (.sl (.pair (.pair .bool (.pair (.int .i64) .unit)) (.pair (.pair (.sl (.int .i64)) (.pair (.sl (.int .i64)) .unit)) (.pair (.int .i64) .unit)))) (.pair (.int .i64) (.pair (.pair (.pair .bool (.pair (.int .i64) .unit)) (.pair (.pair (.sl (.int .i64)) (.pair (.sl (.int .i64)) .unit)) (.pair (.int .i64) .unit))) (.pair (.int .i64) .unit)))) (unpR (.pair (.sl (.pair (.pair .bool (.pair (.int .i64) .unit)) (.pair (.pair (.sl (.int .i64)) (.pair (.sl (.int .i64)) .unit)) (.pair (.int .i64) .unit)))) (.pair (.int .i64) .unit))) (fun x => R23_put x.1 x.2.1 x.2.2.1 x.2.2.2.1) := rfl
attribute [irreducible] lf_R23_put
theorem ck_R23_put {vs : List AV} {k : AV → Prop} {x : ((.pair (.sl (.pair (.pair .bool (.pair (.int .i64) .unit)) (.pair (.pair (.sl (.int .i64)) (.pair (.sl (.int .i64)) .unit)) (.pair (.int .i64) .unit)))) (.pair (.int .i64) (.pair (.pair (.pair .bool (.pair (.int .i64) .unit)) (.pair (.pair (.sl (.int .i64)) (.pair (.sl (.int .i64)) .unit)) (.pair (.int .i64) .unit))) (.pair (.int .i64) .unit)))) : Ty).den} {v : (List ((Bool × Int × Unit) × ((List Int) × (List Int) × Unit) × Int × Unit)) × Int × Unit} (h1 : pks (.pair (.sl (.pair (.pair .bool (.pair (.int .i64) .unit)) (.pair (.pair (.sl (.int .i64)) (.pair (.sl (.int .i64)) .unit)) (.pair (.int .i64) .unit)))) (.pair (.int .i64) (.pair (.pair (.pair .bool (.pair (.int .i64) .unit)) (.pair (.pair (.sl (.int .i64)) (.pair (.sl (.int .i64)) .unit)) (.pair (.int .i64) .unit))) (.pair (.int .i64) .unit)))) vs = some x) (h2 : R23_put x.1 x.2.1 x.2.2.1 x.2.2.2.1 = some v) (h3 : k ((unpR (.pair (.sl (.pair (.pair .bool (.pair (.int .i64) .unit)) (.pair (.pair (.sl (.int .i64)) (.pair (.sl (.int .i64)) .unit)) (.pair (.int .i64) .unit)))) (.pair (.int .i64) .unit))) v)) : callK (lf_R23_put vs) k := by
  rw [lq_R23_put]; exact callK_lift h1 h2 h3
def tt_R23_put : List (Nat × Ty) := [(3, .int .i64), (28, .pair (.pair .bool (.pair (.int .i64) .unit)) (.pair (.pair (.sl (.int .i64)) (.pair (.sl (.int .i64)) .unit)) (.pair (.int .i64) .unit))), (68, .sl (.pair (.pair .bool (.pair (.int .i64) .unit)) (.pair (.pair (.sl (.int .i64)) (.pair (.sl (.int .i64)) .unit)) (.pair (.int .i64) .unit))))]
def et_R23_put : List (Nat × Nat) := [(68, 28)]
theorem tt_R23_put_ok : subT tt tt_R23_put = true := by kernel_rfl
theorem et_R23_put_ok : subE et et_R23_put = true := by kernel_rfl
noncomputable def fns_R23_put : List (Nat × (List AV → Option AV)) := []
theorem fns_R23_put_ok : FnsOk Go.Proofs.Tryd.prog fns_R23_put := FnsOk.nil _
def kp_R23_put : List (Nat × List Nat) := [(0, [0, 1, 3, 6]), (1, [0, 1, 3, 6, 12]), (2, [8, 9]), (3, [1, 6, 10]), (4, [10]), (5, [8, 9]), (4000000, [6]), (4000001, [6]), (4000002, []), (4000003, [6, 16]), (4000004, [16]), (4000005, [16])]
def od_R23_put : List (Nat × Ord) := []
noncomputable def E_R23_put : Env := ⟨0, 0, et_R23_put, tt_R23_put, fns_R23_put, [], od_R23_put, kp_R23_put, none, []⟩
set_option maxRecDepth 100000 in
set_option maxHeartbeats 40000000 in
theorem c_R23_put : PCon Go.Proofs.Tryd.prog 88 lf_R23_put := by
  rw [lq_R23_put]
  refine lift_conR (E := E_R23_put) (c := bodyOf Tryd.f88) (nt := 22) (rs := [.tmp 8, .tmp 9]) (ts := [68, 3]) (EnvC.sub (off := 0) (nt := 0) (ords := od_R23_put) (keep := kp_R23_put) (yl := none) tt_ok et_ok fns_R23_put_ok (PrsOk.nil _) (ItsOk.nil _) tt_R23_put_ok et_R23_put_ok) (PrOk.of mixed_ok) Go.Proofs.Tryd.func88 rfl (by decide) rfl rfl rfl (pureR_many (e := (.pair (.sl (.pair (.pair .bool (.pair (.int .i64) .unit)) (.pair (.pair (.sl (.int .i64)) (.pair (.sl (.int .i64)) .unit)) (.pair (.int .i64) .unit)))) (.pair (.int .i64) .unit))) rfl) ?_
  intro x r hw hs
  repeat'
    (try (conv => whnf)
     first
       | (with_reducible have hs := letv_out hs)
       | (refine draw_and (by kernel_rfl) ?_)
       | (refine both_mk ?_ ?_)
       | (refine br_bool (fun h => ?_) (fun h => ?_) <;> first | have hs := cT h hs | have hs := cF h hs)
       | refine chk_elim hs fun hs => ?_
       | (have hs := letv_out hs)
       | exact fin_some hs rfl
       | (intro b hb; first | have hs := nilq_elim hs b hb | have hs := nilqn_elim hs b hb)
       | (have hs := cT rfl hs)
       | (have hs := cF rfl hs)
       | exact (none_ne hs).elim)
theorem cq_R23_put : PCon Go.Proofs.Tryd.prog 88 (liftF (.pair (.sl (.pair (.pair .bool (.pair (.int .i64) .unit)) (.pair (.pair (.sl (.int .i64)) (.pair (.sl (.int .i64)) .unit)) (.pair (.int .i64) .unit)))) (.pair (.int .i64) (.pair (.pair (.pair .bool (.pair (.int .i64) .unit)) (.pair (.pair (.sl (.int .i64)) (.pair (.sl (.int .i64)) .unit)) (.pair (.int .i64) .unit))) (.pair (.int .i64) .unit)))) (unpR (.pair (.sl (.pair (.pair .bool (.pair (.int .i64) .unit)) (.pair (.pair (.sl (.int .i64)) (.pair (.sl (.int .i64)) .unit)) (.pair (.int .i64) .unit)))) (.pair (.int .i64) .unit))) (fun x => R23_put x.1 x.2.1 x.2.2.1 x.2.2.2.1)) := lq_R23_put ▸ c_R23_put
noncomputable def lf_R23_Offer : List AV → Option AV := liftF (.pair (.sl (.pair (.pair .bool (.pair (.int .i64) .unit)) (.pair (.pair (.sl (.int .i64)) (.pair (.sl (.int .i64)) .unit)) (.pair (.int .i64) .unit)))) (.pair (.int .i64) (.pair (.sl (.pair (.int .i64) (.pair (.int .i64) (.pair (.int .i64) (.pair (.int .i64) (.pair (.int .i64) .unit)))))) (.pair .bool .unit)))) (unpR (.pair (.sl (.pair (.pair .bool (.pair (.int .i64) .unit)) (.pair (.pair (.sl (.int .i64)) (.pair (.sl (.int .i64)) .unit)) (.pair (.int .i64) .unit)))) (.pair (.int .i64) (.pair (.int .i64) .unit)))) (fun x => R23_Offer x.1 x.2.1 x.2.2.1 x.2.2.2.1)
theorem lq_R23_Offer : lf_R23_Offer = liftF (.pair (.sl (.pair (.pair .bool (.pair (.int .i64) .unit)) (.pair (.pair (.sl (.int .i64)) (.pair (.sl (.int .i64)) .unit)) (.pair (.int .i64) .unit)))) (.pair (.int .i64) (.pair (.sl (.pair (.int .i64) (.pair (.int .i64) (.pair (.int .i64) (.pair (.int .i64) (.pair (.int .i64) .unit)))))) (.pair .bool .unit)))) (unpR (.pair (.sl (.pair (.pair .bool (.pair (.int .i64) .unit)) (.pair (.pair (.sl (.int .i64)) (.pair (.sl (.int .i64)) .unit)) (.pair (.int .i64) .unit)))) (.pair (.int .i64) (.pair (.int .i64) .unit)))) (fun x => R23_Offer x.1 x.2.1 x.2.2.1 x.2.2.2.1) := rfl
attribute [irreducible] lf_R23_Offer
theorem ck_R23_Offer {vs : List AV} {k : AV → Prop} {x : ((.pair (.sl (.pair (.pair .bool (.pair (.int .i64) .unit)) (.pair (.pair (.sl (.int .i64)) (.pair (.sl (.int .i64)) .unit)) (.pair (.int .i64) .unit)))) (.pair (.int .i64) (.pair (.sl (.pair (.int .i64) (.pair (.int .i64) (.pair (.int .i64) (.pair (.int .i64) (.pair (.int .i64) .unit)))))) (.pair .bool .unit)))) : Ty).den} {v : (List ((Bool × Int × Unit) × ((List Int) × (List Int) × Unit) × Int × Unit)) × Int × Int × Unit} (h1 : pks (.pair (.sl (.pair (.pair .bool (.pair (.int .i64) .unit)) (.pair (.pair (.sl (.int .i64)) (.pair (.sl (.int .i64)) .unit)) (.pair (.int .i64) .unit)))) (.pair (.int .i64) (.pair (.sl (.pair (.int .i64) (.pair (.int .i64) (.pair (.int .i64) (.pair (.int .i64) (.pair (.int .i64) .unit)))))) (.pair .bool .unit)))) vs = some x) (h2 : R23_Offer x.1 x.2.1 x.2.2.1 x.2.2.2.1 = some v) (h3 : k ((unpR (.pair (.sl (.pair (.pair .bool (.pair (.int .i64) .unit)) (.pair (.pair (.sl (.int .i64)) (.pair (.sl (.int .i64)) .unit)) (.pair (.int .i64) .unit)))) (.pair (.int .i64) (.pair (.int .i64) .unit)))) v)) : callK (lf_R23_Offer vs) k := by
  rw [lq_R23_Offer]; exact callK_lift h1 h2 h3
def tt_R23_Offer : List (Nat × Ty) := [(3, .int .i64), (4, .bool), (28, .pair (.pair .bool (.pair (.int .i64) .unit)) (.pair (.pair (.sl (.int .i64)) (.pair (.sl (.int .i64)) .unit)) (.pair (.int .i64) .unit))), (68, .sl (.pair (.pair .bool (.pair (.int .i64) .unit)) (.pair (.pair (.sl (.int .i64)) (.pair (.sl (.int .i64)) .unit)) (.pair (.int .i64) .unit)))), (69, .sl (.pair (.int .i64) (.pair (.int .i64) (.pair (.int .i64) (.pair (.int .i64) (.pair (.int .i64) .unit)))))), (127, .pair (.int .i64) (.pair (.int .i64) (.pair (.int .i64) (.pair (.int .i64) (.pair (.int .i64) .unit)))))]
def et_R23_Offer : List (Nat × Nat) := [(68, 28), (69, 127)]
theorem tt_R23_Offer_ok : subT tt tt_R23_Offer = true := by kernel_rfl
theorem et_R23_Offer_ok : subE et et_R23_Offer = true := by kernel_rfl
noncomputable def fns_R23_Offer : List (Nat × (List AV → Option AV)) := [(28, lf_R22_Offer), (87, lf_R23_is), (88, lf_R23_put)]
theorem fns_R23_Offer_ok : FnsOk Go.Proofs.Tryd.prog fns_R23_Offer := FnsOk.cons c_R22_Offer (FnsOk.cons c_R23_is (FnsOk.cons c_R23_put (FnsOk.nil _)))
def R23_Offer_S1 (u0 : AV) (u1 : AV) (u2 : AV) (u3 : AV) (x1 : (List ((Bool × Int × Unit) × ((List Int) × (List Int) × Unit) × Int × Unit)) × Int) : St :=
  ⟨[(0, u0), (1, u1), (2, u2), (3, u3), (11, .ro (.pair (.pair .bool (.pair (.int .i64) .unit)) (.pair (.pair (.sl (.int .i64)) (.pair (.sl (.int .i64)) .unit)) (.pair (.int .i64) .unit))) x1.1), (12, .int .i64 x1.2)], [], none⟩
def R23_Offer_M1 : Msk := ⟨[0, 1, 2, 3, 11, 12], [], [], [], [], [], [], [], []⟩
def kp_R23_Offer : List (Nat × List Nat) := [(0, [0, 1, 2, 3]), (1, [0, 1, 2, 3, 11]), (2, [0, 1, 2, 3, 11, 12]), (3, [0, 1, 2, 3, 11, 12, 19]), (4, [0, 1, 2, 3, 11, 12]), (5, [0, 1, 2, 3, 11, 12, 27]), (6, [0, 1, 2, 3, 11, 12, 35]), (7, [8, 9, 10]), (8, [0, 1, 2, 3, 11, 12, 13, 14]), (9, [0, 1, 2, 3, 11, 12, 13, 14, 53]), (10, [8, 9, 10]), (11, [0, 1, 2, 3, 11, 12]), (12, [8, 9, 10]), (4000000, []), (4000001, []), (4000002, []), (4000003, []), (4000004, []), (4000005, []), (4000006, []), (4000007, []), (4000008, [13]), (4000009, [13]), (4000010, []), (4000011, []), (4000012, [])]
def od_R23_Offer : List (Nat × Ord) := [(11, (.one 0 (.one 1 (.one 2 (.one 3 (.one 4 (.one 5 (.one 6 (.one 100007 (.one 8 (.one 9 (.one 10 (.one 11 .nil)))))))))))))]
noncomputable def E_R23_Offer : Env := ⟨0, 0, et_R23_Offer, tt_R23_Offer, fns_R23_Offer, [], od_R23_Offer, kp_R23_Offer, none, []⟩
set_option maxRecDepth 100000 in
set_option maxHeartbeats 40000000 in
theorem c_R23_Offer : PCon Go.Proofs.Tryd.prog 42 lf_R23_Offer := by
  rw [lq_R23_Offer]
  refine lift_conR (E := E_R23_Offer) (c := bodyOf Tryd.f42) (nt := 69) (rs := [.tmp 8, .tmp 9, .tmp 10]) (ts := [68, 3, 3]) (EnvC.sub (off := 0) (nt := 0) (ords := od_R23_Offer) (keep := kp_R23_Offer) (yl := none) tt_ok et_ok fns_R23_Offer_ok (PrsOk.nil _) (ItsOk.nil _) tt_R23_Offer_ok et_R23_Offer_ok) (PrOk.of mixed_ok) Go.Proofs.Tryd.func42 rfl (by decide) rfl rfl rfl (pureR_many (e := (.pair (.sl (.pair (.pair .bool (.pair (.int .i64) .unit)) (.pair (.pair (.sl (.int .i64)) (.pair (.sl (.int .i64)) .unit)) (.pair (.int .i64) .unit)))) (.pair (.int .i64) (.pair (.int .i64) .unit)))) rfl) ?_
  intro x r hw hs
  repeat'
    (try (conv => whnf)
     first
       | (with_reducible have hs := letv_out hs)
       | (refine draw_and (by kernel_rfl) ?_)
       | (refine both_mk ?_ ?_)
       | (refine br_bool (fun h => ?_) (fun h => ?_) <;> first | have hs := cT h hs | have hs := cF h hs)
       | (refine bind_elim hs fun v hb hs => ?_; first | refine ck_R22_Offer rfl hb ?_ | refine ck_R23_is rfl hb ?_ | refine ck_R23_put rfl hb ?_)
       | refine chk_elim hs fun hs => ?_
       | (have hs := letv_out hs)
       | exact fin_some hs rfl
       | (intro b hb; first | have hs := nilq_elim hs b hb | have hs := nilqn_elim hs b hb)
       | exact hJ1 _ hs
       | (have hs := cT rfl hs)
       | (have hs := cF rfl hs)
       | (refine vc_loopR (R23_Offer_S1 _ _ _ _) R23_Offer_M1 hs rfl ?_; intro J1 k1 x1 hJ1 hs)
       | exact (none_ne hs).elim)
theorem cq_R23_Offer : PCon Go.Proofs.Tryd.prog 42 (liftF (.pair (.sl (.pair (.pair .bool (.pair (.int .i64) .unit)) (.pair (.pair (.sl (.int .i64)) (.pair (.sl (.int .i64)) .unit)) (.pair (.int .i64) .unit)))) (.pair (.int .i64) (.pair (.sl (.pair (.int .i64) (.pair (.int .i64) (.pair (.int .i64) (.pair (.int .i64) (.pair (.int .i64) .unit)))))) (.pair .bool .unit)))) (unpR (.pair (.sl (.pair (.pair .bool (.pair (.int .i64) .unit)) (.pair (.pair (.sl (.int .i64)) (.pair (.sl (.int .i64)) .unit)) (.pair (.int .i64) .unit)))) (.pair (.int .i64) (.pair (.int .i64) .unit)))) (fun x => R23_Offer x.1 x.2.1 x.2.2.1 x.2.2.2.1)) := lq_R23_Offer ▸ c_R23_Offer
noncomputable def lf_R23_Leave : List AV → Option AV := liftF (.pair (.sl (.pair (.pair .bool (.pair (.int .i64) .unit)) (.pair (.pair (.sl (.int .i64)) (.pair (.sl (.int .i64)) .unit)) (.pair (.int .i64) .unit)))) (.pair (.int .i64) .unit)) (unpack (.sl (.pair (.pair .bool (.pair (.int .i64) .unit)) (.pair (.pair (.sl (.int .i64)) (.pair (.sl (.int .i64)) .unit)) (.pair (.int .i64) .unit))))) (fun x => R23_Leave x.1 x.2.1)
theorem lq_R23_Leave : lf_R23_Leave = liftF (.pair (.sl (.pair (.pair .bool (.pair (.int .i64) .unit)) (.pair (.pair (.sl (.int .i64)) (.pair (.sl (.int .i64)) .unit)) (.pair (.int .i64) .unit)))) (.pair (.int .i64) .unit)) (unpack (.sl (.pair (.pair .bool (.pair (.int .i64) .unit)) (.pair (.pair (.sl (.int .i64)) (.pair (.sl (.int .i64)) .unit)) (.pair (.int .i64) .unit))))) (fun x => R23_Leave x.1 x.2.1) := rfl
attribute [irreducible] lf_R23_Leave
theorem ck_R23_Leave {vs : List AV} {k : AV → Prop} {x : ((.pair (.sl (.pair (.pair .bool (.pair (.int .i64) .unit)) (.pair (.pair (.sl (.int .i64)) (.pair (.sl (.int .i64)) .unit)) (.pair (.int .i64) .unit)))) (.pair (.int .i64) .unit)) : Ty).den} {v : List ((Bool × Int × Unit) × ((List Int) × (List Int) × Unit) × Int × Unit)} (h1 : pks (.pair (.sl (.pair (.pair .bool (.pair (.int .i64) .unit)) (.pair (.pair (.sl (.int .i64)) (.pair (.sl (.int .i64)) .unit)) (.pair (.int .i64) .unit)))) (.pair (.int .i64) .unit)) vs = some x) (h2 : R23_Leave x.1 x.2.1 = some v) (h3 : k ((unpack (.sl (.pair (.pair .bool (.pair (.int .i64) .unit)) (.pair (.pair (.sl (.int .i64)) (.pair (.sl (.int .i64)) .unit)) (.pair (.int .i64) .unit))))) v)) : callK (lf_R23_Leave vs) k := by
  rw [lq_R23_Leave]; exact callK_lift h1 h2 h3
def tt_R23_Leave : List (Nat × Ty) := [(3, .int .i64), (28, .pair (.pair .bool (.pair (.int .i64) .unit)) (.pair (.pair (.sl (.int .i64)) (.pair (.sl (.int .i64)) .unit)) (.pair (.int .i64) .unit))), (68, .sl (.pair (.pair .bool (.pair (.int .i64) .unit)) (.pair (.pair (.sl (.int .i64)) (.pair (.sl (.int .i64)) .unit)) (.pair (.int .i64) .unit))))]
def et_R23_Leave : List (Nat × Nat) := [(68, 28)]
theorem tt_R23_Leave_ok : subT tt tt_R23_Leave = true := by kernel_rfl
theorem et_R23_Leave_ok : subE et et_R23_Leave = true := by kernel_rfl
noncomputable def fns_R23_Leave : List (Nat × (List AV → Option AV)) := [(30, lf_R22_Withdraw), (88, lf_R23_put)]
theorem fns_R23_Leave_ok : FnsOk Go.Proofs.Tryd.prog fns_R23_Leave := FnsOk.cons c_R22_Withdraw (FnsOk.cons c_R23_put (FnsOk.nil _))
def R23_Leave_S1 (u0 : AV) (x1 : (List ((Bool × Int × Unit) × ((List Int) × (List Int) × Unit) × Int × Unit)) × Int) : St :=
  ⟨[(0, .ro (.pair (.pair .bool (.pair (.int .i64) .unit)) (.pair (.pair (.sl (.int .i64)) (.pair (.sl (.int .i64)) .unit)) (.pair (.int .i64) .unit))) x1.1), (1, u0), (5, .int .i64 x1.2)], [], none⟩
def R23_Leave_M1 : Msk := ⟨[0, 1, 5], [], [], [], [], [], [], [], []⟩
def kp_R23_Leave : List (Nat × List Nat) := [(0, [0, 1]), (1, [0, 1, 5]), (2, [0, 1, 5, 9]), (3, [0, 1, 5]), (4, [0, 1, 5]), (5, [4]), (4000000, []), (4000001, []), (4000002, []), (4000003, []), (4000004, []), (4000005, [])]
def od_R23_Leave : List (Nat × Ord) := []
noncomputable def E_R23_Leave : Env := ⟨0, 0, et_R23_Leave, tt_R23_Leave, fns_R23_Leave, [], od_R23_Leave, kp_R23_Leave, none, []⟩
set_option maxRecDepth 100000 in
set_option maxHeartbeats 40000000 in
theorem c_R23_Leave : PCon Go.Proofs.Tryd.prog 46 lf_R23_Leave := by
  rw [lq_R23_Leave]
  refine lift_conR (E := E_R23_Leave) (c := bodyOf Tryd.f46) (nt := 25) (rs := [.tmp 4]) (ts := [68]) (EnvC.sub (off := 0) (nt := 0) (ords := od_R23_Leave) (keep := kp_R23_Leave) (yl := none) tt_ok et_ok fns_R23_Leave_ok (PrsOk.nil _) (ItsOk.nil _) tt_R23_Leave_ok et_R23_Leave_ok) (PrOk.of mixed_ok) Go.Proofs.Tryd.func46 rfl (by decide) rfl rfl rfl (pureR_one (e := (.sl (.pair (.pair .bool (.pair (.int .i64) .unit)) (.pair (.pair (.sl (.int .i64)) (.pair (.sl (.int .i64)) .unit)) (.pair (.int .i64) .unit))))) rfl) ?_
  intro x r hw hs
  repeat'
    (try (conv => whnf)
     first
       | (with_reducible have hs := letv_out hs)
       | (refine draw_and (by kernel_rfl) ?_)
       | (refine both_mk ?_ ?_)
       | (refine br_bool (fun h => ?_) (fun h => ?_) <;> first | have hs := cT h hs | have hs := cF h hs)
       | (refine bind_elim hs fun v hb hs => ?_; first | refine ck_R22_Withdraw rfl hb ?_ | refine ck_R23_put rfl hb ?_)
       | refine chk_elim hs fun hs => ?_
       | (have hs := letv_out hs)
       | exact fin_some hs rfl
       | (intro b hb; first | have hs := nilq_elim hs b hb | have hs := nilqn_elim hs b hb)
       | exact hJ1 _ hs
       | (have hs := cT rfl hs)
       | (have hs := cF rfl hs)
       | (refine vc_loopR (R23_Leave_S1 _) R23_Leave_M1 hs rfl ?_; intro J1 k1 x1 hJ1 hs)
       | exact (none_ne hs).elim)
theorem cq_R23_Leave : PCon Go.Proofs.Tryd.prog 46 (liftF (.pair (.sl (.pair (.pair .bool (.pair (.int .i64) .unit)) (.pair (.pair (.sl (.int .i64)) (.pair (.sl (.int .i64)) .unit)) (.pair (.int .i64) .unit)))) (.pair (.int .i64) .unit)) (unpack (.sl (.pair (.pair .bool (.pair (.int .i64) .unit)) (.pair (.pair (.sl (.int .i64)) (.pair (.sl (.int .i64)) .unit)) (.pair (.int .i64) .unit))))) (fun x => R23_Leave x.1 x.2.1)) := lq_R23_Leave ▸ c_R23_Leave
noncomputable def lf_R23_Quit : List AV → Option AV := liftF (.pair (.sl (.pair (.pair .bool (.pair (.int .i64) .unit)) (.pair (.pair (.sl (.int .i64)) (.pair (.sl (.int .i64)) .unit)) (.pair (.int .i64) .unit)))) (.pair (.int .i64) .unit)) (unpack (.sl (.pair (.pair .bool (.pair (.int .i64) .unit)) (.pair (.pair (.sl (.int .i64)) (.pair (.sl (.int .i64)) .unit)) (.pair (.int .i64) .unit))))) (fun x => R23_Quit x.1 x.2.1)
theorem lq_R23_Quit : lf_R23_Quit = liftF (.pair (.sl (.pair (.pair .bool (.pair (.int .i64) .unit)) (.pair (.pair (.sl (.int .i64)) (.pair (.sl (.int .i64)) .unit)) (.pair (.int .i64) .unit)))) (.pair (.int .i64) .unit)) (unpack (.sl (.pair (.pair .bool (.pair (.int .i64) .unit)) (.pair (.pair (.sl (.int .i64)) (.pair (.sl (.int .i64)) .unit)) (.pair (.int .i64) .unit))))) (fun x => R23_Quit x.1 x.2.1) := rfl
attribute [irreducible] lf_R23_Quit
theorem ck_R23_Quit {vs : List AV} {k : AV → Prop} {x : ((.pair (.sl (.pair (.pair .bool (.pair (.int .i64) .unit)) (.pair (.pair (.sl (.int .i64)) (.pair (.sl (.int .i64)) .unit)) (.pair (.int .i64) .unit)))) (.pair (.int .i64) .unit)) : Ty).den} {v : List ((Bool × Int × Unit) × ((List Int) × (List Int) × Unit) × Int × Unit)} (h1 : pks (.pair (.sl (.pair (.pair .bool (.pair (.int .i64) .unit)) (.pair (.pair (.sl (.int .i64)) (.pair (.sl (.int .i64)) .unit)) (.pair (.int .i64) .unit)))) (.pair (.int .i64) .unit)) vs = some x) (h2 : R23_Quit x.1 x.2.1 = some v) (h3 : k ((unpack (.sl (.pair (.pair .bool (.pair (.int .i64) .unit)) (.pair (.pair (.sl (.int .i64)) (.pair (.sl (.int .i64)) .unit)) (.pair (.int .i64) .unit))))) v)) : callK (lf_R23_Quit vs) k := by
  rw [lq_R23_Quit]; exact callK_lift h1 h2 h3
def tt_R23_Quit : List (Nat × Ty) := [(3, .int .i64), (28, .pair (.pair .bool (.pair (.int .i64) .unit)) (.pair (.pair (.sl (.int .i64)) (.pair (.sl (.int .i64)) .unit)) (.pair (.int .i64) .unit))), (68, .sl (.pair (.pair .bool (.pair (.int .i64) .unit)) (.pair (.pair (.sl (.int .i64)) (.pair (.sl (.int .i64)) .unit)) (.pair (.int .i64) .unit))))]
def et_R23_Quit : List (Nat × Nat) := [(68, 28)]
theorem tt_R23_Quit_ok : subT tt tt_R23_Quit = true := by kernel_rfl
theorem et_R23_Quit_ok : subE et et_R23_Quit = true := by kernel_rfl
noncomputable def fns_R23_Quit : List (Nat × (List AV → Option AV)) := [(26, lf_R22_Resign), (88, lf_R23_put)]
theorem fns_R23_Quit_ok : FnsOk Go.Proofs.Tryd.prog fns_R23_Quit := FnsOk.cons c_R22_Resign (FnsOk.cons c_R23_put (FnsOk.nil _))
def R23_Quit_S1 (u0 : AV) (x1 : (List ((Bool × Int × Unit) × ((List Int) × (List Int) × Unit) × Int × Unit)) × Int) : St :=
  ⟨[(0, .ro (.pair (.pair .bool (.pair (.int .i64) .unit)) (.pair (.pair (.sl (.int .i64)) (.pair (.sl (.int .i64)) .unit)) (.pair (.int .i64) .unit))) x1.1), (1, u0), (5, .int .i64 x1.2)], [], none⟩
def R23_Quit_M1 : Msk := ⟨[0, 1, 5], [], [], [], [], [], [], [], []⟩
def kp_R23_Quit : List (Nat × List Nat) := [(0, [0, 1]), (1, [0, 1, 5]), (2, [0, 1, 5, 11]), (3, [0, 1, 5]), (4, [0, 1, 5, 6, 7]), (5, [0, 1, 5]), (6, [4]), (4000000, []), (4000001, []), (4000002, []), (4000003, []), (4000004, [6]), (4000005, []), (4000006, [])]
def od_R23_Quit : List (Nat × Ord) := []
noncomputable def E_R23_Quit : Env := ⟨0, 0, et_R23_Quit, tt_R23_Quit, fns_R23_Quit, [], od_R23_Quit, kp_R23_Quit, none, []⟩
set_option maxRecDepth 100000 in
set_option maxHeartbeats 40000000 in
theorem c_R23_Quit : PCon Go.Proofs.Tryd.prog 48 lf_R23_Quit := by
  rw [lq_R23_Quit]
  refine lift_conR (E := E_R23_Quit) (c := bodyOf Tryd.f48) (nt := 32) (rs := [.tmp 4]) (ts := [68]) (EnvC.sub (off := 0) (nt := 0) (ords := od_R23_Quit) (keep := kp_R23_Quit) (yl := none) tt_ok et_ok fns_R23_Quit_ok (PrsOk.nil _) (ItsOk.nil _) tt_R23_Quit_ok et_R23_Quit_ok) (PrOk.of mixed_ok) Go.Proofs.Tryd.func48 rfl (by decide) rfl rfl rfl (pureR_one (e := (.sl (.pair (.pair .bool (.pair (.int .i64) .unit)) (.pair (.pair (.sl (.int .i64)) (.pair (.sl (.int .i64)) .unit)) (.pair (.int .i64) .unit))))) rfl) ?_
  intro x r hw hs
  repeat'
    (try (conv => whnf)
     first
       | (with_reducible have hs := letv_out hs)
       | (refine draw_and (by kernel_rfl) ?_)
       | (refine both_mk ?_ ?_)
       | (refine br_bool (fun h => ?_) (fun h => ?_) <;> first | have hs := cT h hs | have hs := cF h hs)
       | (refine bind_elim hs fun v hb hs => ?_; first | refine ck_R22_Resign rfl hb ?_ | refine ck_R23_put rfl hb ?_)
       | refine chk_elim hs fun hs => ?_
       | (have hs := letv_out hs)
       | exact fin_some hs rfl
       | (intro b hb; first | have hs := nilq_elim hs b hb | have hs := nilqn_elim hs b hb)
       | exact hJ1 _ hs
       | (have hs := cT rfl hs)
       | (have hs := cF rfl hs)
       | (refine vc_loopR (R23_Quit_S1 _) R23_Quit_M1 hs rfl ?_; intro J1 k1 x1 hJ1 hs)
       | exact (none_ne hs).elim)
theorem cq_R23_Quit : PCon Go.Proofs.Tryd.prog 48 (liftF (.pair (.sl (.pair (.pair .bool (.pair (.int .i64) .unit)) (.pair (.pair (.sl (.int .i64)) (.pair (.sl (.int .i64)) .unit)) (.pair (.int .i64) .unit)))) (.pair (.int .i64) .unit)) (unpack (.sl (.pair (.pair .bool (.pair (.int .i64) .unit)) (.pair (.pair (.sl (.int .i64)) (.pair (.sl (.int .i64)) .unit)) (.pair (.int .i64) .unit))))) (fun x => R23_Quit x.1 x.2.1)) := lq_R23_Quit ▸ c_R23_Quit
noncomputable def lf_R23_Enrol : List AV → Option AV := liftF (.pair (.sl (.pair (.pair .bool (.pair (.int .i64) .unit)) (.pair (.pair (.sl (.int .i64)) (.pair (.sl (.int .i64)) .unit)) (.pair (.int .i64) .unit)))) (.pair (.int .i64) (.pair (.int .i64) .unit))) (unpR (.pair (.sl (.pair (.pair .bool (.pair (.int .i64) .unit)) (.pair (.pair (.sl (.int .i64)) (.pair (.sl (.int .i64)) .unit)) (.pair (.int .i64) .unit)))) (.pair (.int .i64) .unit))) (fun x => R23_Enrol x.1 x.2.1 x.2.2.1)
theorem lq_R23_Enrol : lf_R23_Enrol = liftF (.pair (.sl (.pair (.pair .bool (.pair (.int .i64) .unit)) (.pair (.pair (.sl (.int .i64)) (.pair (.sl (.int .i64)) .unit)) (.pair (.int .i64) .unit)))) (.pair (.int .i64) (.pair (.int .i64) .unit))) (unpR (.pair (.sl (.pair (.pair .bool (.pair (.int .i64) .unit)) (.pair (.pair (.sl (.int .i64)) (.pair (.sl (.int .i64)) .unit)) (.pair (.int .i64) .unit)))) (.pair (.int .i64) .unit))) (fun x => R23_Enrol x.1 x.2.1 x.2.2.1) := rfl
attribute [irreducible] lf_R23_Enrol
theorem ck_R23_Enrol {vs : List AV} {k : AV → Prop} {x : ((.pair (.sl (.pair (.pair .bool (.pair (.int .i64) .unit)) (.pair (.pair (.sl (.int .i64)) (.pair (.sl (.int .i64)) .unit)) (.pair (.int .i64) .unit)))) (.pair (.int .i64) (.pair (.int .i64) .unit))) : Ty).den} {v : (List ((Bool × Int × Unit) × ((List Int) × (List Int) × Unit) × Int × Unit)) × Int × Unit} (h1 : pks (.pair (.sl (.pair (.pair .bool (.pair (.int .i64) .unit)) (.pair (.pair (.sl (.int .i64)) (.pair (.sl (.int .i64)) .unit)) (.pair (.int .i64) .unit)))) (.pair (.int .i64) (.pair (.int .i64) .unit))) vs = some x) (h2 : R23_Enrol x.1 x.2.1 x.2.2.1 = some v) (h3 : k ((unpR (.pair (.sl (.pair (.pair .bool (.pair (.int .i64) .unit)) (.pair (.pair (.sl (.int .i64)) (.pair (.sl (.int .i64)) .unit)) (.pair (.int .i64) .unit)))) (.pair (.int .i64) .unit))) v)) : callK (lf_R23_Enrol vs) k := by
  rw [lq_R23_Enrol]; exact callK_lift h1 h2 h3
def tt_R23_Enrol : List (Nat × Ty) := [(3, .int .i64), (4, .bool), (28, .pair (.pair .bool (.pair (.int .i64) .unit)) (.pair (.pair (.sl (.int .i64)) (.pair (.sl (.int .i64)) .unit)) (.pair (.int .i64) .unit))), (68, .sl (.pair (.pair .bool (.pair (.int .i64) .unit)) (.pair (.pair (.sl (.int .i64)) (.pair (.sl (.int .i64)) .unit)) (.pair (.int .i64) .unit))))]
def et_R23_Enrol : List (Nat × Nat) := [(68, 28)]
theorem tt_R23_Enrol_ok : subT tt tt_R23_Enrol = true := by kernel_rfl
theorem et_R23_Enrol_ok : subE et et_R23_Enrol = true := by kernel_rfl
noncomputable def fns_R23_Enrol : List (Nat × (List AV → Option AV)) := [(24, lf_R22_Enrol), (87, lf_R23_is), (88, lf_R23_put)]
theorem fns_R23_Enrol_ok : FnsOk Go.Proofs.Tryd.prog fns_R23_Enrol := FnsOk.cons c_R22_Enrol (FnsOk.cons c_R23_is (FnsOk.cons c_R23_put (FnsOk.nil _)))
def kp_R23_Enrol : List (Nat × List Nat) := [(0, [0, 1, 2]), (1, [0, 1, 2, 13]), (2, [6, 7]), (3, [0, 1, 8, 9]), (4, [6, 7]), (4000000, []), (4000001, []), (4000002, []), (4000003, [8]), (4000004, [])]
def od_R23_Enrol : List (Nat × Ord) := []
noncomputable def E_R23_Enrol : Env := ⟨0, 0, et_R23_Enrol, tt_R23_Enrol, fns_R23_Enrol, [], od_R23_Enrol, kp_R23_Enrol, none, []⟩
set_option maxRecDepth 100000 in
set_option maxHeartbeats 40000000 in
theorem c_R23_Enrol : PCon Go.Proofs.Tryd.prog 50 lf_R23_Enrol := by
  rw [lq_R23_Enrol]
  refine lift_conR (E := E_R23_Enrol) (c := bodyOf Tryd.f50) (nt := 31) (rs := [.tmp 6, .tmp 7]) (ts := [68, 3]) (EnvC.sub (off := 0) (nt := 0) (ords := od_R23_Enrol) (keep := kp_R23_Enrol) (yl := none) tt_ok et_ok fns_R23_Enrol_ok (PrsOk.nil _) (ItsOk.nil _) tt_R23_Enrol_ok et_R23_Enrol_ok) (PrOk.of mixed_ok) Go.Proofs.Tryd.func50 rfl (by decide) rfl rfl rfl (pureR_many (e := (.pair (.sl (.pair (.pair .bool (.pair (.int .i64) .unit)) (.pair (.pair (.sl (.int .i64)) (.pair (.sl (.int .i64)) .unit)) (.pair (.int .i64) .unit)))) (.pair (.int .i64) .unit))) rfl) ?_
  intro x r hw hs
  repeat'
    (try (conv => whnf)
     first
       | (with_reducible have hs := letv_out hs)
       | (refine draw_and (by kernel_rfl) ?_)
       | (refine both_mk ?_ ?_)
       | (refine br_bool (fun h => ?_) (fun h => ?_) <;> first | have hs := cT h hs | have hs := cF h hs)
       | (refine bind_elim hs fun v hb hs => ?_; first | refine ck_R22_Enrol rfl hb ?_ | refine ck_R23_is rfl hb ?_ | refine ck_R23_put rfl hb ?_)
       | refine chk_elim hs fun hs => ?_
       | (have hs := letv_out hs)
       | exact fin_some hs rfl
       | (intro b hb; first | have hs := nilq_elim hs b hb | have hs := nilqn_elim hs b hb)
       | (have hs := cT rfl hs)
       | (have hs := cF rfl hs)
       | exact (none_ne hs).elim)
theorem cq_R23_Enrol : PCon Go.Proofs.Tryd.prog 50 (liftF (.pair (.sl (.pair (.pair .bool (.pair (.int .i64) .unit)) (.pair (.pair (.sl (.int .i64)) (.pair (.sl (.int .i64)) .unit)) (.pair (.int .i64) .unit)))) (.pair (.int .i64) (.pair (.int .i64) .unit))) (unpR (.pair (.sl (.pair (.pair .bool (.pair (.int .i64) .unit)) (.pair (.pair (.sl (.int .i64)) (.pair (.sl (.int .i64)) .unit)) (.pair (.int .i64) .unit)))) (.pair (.int .i64) .unit))) (fun x => R23_Enrol x.1 x.2.1 x.2.2.1)) := lq_R23_Enrol ▸ c_R23_Enrol
noncomputable def lf_R23_Resign : List AV → Option AV := liftF (.pair (.sl (.pair (.pair .bool (.pair (.int .i64) .unit)) (.pair (.pair (.sl (.int .i64)) (.pair (.sl (.int .i64)) .unit)) (.pair (.int .i64) .unit)))) (.pair (.int .i64) (.pair (.int .i64) .unit))) (unpR (.pair (.sl (.pair (.pair .bool (.pair (.int .i64) .unit)) (.pair (.pair (.sl (.int .i64)) (.pair (.sl (.int .i64)) .unit)) (.pair (.int .i64) .unit)))) (.pair (.int .i64) .unit))) (fun x => R23_Resign x.1 x.2.1 x.2.2.1)
theorem lq_R23_Resign : lf_R23_Resign = liftF (.pair (.sl (.pair (.pair .bool (.pair (.int .i64) .unit)) (.pair (.pair (.sl (.int .i64)) (.pair (.sl (.int .i64)) .unit)) (.pair (.int .i64) .unit)))) (.pair (.int .i64) (.pair (.int .i64) .unit))) (unpR (.pair (.sl (.pair (.pair .bool (.pair (.int .i64) .unit)) (.pair (.pair (.sl (.int .i64)) (.pair (.sl (.int .i64)) .unit)) (.pair (.int .i64) .unit)))) (.pair (.int .i64) .unit))) (fun x => R23_Resign x.1 x.2.1 x.2.2.1) := rfl
attribute [irreducible] lf_R23_Resign
theorem ck_R23_Resign {vs : List AV} {k : AV → Prop} {x : ((.pair (.sl (.pair (.pair .bool (.pair (.int .i64) .unit)) (.pair (.pair (.sl (.int .i64)) (.pair (.sl (.int .i64)) .unit)) (.pair (.int .i64) .unit)))) (.pair (.int .i64) (.pair (.int .i64) .unit))) : Ty).den} {v : (List ((Bool × Int × Unit) × ((List Int) × (List Int) × Unit) × Int × Unit)) × Int × Unit} (h1 : pks (.pair (.sl (.pair (.pair .bool (.pair (.int .i64) .unit)) (.pair (.pair (.sl (.int .i64)) (.pair (.sl (.int .i64)) .unit)) (.pair (.int .i64) .unit)))) (.pair (.int .i64) (.pair (.int .i64) .unit))) vs = some x) (h2 : R23_Resign x.1 x.2.1 x.2.2.1 = some v) (h3 : k ((unpR (.pair (.sl (.pair (.pair .bool (.pair (.int .i64) .unit)) (.pair (.pair (.sl (.int .i64)) (.pair (.sl (.int .i64)) .unit)) (.pair (.int .i64) .unit)))) (.pair (.int .i64) .unit))) v)) : callK (lf_R23_Resign vs) k := by
  rw [lq_R23_Resign]; exact callK_lift h1 h2 h3
def tt_R23_Resign : List (Nat × Ty) := [(3, .int .i64), (4, .bool), (28, .pair (.pair .bool (.pair (.int .i64) .unit)) (.pair (.pair (.sl (.int .i64)) (.pair (.sl (.int .i64)) .unit)) (.pair (.int .i64) .unit))), (68, .sl (.pair (.pair .bool (.pair (.int .i64) .unit)) (.pair (.pair (.sl (.int .i64)) (.pair (.sl (.int .i64)) .unit)) (.pair (.int .i64) .unit))))]
def et_R23_Resign : List (Nat × Nat) := [(68, 28)]
theorem tt_R23_Resign_ok : subT tt tt_R23_Resign = true := by kernel_rfl
theorem et_R23_Resign_ok : subE et et_R23_Resign = true := by kernel_rfl
noncomputable def fns_R23_Resign : List (Nat × (List AV → Option AV)) := [(26, lf_R22_Resign), (87, lf_R23_is), (88, lf_R23_put)]
theorem fns_R23_Resign_ok : FnsOk Go.Proofs.Tryd.prog fns_R23_Resign := FnsOk.cons c_R22_Resign (FnsOk.cons c_R23_is (FnsOk.cons c_R23_put (FnsOk.nil _)))
def kp_R23_Resign : List (Nat × List Nat) := [(0, [0, 1, 2]), (1, [0, 1, 2, 13]), (2, [6, 7]), (3, [0, 1, 8, 9]), (4, [6, 7]), (4000000, []), (4000001, []), (4000002, []), (4000003, [8]), (4000004, [])]
def od_R23_Resign : List (Nat × Ord) := []
noncomputable def E_R23_Resign : Env := ⟨0, 0, et_R23_Resign, tt_R23_Resign, fns_R23_Resign, [], od_R23_Resign, kp_R23_Resign, none, []⟩
set_option maxRecDepth 100000 in
set_option maxHeartbeats 40000000 in
theorem c_R23_Resign : PCon Go.Proofs.Tryd.prog 52 lf_R23_Resign := by
  rw [lq_R23_Resign]
  refine lift_conR (E := E_R23_Resign) (c := bodyOf Tryd.f52) (nt := 31) (rs := [.tmp 6, .tmp 7]) (ts := [68, 3]) (EnvC.sub (off := 0) (nt := 0) (ords := od_R23_Resign) (keep := kp_R23_Resign) (yl := none) tt_ok et_ok fns_R23_Resign_ok (PrsOk.nil _) (ItsOk.nil _) tt_R23_Resign_ok et_R23_Resign_ok) (PrOk.of mixed_ok) Go.Proofs.Tryd.func52 rfl (by decide) rfl rfl rfl (pureR_many (e := (.pair (.sl (.pair (.pair .bool (.pair (.int .i64) .unit)) (.pair (.pair (.sl (.int .i64)) (.pair (.sl (.int .i64)) .unit)) (.pair (.int .i64) .unit)))) (.pair (.int .i64) .unit))) rfl) ?_
  intro x r hw hs
  repeat'
    (try (conv => whnf)
     first
       | (with_reducible have hs := letv_out hs)
       | (refine draw_and (by kernel_rfl) ?_)
       | (refine both_mk ?_ ?_)
       | (refine br_bool (fun h => ?_) (fun h => ?_) <;> first | have hs := cT h hs | have hs := cF h hs)
       | (refine bind_elim hs fun v hb hs => ?_; first | refine ck_R22_Resign rfl hb ?_ | refine ck_R23_is rfl hb ?_ | refine ck_R23_put rfl hb ?_)
       | refine chk_elim hs fun hs => ?_
       | (have hs := letv_out hs)
       | exact fin_some hs rfl
       | (intro b hb; first | have hs := nilq_elim hs b hb | have hs := nilqn_elim hs b hb)
       | (have hs := cT rfl hs)
       | (have hs := cF rfl hs)
       | exact (none_ne hs).elim)
theorem cq_R23_Resign : PCon Go.Proofs.Tryd.prog 52 (liftF (.pair (.sl (.pair (.pair .bool (.pair (.int .i64) .unit)) (.pair (.pair (.sl (.int .i64)) (.pair (.sl (.int .i64)) .unit)) (.pair (.int .i64) .unit)))) (.pair (.int .i64) (.pair (.int .i64) .unit))) (unpR (.pair (.sl (.pair (.pair .bool (.pair (.int .i64) .unit)) (.pair (.pair (.sl (.int .i64)) (.pair (.sl (.int .i64)) .unit)) (.pair (.int .i64) .unit)))) (.pair (.int .i64) .unit))) (fun x => R23_Resign x.1 x.2.1 x.2.2.1)) := lq_R23_Resign ▸ c_R23_Resign
noncomputable def lf_R23_Fire : List AV → Option AV := liftF (.pair (.sl (.pair (.pair .bool (.pair (.int .i64) .unit)) (.pair (.pair (.sl (.int .i64)) (.pair (.sl (.int .i64)) .unit)) (.pair (.int .i64) .unit)))) (.pair (.int .i64) .unit)) (unpR (.pair (.sl (.pair (.pair .bool (.pair (.int .i64) .unit)) (.pair (.pair (.sl (.int .i64)) (.pair (.sl (.int .i64)) .unit)) (.pair (.int .i64) .unit)))) (.pair (.sl (.int .i64)) (.pair (.int .i64) .unit)))) (fun x => R23_Fire x.1 x.2.1)
theorem lq_R23_Fire : lf_R23_Fire = liftF (.pair (.sl (.pair (.pair .bool (.pair (.int .i64) .unit)) (.pair (.pair (.sl (.int .i64)) (.pair (.sl (.int .i64)) .unit)) (.pair (.int .i64) .unit)))) (.pair (.int .i64) .unit)) (unpR (.pair (.sl (.pair (.pair .bool (.pair (.int .i64) .unit)) (.pair (.pair (.sl (.int .i64)) (.pair (.sl (.int .i64)) .unit)) (.pair (.int .i64) .unit)))) (.pair (.sl (.int .i64)) (.pair (.int .i64) .unit)))) (fun x => R23_Fire x.1 x.2.1) := rfl
attribute [irreducible] lf_R23_Fire
theorem ck_R23_Fire {vs : List AV} {k : AV → Prop} {x : ((.pair (.sl (.pair (.pair .bool (.pair (.int .i64) .unit)) (.pair (.pair (.sl (.int .i64)) (.pair (.sl (.int .i64)) .unit)) (.pair (.int .i64) .unit)))) (.pair (.int .i64) .unit)) : Ty).den} {v : (List ((Bool × Int × Unit) × ((List Int) × (List Int) × Unit) × Int × Unit)) × (List Int) × Int × Unit} (h1 : pks (.pair (.sl (.pair (.pair .bool (.pair (.int .i64) .unit)) (.pair (.pair (.sl (.int .i64)) (.pair (.sl (.int .i64)) .unit)) (.pair (.int .i64) .unit)))) (.pair (.int .i64) .unit)) vs = some x) (h2 : R23_Fire x.1 x.2.1 = some v) (h3 : k ((unpR (.pair (.sl (.pair (.pair .bool (.pair (.int .i64) .unit)) (.pair (.pair (.sl (.int .i64)) (.pair (.sl (.int .i64)) .unit)) (.pair (.int .i64) .unit)))) (.pair (.sl (.int .i64)) (.pair (.int .i64) .unit)))) v)) : callK (lf_R23_Fire vs) k := by
  rw [lq_R23_Fire]; exact callK_lift h1 h2 h3
def tt_R23_Fire : List (Nat × Ty) := [(3, .int .i64), (4, .bool), (24, .sl (.int .i64)), (28, .pair (.pair .bool (.pair (.int .i64) .unit)) (.pair (.pair (.sl (.int .i64)) (.pair (.sl (.int .i64)) .unit)) (.pair (.int .i64) .unit))), (68, .sl (.pair (.pair .bool (.pair (.int .i64) .unit)) (.pair (.pair (.sl (.int .i64)) (.pair (.sl (.int .i64)) .unit)) (.pair (.int .i64) .unit))))]
def et_R23_Fire : List (Nat × Nat) := [(24, 3), (68, 28)]
theorem tt_R23_Fire_ok : subT tt tt_R23_Fire = true := by kernel_rfl
theorem et_R23_Fire_ok : subE et et_R23_Fire = true := by kernel_rfl
noncomputable def fns_R23_Fire : List (Nat × (List AV → Option AV)) := [(15, lf_R22_Fire), (87, lf_R23_is), (88, lf_R23_put)]
theorem fns_R23_Fire_ok : FnsOk Go.Proofs.Tryd.prog fns_R23_Fire := FnsOk.cons c_R22_Fire (FnsOk.cons c_R23_is (FnsOk.cons c_R23_put (FnsOk.nil _)))
def kp_R23_Fire : List (Nat × List Nat) := [(0, [0, 1]), (1, [0, 1, 13]), (2, [4, 5, 6]), (3, [0, 1, 7, 8, 9]), (4, [0, 1, 7, 8, 9, 25]), (5, [4, 5, 6]), (6, [0, 8]), (7, [4, 5, 6]), (4000000, []), (4000001, []), (4000002, []), (4000003, [7]), (4000004, [7]), (4000005, []), (4000006, []), (4000007, [])]
def od_R23_Fire : List (Nat × Ord) := []
noncomputable def E_R23_Fire : Env := ⟨0, 0, et_R23_Fire, tt_R23_Fire, fns_R23_Fire, [], od_R23_Fire, kp_R23_Fire, none, []⟩
set_option maxRecDepth 100000 in
set_option maxHeartbeats 40000000 in
theorem c_R23_Fire : PCon Go.Proofs.Tryd.prog 54 lf_R23_Fire := by
  rw [lq_R23_Fire]
  refine lift_conR (E := E_R23_Fire) (c := bodyOf Tryd.f54) (nt := 37) (rs := [.tmp 4, .tmp 5, .tmp 6]) (ts := [68, 24, 3]) (EnvC.sub (off := 0) (nt := 0) (ords := od_R23_Fire) (keep := kp_R23_Fire) (yl := none) tt_ok et_ok fns_R23_Fire_ok (PrsOk.nil _) (ItsOk.nil _) tt_R23_Fire_ok et_R23_Fire_ok) (PrOk.of mixed_ok) Go.Proofs.Tryd.func54 rfl (by decide) rfl rfl rfl (pureR_many (e := (.pair (.sl (.pair (.pair .bool (.pair (.int .i64) .unit)) (.pair (.pair (.sl (.int .i64)) (.pair (.sl (.int .i64)) .unit)) (.pair (.int .i64) .unit)))) (.pair (.sl (.int .i64)) (.pair (.int .i64) .unit)))) rfl) ?_
  intro x r hw hs
  repeat'
    (try (conv => whnf)
     first
       | (with_reducible have hs := letv_out hs)
       | (refine draw_and (by kernel_rfl) ?_)
       | (refine both_mk ?_ ?_)
       | (refine br_bool (fun h => ?_) (fun h => ?_) <;> first | have hs := cT h hs | have hs := cF h hs)
       | (refine bind_elim hs fun v hb hs => ?_; first | refine ck_R22_Fire rfl hb ?_ | refine ck_R23_is rfl hb ?_ | refine ck_R23_put rfl hb ?_)
       | refine chk_elim hs fun hs => ?_
       | (have hs := letv_out hs)
       | exact fin_some hs rfl
       | (intro b hb; first | have hs := nilq_elim hs b hb | have hs := nilqn_elim hs b hb)
       | (have hs := cT rfl hs)
       | (have hs := cF rfl hs)
       | exact (none_ne hs).elim)
theorem cq_R23_Fire : PCon Go.Proofs.Tryd.prog 54 (liftF (.pair (.sl (.pair (.pair .bool (.pair (.int .i64) .unit)) (.pair (.pair (.sl (.int .i64)) (.pair (.sl (.int .i64)) .unit)) (.pair (.int .i64) .unit)))) (.pair (.int .i64) .unit)) (unpR (.pair (.sl (.pair (.pair .bool (.pair (.int .i64) .unit)) (.pair (.pair (.sl (.int .i64)) (.pair (.sl (.int .i64)) .unit)) (.pair (.int .i64) .unit)))) (.pair (.sl (.int .i64)) (.pair (.int .i64) .unit)))) (fun x => R23_Fire x.1 x.2.1)) := lq_R23_Fire ▸ c_R23_Fire
noncomputable def lf_R23_Ready : List AV → Option AV := liftF (.pair (.sl (.pair (.pair .bool (.pair (.int .i64) .unit)) (.pair (.pair (.sl (.int .i64)) (.pair (.sl (.int .i64)) .unit)) (.pair (.int .i64) .unit)))) .unit) (unpack (.sl (.int .i64))) (fun x => R23_Ready x.1)
theorem lq_R23_Ready : lf_R23_Ready = liftF (.pair (.sl (.pair (.pair .bool (.pair (.int .i64) .unit)) (.pair (.pair (.sl (.int .i64)) (.pair (.sl (.int .i64)) .unit)) (.pair (.int .i64) .unit)))) .unit) (unpack (.sl (.int .i64))) (fun x => R23_Ready x.1) := rfl
attribute [irreducible] lf_R23_Ready
theorem ck_R23_Ready {vs : List AV} {k : AV → Prop} {x : ((.pair (.sl (.pair (.pair .bool (.pair (.int .i64) .unit)) (.pair (.pair (.sl (.int .i64)) (.pair (.sl (.int .i64)) .unit)) (.pair (.int .i64) .unit)))) .unit) : Ty).den} {v : List Int} (h1 : pks (.pair (.sl (.pair (.pair .bool (.pair (.int .i64) .unit)) (.pair (.pair (.sl (.int .i64)) (.pair (.sl (.int .i64)) .unit)) (.pair (.int .i64) .unit)))) .unit) vs = some x) (h2 : R23_Ready x.1 = some v) (h3 : k ((unpack (.sl (.int .i64))) v)) : callK (lf_R23_Ready vs) k := by
  rw [lq_R23_Ready]; exact callK_lift h1 h2 h3
def tt_R23_Ready : List (Nat × Ty) := [(3, .int .i64), (24, .sl (.int .i64)), (28, .pair (.pair .bool (.pair (.int .i64) .unit)) (.pair (.pair (.sl (.int .i64)) (.pair (.sl (.int .i64)) .unit)) (.pair (.int .i64) .unit))), (68, .sl (.pair (.pair .bool (.pair (.int .i64) .unit)) (.pair (.pair (.sl (.int .i64)) (.pair (.sl (.int .i64)) .unit)) (.pair (.int .i64) .unit))))]
def et_R23_Ready : List (Nat × Nat) := [(24, 3), (68, 28)]
theorem tt_R23_Ready_ok : subT tt tt_R23_Ready = true := by kernel_rfl
theorem et_R23_Ready_ok : subE et et_R23_Ready = true := by kernel_rfl
noncomputable def fns_R23_Ready : List (Nat × (List AV → Option AV)) := [(17, lf_R22_Ready)]
theorem fns_R23_Ready_ok : FnsOk Go.Proofs.Tryd.prog fns_R23_Ready := FnsOk.cons c_R22_Ready (FnsOk.nil _)
def R23_Ready_S1 (u0 : AV) (u1 : AV) (x1 : Int × List Int) : St :=
  ⟨[(0, u0), (3, u1), (4, .int .i64 x1.1)], [(19, .row 3 (.int .i64) x1.2 false)], none⟩
def R23_Ready_M1 : Msk := ⟨[0, 3, 4], [19], [(3, 19, 24)], [], [], [], [], [], []⟩
def kp_R23_Ready : List (Nat × List Nat) := [(0, [0]), (1, [0, 3]), (2, [0, 3, 4]), (3, [0, 3, 4, 8]), (4, [0, 3, 4]), (5, [0, 3, 4, 15]), (6, [0, 3, 4]), (7, [2]), (4000000, []), (4000001, []), (4000002, []), (4000003, [19]), (4000004, [19]), (4000005, [19]), (4000006, [19]), (4000007, [19])]
def od_R23_Ready : List (Nat × Ord) := []
noncomputable def E_R23_Ready : Env := ⟨0, 0, et_R23_Ready, tt_R23_Ready, fns_R23_Ready, [], od_R23_Ready, kp_R23_Ready, none, []⟩
set_option maxRecDepth 100000 in
set_option maxHeartbeats 40000000 in
theorem c_R23_Ready : PCon Go.Proofs.Tryd.prog 56 lf_R23_Ready := by
  rw [lq_R23_Ready]
  refine lift_conR (E := E_R23_Ready) (c := bodyOf Tryd.f56) (nt := 21) (rs := [.tmp 2]) (ts := [24]) (EnvC.sub (off := 0) (nt := 0) (ords := od_R23_Ready) (keep := kp_R23_Ready) (yl := none) tt_ok et_ok fns_R23_Ready_ok (PrsOk.nil _) (ItsOk.nil _) tt_R23_Ready_ok et_R23_Ready_ok) (PrOk.of mixed_ok) Go.Proofs.Tryd.func56 rfl (by decide) rfl rfl rfl (pureR_one (e := (.sl (.int .i64))) rfl) ?_
  intro x r hw hs
  repeat'
    (try (conv => whnf)
     first
       | (with_reducible have hs := letv_out hs)
       | (refine draw_and (by kernel_rfl) ?_)
       | (refine both_mk ?_ ?_)
       | (refine br_bool (fun h => ?_) (fun h => ?_) <;> first | have hs := cT h hs | have hs := cF h hs)
       | (refine bind_elim hs fun v hb hs => ?_; first | refine ck_R22_Ready rfl hb ?_)
       | refine chk_elim hs fun hs => ?_
       | (have hs := letv_out hs)
       | exact fin_some hs rfl
       | (intro b hb; first | have hs := nilq_elim hs b hb | have hs := nilqn_elim hs b hb)
       | exact hJ1 _ hs
       | (have hs := cT rfl hs)
       | (have hs := cF rfl hs)
       | (refine vc_loopR (R23_Ready_S1 _ _) R23_Ready_M1 hs rfl ?_; intro J1 k1 x1 hJ1 hs)
       | exact (none_ne hs).elim)
theorem cq_R23_Ready : PCon Go.Proofs.Tryd.prog 56 (liftF (.pair (.sl (.pair (.pair .bool (.pair (.int .i64) .unit)) (.pair (.pair (.sl (.int .i64)) (.pair (.sl (.int .i64)) .unit)) (.pair (.int .i64) .unit)))) .unit) (unpack (.sl (.int .i64))) (fun x => R23_Ready x.1)) := lq_R23_Ready ▸ c_R23_Ready
noncomputable def lf_R23_New : List AV → Option AV := liftF (.pair (.sl (.pair .bool (.pair (.int .i64) .unit))) .unit) (unpR (.pair (.sl (.pair (.pair .bool (.pair (.int .i64) .unit)) (.pair (.pair (.sl (.int .i64)) (.pair (.sl (.int .i64)) .unit)) (.pair (.int .i64) .unit)))) (.pair (.int .i64) (.pair (.int .i64) .unit)))) (fun x => R23_New x.1)
theorem lq_R23_New : lf_R23_New = liftF (.pair (.sl (.pair .bool (.pair (.int .i64) .unit))) .unit) (unpR (.pair (.sl (.pair (.pair .bool (.pair (.int .i64) .unit)) (.pair (.pair (.sl (.int .i64)) (.pair (.sl (.int .i64)) .unit)) (.pair (.int .i64) .unit)))) (.pair (.int .i64) (.pair (.int .i64) .unit)))) (fun x => R23_New x.1) := rfl
attribute [irreducible] lf_R23_New
theorem ck_R23_New {vs : List AV} {k : AV → Prop} {x : ((.pair (.sl (.pair .bool (.pair (.int .i64) .unit))) .unit) : Ty).den} {v : (List ((Bool × Int × Unit) × ((List Int) × (List Int) × Unit) × Int × Unit)) × Int × Int × Unit} (h1 : pks (.pair (.sl (.pair .bool (.pair (.int .i64) .unit))) .unit) vs = some x) (h2 : R23_New x.1 = some v) (h3 : k ((unpR (.pair (.sl (.pair (.pair .bool (.pair (.int .i64) .unit)) (.pair (.pair (.sl (.int .i64)) (.pair (.sl (.int .i64)) .unit)) (.pair (.int .i64) .unit)))) (.pair (.int .i64) (.pair (.int .i64) .unit)))) v)) : callK (lf_R23_New vs) k := by
  rw [lq_R23_New]; exact callK_lift h1 h2 h3
def tt_R23_New : List (Nat × Ty) := [(3, .int .i64), (23, .pair .bool (.pair (.int .i64) .unit)), (28, .pair (.pair .bool (.pair (.int .i64) .unit)) (.pair (.pair (.sl (.int .i64)) (.pair (.sl (.int .i64)) .unit)) (.pair (.int .i64) .unit))), (68, .sl (.pair (.pair .bool (.pair (.int .i64) .unit)) (.pair (.pair (.sl (.int .i64)) (.pair (.sl (.int .i64)) .unit)) (.pair (.int .i64) .unit)))), (96, .sl (.pair .bool (.pair (.int .i64) .unit)))]
def et_R23_New : List (Nat × Nat) := [(68, 28), (96, 23)]
theorem tt_R23_New_ok : subT tt tt_R23_New = true := by kernel_rfl
theorem et_R23_New_ok : subE et et_R23_New = true := by kernel_rfl
noncomputable def fns_R23_New : List (Nat × (List AV → Option AV)) := [(22, lf_R22_New)]
theorem fns_R23_New_ok : FnsOk Go.Proofs.Tryd.prog fns_R23_New := FnsOk.cons c_R22_New (FnsOk.nil _)
def R23_New_S1 (u0 : AV) (u1 : AV) (x1 : Int × (List ((Bool × Int × Unit) × ((List Int) × (List Int) × Unit) × Int × Unit))) : St :=
  ⟨[(0, u0), (5, u1), (6, .int .i64 x1.1)], [(33, .row 28 (.pair (.pair .bool (.pair (.int .i64) .unit)) (.pair (.pair (.sl (.int .i64)) (.pair (.sl (.int .i64)) .unit)) (.pair (.int .i64) .unit))) x1.2 false)], none⟩
def R23_New_M1 : Msk := ⟨[0, 5, 6], [33], [(5, 33, 68)], [], [], [], [], [], []⟩
def kp_R23_New : List (Nat × List Nat) := [(0, [0]), (1, [0, 11]), (2, [2, 3, 4]), (3, [0, 5]), (4, [0, 5, 6]), (5, [0, 5, 6, 15]), (6, [0, 5, 6]), (7, [0, 5, 6, 7, 8]), (8, [0, 5, 6, 7, 8, 27]), (9, [2, 3, 4]), (10, [0, 5, 6]), (11, [2, 3, 4]), (4000000, []), (4000001, []), (4000002, []), (4000003, []), (4000004, []), (4000005, [33]), (4000006, [33]), (4000007, [7, 33]), (4000008, [7, 33]), (4000009, []), (4000010, [33]), (4000011, [33])]
def od_R23_New : List (Nat × Ord) := []
noncomputable def E_R23_New : Env := ⟨0, 0, et_R23_New, tt_R23_New, fns_R23_New, [], od_R23_New, kp_R23_New, none, []⟩
set_option maxRecDepth 100000 in
set_option maxHeartbeats 40000000 in
theorem c_R23_New : PCon Go.Proofs.Tryd.prog 58 lf_R23_New := by
  rw [lq_R23_New]
  refine lift_conR (E := E_R23_New) (c := bodyOf Tryd.f58) (nt := 35) (rs := [.tmp 2, .tmp 3, .tmp 4]) (ts := [68, 3, 3]) (EnvC.sub (off := 0) (nt := 0) (ords := od_R23_New) (keep := kp_R23_New) (yl := none) tt_ok et_ok fns_R23_New_ok (PrsOk.nil _) (ItsOk.nil _) tt_R23_New_ok et_R23_New_ok) (PrOk.of mixed_ok) Go.Proofs.Tryd.func58 rfl (by decide) rfl rfl rfl (pureR_many (e := (.pair (.sl (.pair (.pair .bool (.pair (.int .i64) .unit)) (.pair (.pair (.sl (.int .i64)) (.pair (.sl (.int .i64)) .unit)) (.pair (.int .i64) .unit)))) (.pair (.int .i64) (.pair (.int .i64) .unit)))) rfl) ?_
  intro x r hw hs
  repeat'
    (try (conv => whnf)
     first
       | (with_reducible have hs := letv_out hs)
       | (refine draw_and (by kernel_rfl) ?_)
       | (refine both_mk ?_ ?_)
       | (refine br_bool (fun h => ?_) (fun h => ?_) <;> first | have hs := cT h hs | have hs := cF h hs)
       | (refine bind_elim hs fun v hb hs => ?_; first | refine ck_R22_New rfl hb ?_)
       | refine chk_elim hs fun hs => ?_
       | (have hs := letv_out hs)
       | exact fin_some hs rfl
       | (intro b hb; first | have hs := nilq_elim hs b hb | have hs := nilqn_elim hs b hb)
       | exact hJ1 _ hs
       | (have hs := cT rfl hs)
       | (have hs := cF rfl hs)
       | (refine vc_loopR (R23_New_S1 _ _) R23_New_M1 hs rfl ?_; intro J1 k1 x1 hJ1 hs)
       | exact (none_ne hs).elim)
theorem cq_R23_New : PCon Go.Proofs.Tryd.prog 58 (liftF (.pair (.sl (.pair .bool (.pair (.int .i64) .unit))) .unit) (unpR (.pair (.sl (.pair (.pair .bool (.pair (.int .i64) .unit)) (.pair (.pair (.sl (.int .i64)) (.pair (.sl (.int .i64)) .unit)) (.pair (.int .i64) .unit)))) (.pair (.int .i64) (.pair (.int .i64) .unit)))) (fun x => R23_New x.1)) := lq_R23_New ▸ c_R23_New
end Go.Proofs.YtkpobmmabmelfaaDoorV
