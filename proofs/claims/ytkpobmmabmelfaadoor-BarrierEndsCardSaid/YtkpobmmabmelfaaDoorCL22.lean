import Derived.Test.YtkpobmmabmelfaaDoorVcTab
import Derived.Test.YtkpobmmabmelfaaDoorDL22
import Derived.Test.YtkpobmmabmelfaaDoorCL21
import Derived.Test.YtkpobmmabmelfaaDoorCR02
import Derived.Test.YtkpobmmabmelfaaDoorCR22
import Derived.Test.YtkpobmmabmelfaaDoorCbarrier
import Derived.Test.YtkpobmmabmelfaaDoorCbitset
namespace Go.Proofs.YtkpobmmabmelfaaDoorV
open Go.Proofs
set_option linter.unusedVariables false
noncomputable def lf_L22_Small : List AV → Option AV := liftF (.pair (.pair (.pair .bool (.pair (.int .i64) .unit)) (.pair (.pair (.sl (.int .i64)) (.pair (.sl (.int .i64)) .unit)) (.pair (.int .i64) .unit))) .unit) (unpack .bool) (fun x => L22_Small x.1)
theorem lq_L22_Small : lf_L22_Small = liftF (.pair (.pair (.pair .bool (.pair (.int .i64) .unit)) (.pair (.pair (.sl (.int .i64)) (.pair (.sl (.int .i64)) .unit)) (.pair (.int .i64) .unit))) .unit) (unpack .bool) (fun x => L22_Small x.1) := rfl
attribute [irreducible] lf_L22_Small
theorem ck_L22_Small {vs : List AV} {k : AV → Prop} {x : ((.pair (.pair (.pair .bool (.pair (.int .i64) .unit)) (.pair (.pair (.sl (.int .i64)) (.pair (.sl (.int .i64)) .unit)) (.pair (.int .i64) .unit))) .unit) : Ty).den} {v : Bool} (h1 : pks (.pair (.pair (.pair .bool (.pair (.int .i64) .unit)) (.pair (.pair (.sl (.int .i64)) (.pair (.sl (.int .i64)) .unit)) (.pair (.int .i64) .unit))) .unit) vs = some x) (h2 : L22_Small x.1 = some v) (h3 : k ((unpack .bool) v)) : callK (lf_L22_Small vs) k := by
  rw [lq_L22_Small]; exact callK_lift h1 h2 h3
def tt_L22_Small : List (Nat × Ty) := [(3, .int .i64), (4, .bool), (24, .sl (.int .i64)), (26, .pair (.sl (.int .i64)) (.pair (.sl (.int .i64)) .unit)), (28, .pair (.pair .bool (.pair (.int .i64) .unit)) (.pair (.pair (.sl (.int .i64)) (.pair (.sl (.int .i64)) .unit)) (.pair (.int .i64) .unit)))]
def et_L22_Small : List (Nat × Nat) := [(24, 3)]
theorem tt_L22_Small_ok : subT tt tt_L22_Small = true := by kernel_rfl
theorem et_L22_Small_ok : subE et et_L22_Small = true := by kernel_rfl
noncomputable def fns_L22_Small : List (Nat × (List AV → Option AV)) := []
theorem fns_L22_Small_ok : FnsOk Go.Proofs.Tryd.prog fns_L22_Small := FnsOk.nil _
def kp_L22_Small : List (Nat × List Nat) := [(0, [1]), (1, [2]), (4000000, [1]), (4000001, [])]
def od_L22_Small : List (Nat × Ord) := []
noncomputable def E_L22_Small : Env := ⟨0, 0, et_L22_Small, tt_L22_Small, fns_L22_Small, [], od_L22_Small, kp_L22_Small, none, []⟩
set_option maxRecDepth 100000 in
set_option maxHeartbeats 40000000 in
theorem c_L22_Small : PCon Go.Proofs.Tryd.prog 10 lf_L22_Small := by
  rw [lq_L22_Small]
  refine lift_conR (E := E_L22_Small) (c := bodyOf Tryd.f10) (nt := 15) (rs := [.tmp 2]) (ts := [4]) (EnvC.sub (off := 0) (nt := 0) (ords := od_L22_Small) (keep := kp_L22_Small) (yl := none) tt_ok et_ok fns_L22_Small_ok (PrsOk.nil _) (ItsOk.nil _) tt_L22_Small_ok et_L22_Small_ok) (PrOk.of mixed_ok) Go.Proofs.Tryd.func10 rfl (by decide) rfl rfl rfl (pureR_one (e := .bool) rfl) ?_
  intro x r hw hs
  repeat'
    (try (conv => whnf)
     first
       | (with_reducible have hs := letv_out hs)
       | (refine draw_and (by kernel_rfl) ?_)
       | (refine both_mk ?_ ?_)
       | (refine br_bool (fun h => ?_) (fun h => ?_) <;> first | have hs := cT h hs | have hs := cF h hs)
       | refine chk_elim hs fun hs => ?_
       | (have hs := letv_out hs)
       | exact fin_some hs rfl
       | (intro b hb; first | have hs := nilq_elim hs b hb | have hs := nilqn_elim hs b hb)
       | (have hs := cT rfl hs)
       | (have hs := cF rfl hs)
       | exact (none_ne hs).elim)
theorem cq_L22_Small : PCon Go.Proofs.Tryd.prog 10 (liftF (.pair (.pair (.pair .bool (.pair (.int .i64) .unit)) (.pair (.pair (.sl (.int .i64)) (.pair (.sl (.int .i64)) .unit)) (.pair (.int .i64) .unit))) .unit) (unpack .bool) (fun x => L22_Small x.1)) := lq_L22_Small ▸ c_L22_Small
noncomputable def lf_L22_alive : List AV → Option AV := liftF .unit (unpack .bool) (fun x => L22_alive)
theorem lq_L22_alive : lf_L22_alive = liftF .unit (unpack .bool) (fun x => L22_alive) := rfl
attribute [irreducible] lf_L22_alive
theorem ck_L22_alive {vs : List AV} {k : AV → Prop} {x : (.unit : Ty).den} {v : Bool} (h1 : pks .unit vs = some x) (h2 : L22_alive = some v) (h3 : k ((unpack .bool) v)) : callK (lf_L22_alive vs) k := by
  rw [lq_L22_alive]; exact callK_lift h1 h2 h3
def tt_L22_alive : List (Nat × Ty) := [(3, .int .i64), (4, .bool), (23, .pair .bool (.pair (.int .i64) .unit)), (24, .sl (.int .i64)), (38, .pair (.pair .bool (.pair (.int .i64) .unit)) (.pair (.pair (.arr 4 (.int .u64)) (.pair (.arr 4 (.int .u64)) .unit)) (.pair (.int .i64) .unit))), (40, .int .i64)]
def et_L22_alive : List (Nat × Nat) := [(24, 3)]
theorem tt_L22_alive_ok : subT tt tt_L22_alive = true := by kernel_rfl
theorem et_L22_alive_ok : subE et et_L22_alive = true := by kernel_rfl
noncomputable def fns_L22_alive : List (Nat × (List AV → Option AV)) := [(14, lf_barrier_Fire), (16, lf_barrier_Ready), (20, lf_R02_Same), (21, lf_barrier_New), (23, lf_barrier_Enrol), (27, lf_barrier_Offer), (29, lf_barrier_Withdraw), (31, lf_barrier_Fine), (33, lf_barrier_Check)]
theorem fns_L22_alive_ok : FnsOk Go.Proofs.Tryd.prog fns_L22_alive := FnsOk.cons c_barrier_Fire (FnsOk.cons c_barrier_Ready (FnsOk.cons c_R02_Same (FnsOk.cons c_barrier_New (FnsOk.cons c_barrier_Enrol (FnsOk.cons c_barrier_Offer (FnsOk.cons c_barrier_Withdraw (FnsOk.cons c_barrier_Fine (FnsOk.cons c_barrier_Check (FnsOk.nil _)))))))))
def kp_L22_alive : List (Nat × List Nat) := [(0, []), (1, [1, 2]), (2, [2, 3, 4]), (3, [2, 3, 4, 6]), (4, [2, 4, 6, 7, 8]), (5, [2, 4, 6, 7, 8, 9, 10, 11]), (6, [2, 4, 6, 7, 8, 9, 10, 11, 13]), (7, [0]), (4000000, []), (4000001, [1]), (4000002, [3]), (4000003, [3]), (4000004, [7]), (4000005, [7, 9]), (4000006, [7, 9]), (4000007, [])]
def od_L22_alive : List (Nat × Ord) := []
noncomputable def E_L22_alive : Env := ⟨0, 0, et_L22_alive, tt_L22_alive, fns_L22_alive, [], od_L22_alive, kp_L22_alive, none, []⟩
set_option maxRecDepth 100000 in
set_option maxHeartbeats 40000000 in
theorem c_L22_alive : PCon Go.Proofs.Tryd.prog 11 lf_L22_alive := by
  rw [lq_L22_alive]
  refine lift_conR (E := E_L22_alive) (c := bodyOf Tryd.f11) (nt := 96) (rs := [.tmp 0]) (ts := [4]) (EnvC.sub (off := 0) (nt := 0) (ords := od_L22_alive) (keep := kp_L22_alive) (yl := none) tt_ok et_ok fns_L22_alive_ok (PrsOk.nil _) (ItsOk.nil _) tt_L22_alive_ok et_L22_alive_ok) (PrOk.of mixed_ok) Go.Proofs.Tryd.func11 rfl (by decide) rfl rfl rfl (pureR_one (e := .bool) rfl) ?_
  intro x r hw hs
  repeat'
    (try (conv => whnf)
     first
       | (with_reducible have hs := letv_out hs)
       | (refine draw_and (by kernel_rfl) ?_)
       | (refine both_mk ?_ ?_)
       | (refine br_bool (fun h => ?_) (fun h => ?_) <;> first | have hs := cT h hs | have hs := cF h hs)
       | (refine bind_elim hs fun v hb hs => ?_; first | refine ck_barrier_Fire rfl hb ?_ | refine ck_barrier_Ready rfl hb ?_ | refine ck_R02_Same rfl hb ?_ | refine ck_barrier_New rfl hb ?_ | refine ck_barrier_Enrol rfl hb ?_ | refine ck_barrier_Offer rfl hb ?_ | refine ck_barrier_Withdraw rfl hb ?_ | refine ck_barrier_Fine rfl hb ?_ | refine ck_barrier_Check rfl hb ?_)
       | refine chk_elim hs fun hs => ?_
       | (have hs := letv_out hs)
       | exact fin_some hs rfl
       | (intro b hb; first | have hs := nilq_elim hs b hb | have hs := nilqn_elim hs b hb)
       | (have hs := cT rfl hs)
       | (have hs := cF rfl hs)
       | exact (none_ne hs).elim)
theorem cq_L22_alive : PCon Go.Proofs.Tryd.prog 11 (liftF .unit (unpack .bool) (fun x => L22_alive)) := lq_L22_alive ▸ c_L22_alive
noncomputable def lf_L22_Plain : List AV → Option AV := liftF (.pair (.pair (.pair .bool (.pair (.int .i64) .unit)) (.pair (.pair (.sl (.int .i64)) (.pair (.sl (.int .i64)) .unit)) (.pair (.int .i64) .unit))) .unit) (unpack (.pair (.pair .bool (.pair (.int .i64) .unit)) (.pair (.pair (.sl (.int .i64)) (.pair (.sl (.int .i64)) .unit)) (.pair (.int .i64) .unit)))) (fun x => L22_Plain x.1)
theorem lq_L22_Plain : lf_L22_Plain = liftF (.pair (.pair (.pair .bool (.pair (.int .i64) .unit)) (.pair (.pair (.sl (.int .i64)) (.pair (.sl (.int .i64)) .unit)) (.pair (.int .i64) .unit))) .unit) (unpack (.pair (.pair .bool (.pair (.int .i64) .unit)) (.pair (.pair (.sl (.int .i64)) (.pair (.sl (.int .i64)) .unit)) (.pair (.int .i64) .unit)))) (fun x => L22_Plain x.1) := rfl
attribute [irreducible] lf_L22_Plain
theorem ck_L22_Plain {vs : List AV} {k : AV → Prop} {x : ((.pair (.pair (.pair .bool (.pair (.int .i64) .unit)) (.pair (.pair (.sl (.int .i64)) (.pair (.sl (.int .i64)) .unit)) (.pair (.int .i64) .unit))) .unit) : Ty).den} {v : (Bool × Int × Unit) × ((List Int) × (List Int) × Unit) × Int × Unit} (h1 : pks (.pair (.pair (.pair .bool (.pair (.int .i64) .unit)) (.pair (.pair (.sl (.int .i64)) (.pair (.sl (.int .i64)) .unit)) (.pair (.int .i64) .unit))) .unit) vs = some x) (h2 : L22_Plain x.1 = some v) (h3 : k ((unpack (.pair (.pair .bool (.pair (.int .i64) .unit)) (.pair (.pair (.sl (.int .i64)) (.pair (.sl (.int .i64)) .unit)) (.pair (.int .i64) .unit)))) v)) : callK (lf_L22_Plain vs) k := by
  rw [lq_L22_Plain]; exact callK_lift h1 h2 h3
def tt_L22_Plain : List (Nat × Ty) := [(3, .int .i64), (23, .pair .bool (.pair (.int .i64) .unit)), (26, .pair (.sl (.int .i64)) (.pair (.sl (.int .i64)) .unit)), (28, .pair (.pair .bool (.pair (.int .i64) .unit)) (.pair (.pair (.sl (.int .i64)) (.pair (.sl (.int .i64)) .unit)) (.pair (.int .i64) .unit)))]
def et_L22_Plain : List (Nat × Nat) := []
theorem tt_L22_Plain_ok : subT tt tt_L22_Plain = true := by kernel_rfl
theorem et_L22_Plain_ok : subE et et_L22_Plain = true := by kernel_rfl
noncomputable def fns_L22_Plain : List (Nat × (List AV → Option AV)) := [(59, lf_L21_Plain)]
theorem fns_L22_Plain_ok : FnsOk Go.Proofs.Tryd.prog fns_L22_Plain := FnsOk.cons c_L21_Plain (FnsOk.nil _)
def kp_L22_Plain : List (Nat × List Nat) := [(0, [1, 2]), (1, [2]), (4000000, [1, 2]), (4000001, [2])]
def od_L22_Plain : List (Nat × Ord) := [(1, (.one 0 (.one 1 (.one 2 (.one 3 (.one 5 (.one 6 (.one 4 (.one 7 (.one 100008 .nil))))))))))]
noncomputable def E_L22_Plain : Env := ⟨0, 0, et_L22_Plain, tt_L22_Plain, fns_L22_Plain, [], od_L22_Plain, kp_L22_Plain, none, []⟩
set_option maxRecDepth 100000 in
set_option maxHeartbeats 40000000 in
theorem c_L22_Plain : PCon Go.Proofs.Tryd.prog 12 lf_L22_Plain := by
  rw [lq_L22_Plain]
  refine lift_conR (E := E_L22_Plain) (c := bodyOf Tryd.f12) (nt := 11) (rs := [.cell 2 28]) (ts := [28]) (EnvC.sub (off := 0) (nt := 0) (ords := od_L22_Plain) (keep := kp_L22_Plain) (yl := none) tt_ok et_ok fns_L22_Plain_ok (PrsOk.nil _) (ItsOk.nil _) tt_L22_Plain_ok et_L22_Plain_ok) (PrOk.of mixed_ok) Go.Proofs.Tryd.func12 rfl (by decide) rfl rfl rfl (pureR_one (e := (.pair (.pair .bool (.pair (.int .i64) .unit)) (.pair (.pair (.sl (.int .i64)) (.pair (.sl (.int .i64)) .unit)) (.pair (.int .i64) .unit)))) rfl) ?_
  intro x r hw hs
  repeat'
    (try (conv => whnf)
     first
       | (with_reducible have hs := letv_out hs)
       | (refine draw_and (by kernel_rfl) ?_)
       | (refine both_mk ?_ ?_)
       | (refine br_bool (fun h => ?_) (fun h => ?_) <;> first | have hs := cT h hs | have hs := cF h hs)
       | (refine bind_elim hs fun v hb hs => ?_; first | refine ck_L21_Plain rfl hb ?_)
       | refine chk_elim hs fun hs => ?_
       | (have hs := letv_out hs)
       | exact fin_some hs rfl
       | (intro b hb; first | have hs := nilq_elim hs b hb | have hs := nilqn_elim hs b hb)
       | (have hs := cT rfl hs)
       | (have hs := cF rfl hs)
       | exact (none_ne hs).elim)
theorem cq_L22_Plain : PCon Go.Proofs.Tryd.prog 12 (liftF (.pair (.pair (.pair .bool (.pair (.int .i64) .unit)) (.pair (.pair (.sl (.int .i64)) (.pair (.sl (.int .i64)) .unit)) (.pair (.int .i64) .unit))) .unit) (unpack (.pair (.pair .bool (.pair (.int .i64) .unit)) (.pair (.pair (.sl (.int .i64)) (.pair (.sl (.int .i64)) .unit)) (.pair (.int .i64) .unit)))) (fun x => L22_Plain x.1)) := lq_L22_Plain ▸ c_L22_Plain
noncomputable def lf_L22_To : List AV → Option AV := liftF (.pair (.pair (.pair .bool (.pair (.int .i64) .unit)) (.pair (.pair (.sl (.int .i64)) (.pair (.sl (.int .i64)) .unit)) (.pair (.int .i64) .unit))) .unit) (unpack (.pair (.pair .bool (.pair (.int .i64) .unit)) (.pair (.pair (.arr 4 (.int .u64)) (.pair (.arr 4 (.int .u64)) .unit)) (.pair (.int .i64) .unit)))) (fun x => L22_To x.1)
theorem lq_L22_To : lf_L22_To = liftF (.pair (.pair (.pair .bool (.pair (.int .i64) .unit)) (.pair (.pair (.sl (.int .i64)) (.pair (.sl (.int .i64)) .unit)) (.pair (.int .i64) .unit))) .unit) (unpack (.pair (.pair .bool (.pair (.int .i64) .unit)) (.pair (.pair (.arr 4 (.int .u64)) (.pair (.arr 4 (.int .u64)) .unit)) (.pair (.int .i64) .unit)))) (fun x => L22_To x.1) := rfl
attribute [irreducible] lf_L22_To
theorem ck_L22_To {vs : List AV} {k : AV → Prop} {x : ((.pair (.pair (.pair .bool (.pair (.int .i64) .unit)) (.pair (.pair (.sl (.int .i64)) (.pair (.sl (.int .i64)) .unit)) (.pair (.int .i64) .unit))) .unit) : Ty).den} {v : (Bool × Int × Unit) × ((List Int) × (List Int) × Unit) × Int × Unit} (h1 : pks (.pair (.pair (.pair .bool (.pair (.int .i64) .unit)) (.pair (.pair (.sl (.int .i64)) (.pair (.sl (.int .i64)) .unit)) (.pair (.int .i64) .unit))) .unit) vs = some x) (h2 : L22_To x.1 = some v) (h3 : k ((unpack (.pair (.pair .bool (.pair (.int .i64) .unit)) (.pair (.pair (.arr 4 (.int .u64)) (.pair (.arr 4 (.int .u64)) .unit)) (.pair (.int .i64) .unit)))) v)) : callK (lf_L22_To vs) k := by
  rw [lq_L22_To]; exact callK_lift h1 h2 h3
def tt_L22_To : List (Nat × Ty) := [(3, .int .i64), (23, .pair .bool (.pair (.int .i64) .unit)), (26, .pair (.sl (.int .i64)) (.pair (.sl (.int .i64)) .unit)), (28, .pair (.pair .bool (.pair (.int .i64) .unit)) (.pair (.pair (.sl (.int .i64)) (.pair (.sl (.int .i64)) .unit)) (.pair (.int .i64) .unit))), (38, .pair (.pair .bool (.pair (.int .i64) .unit)) (.pair (.pair (.arr 4 (.int .u64)) (.pair (.arr 4 (.int .u64)) .unit)) (.pair (.int .i64) .unit)))]
def et_L22_To : List (Nat × Nat) := []
theorem tt_L22_To_ok : subT tt tt_L22_To = true := by kernel_rfl
theorem et_L22_To_ok : subE et et_L22_To = true := by kernel_rfl
noncomputable def fns_L22_To : List (Nat × (List AV → Option AV)) := [(59, lf_L21_Plain), (60, lf_L21_To)]
theorem fns_L22_To_ok : FnsOk Go.Proofs.Tryd.prog fns_L22_To := FnsOk.cons c_L21_Plain (FnsOk.cons c_L21_To (FnsOk.nil _))
def kp_L22_To : List (Nat × List Nat) := [(0, [1, 2]), (1, [2]), (4000000, [1, 2]), (4000001, [2])]
def od_L22_To : List (Nat × Ord) := [(1, (.one 0 (.one 1 (.one 2 (.one 3 (.one 6 (.one 7 (.one 4 (.one 5 (.one 8 (.one 100009 .nil)))))))))))]
noncomputable def E_L22_To : Env := ⟨0, 0, et_L22_To, tt_L22_To, fns_L22_To, [], od_L22_To, kp_L22_To, none, []⟩
set_option maxRecDepth 100000 in
set_option maxHeartbeats 40000000 in
theorem c_L22_To : PCon Go.Proofs.Tryd.prog 13 lf_L22_To := by
  rw [lq_L22_To]
  refine lift_conR (E := E_L22_To) (c := bodyOf Tryd.f13) (nt := 12) (rs := [.cell 2 38]) (ts := [38]) (EnvC.sub (off := 0) (nt := 0) (ords := od_L22_To) (keep := kp_L22_To) (yl := none) tt_ok et_ok fns_L22_To_ok (PrsOk.nil _) (ItsOk.nil _) tt_L22_To_ok et_L22_To_ok) (PrOk.of mixed_ok) Go.Proofs.Tryd.func13 rfl (by decide) rfl rfl rfl (pureR_one (e := (.pair (.pair .bool (.pair (.int .i64) .unit)) (.pair (.pair (.arr 4 (.int .u64)) (.pair (.arr 4 (.int .u64)) .unit)) (.pair (.int .i64) .unit)))) rfl) ?_
  intro x r hw hs
  repeat'
    (try (conv => whnf)
     first
       | (with_reducible have hs := letv_out hs)
       | (refine draw_and (by kernel_rfl) ?_)
       | (refine both_mk ?_ ?_)
       | (refine br_bool (fun h => ?_) (fun h => ?_) <;> first | have hs := cT h hs | have hs := cF h hs)
       | (refine bind_elim hs fun v hb hs => ?_; first | refine ck_L21_Plain rfl hb ?_ | refine ck_L21_To rfl hb ?_)
       | refine chk_elim hs fun hs => ?_
       | (have hs := letv_out hs)
       | exact fin_some hs rfl
       | (intro b hb; first | have hs := nilq_elim hs b hb | have hs := nilqn_elim hs b hb)
       | (have hs := cT rfl hs)
       | (have hs := cF rfl hs)
       | exact (none_ne hs).elim)
theorem cq_L22_To : PCon Go.Proofs.Tryd.prog 13 (liftF (.pair (.pair (.pair .bool (.pair (.int .i64) .unit)) (.pair (.pair (.sl (.int .i64)) (.pair (.sl (.int .i64)) .unit)) (.pair (.int .i64) .unit))) .unit) (unpack (.pair (.pair .bool (.pair (.int .i64) .unit)) (.pair (.pair (.arr 4 (.int .u64)) (.pair (.arr 4 (.int .u64)) .unit)) (.pair (.int .i64) .unit)))) (fun x => L22_To x.1)) := lq_L22_To ▸ c_L22_To
noncomputable def lf_L22_Same : List AV → Option AV := liftF (.pair (.pair (.pair .bool (.pair (.int .i64) .unit)) (.pair (.pair (.sl (.int .i64)) (.pair (.sl (.int .i64)) .unit)) (.pair (.int .i64) .unit))) (.pair (.pair (.pair .bool (.pair (.int .i64) .unit)) (.pair (.pair (.sl (.int .i64)) (.pair (.sl (.int .i64)) .unit)) (.pair (.int .i64) .unit))) .unit)) (unpack .bool) (fun x => L22_Same x.1 x.2.1)
theorem lq_L22_Same : lf_L22_Same = liftF (.pair (.pair (.pair .bool (.pair (.int .i64) .unit)) (.pair (.pair (.sl (.int .i64)) (.pair (.sl (.int .i64)) .unit)) (.pair (.int .i64) .unit))) (.pair (.pair (.pair .bool (.pair (.int .i64) .unit)) (.pair (.pair (.sl (.int .i64)) (.pair (.sl (.int .i64)) .unit)) (.pair (.int .i64) .unit))) .unit)) (unpack .bool) (fun x => L22_Same x.1 x.2.1) := rfl
attribute [irreducible] lf_L22_Same
theorem ck_L22_Same {vs : List AV} {k : AV → Prop} {x : ((.pair (.pair (.pair .bool (.pair (.int .i64) .unit)) (.pair (.pair (.sl (.int .i64)) (.pair (.sl (.int .i64)) .unit)) (.pair (.int .i64) .unit))) (.pair (.pair (.pair .bool (.pair (.int .i64) .unit)) (.pair (.pair (.sl (.int .i64)) (.pair (.sl (.int .i64)) .unit)) (.pair (.int .i64) .unit))) .unit)) : Ty).den} {v : Bool} (h1 : pks (.pair (.pair (.pair .bool (.pair (.int .i64) .unit)) (.pair (.pair (.sl (.int .i64)) (.pair (.sl (.int .i64)) .unit)) (.pair (.int .i64) .unit))) (.pair (.pair (.pair .bool (.pair (.int .i64) .unit)) (.pair (.pair (.sl (.int .i64)) (.pair (.sl (.int .i64)) .unit)) (.pair (.int .i64) .unit))) .unit)) vs = some x) (h2 : L22_Same x.1 x.2.1 = some v) (h3 : k ((unpack .bool) v)) : callK (lf_L22_Same vs) k := by
  rw [lq_L22_Same]; exact callK_lift h1 h2 h3
def tt_L22_Same : List (Nat × Ty) := [(3, .int .i64), (4, .bool), (23, .pair .bool (.pair (.int .i64) .unit)), (26, .pair (.sl (.int .i64)) (.pair (.sl (.int .i64)) .unit)), (28, .pair (.pair .bool (.pair (.int .i64) .unit)) (.pair (.pair (.sl (.int .i64)) (.pair (.sl (.int .i64)) .unit)) (.pair (.int .i64) .unit)))]
def et_L22_Same : List (Nat × Nat) := []
theorem tt_L22_Same_ok : subT tt tt_L22_Same = true := by kernel_rfl
theorem et_L22_Same_ok : subE et et_L22_Same = true := by kernel_rfl
noncomputable def fns_L22_Same : List (Nat × (List AV → Option AV)) := [(67, lf_L21_Same)]
theorem fns_L22_Same_ok : FnsOk Go.Proofs.Tryd.prog fns_L22_Same := FnsOk.cons c_L21_Same (FnsOk.nil _)
def kp_L22_Same : List (Nat × List Nat) := [(0, [2, 3]), (1, [4]), (4000000, [2, 3]), (4000001, [])]
def od_L22_Same : List (Nat × Ord) := []
noncomputable def E_L22_Same : Env := ⟨0, 0, et_L22_Same, tt_L22_Same, fns_L22_Same, [], od_L22_Same, kp_L22_Same, none, []⟩
set_option maxRecDepth 100000 in
set_option maxHeartbeats 40000000 in
theorem c_L22_Same : PCon Go.Proofs.Tryd.prog 18 lf_L22_Same := by
  rw [lq_L22_Same]
  refine lift_conR (E := E_L22_Same) (c := bodyOf Tryd.f18) (nt := 24) (rs := [.tmp 4]) (ts := [4]) (EnvC.sub (off := 0) (nt := 0) (ords := od_L22_Same) (keep := kp_L22_Same) (yl := none) tt_ok et_ok fns_L22_Same_ok (PrsOk.nil _) (ItsOk.nil _) tt_L22_Same_ok et_L22_Same_ok) (PrOk.of mixed_ok) Go.Proofs.Tryd.func18 rfl (by decide) rfl rfl rfl (pureR_one (e := .bool) rfl) ?_
  intro x r hw hs
  repeat'
    (try (conv => whnf)
     first
       | (with_reducible have hs := letv_out hs)
       | (refine draw_and (by kernel_rfl) ?_)
       | (refine both_mk ?_ ?_)
       | (refine br_bool (fun h => ?_) (fun h => ?_) <;> first | have hs := cT h hs | have hs := cF h hs)
       | (refine bind_elim hs fun v hb hs => ?_; first | refine ck_L21_Same rfl hb ?_)
       | refine chk_elim hs fun hs => ?_
       | (have hs := letv_out hs)
       | exact fin_some hs rfl
       | (intro b hb; first | have hs := nilq_elim hs b hb | have hs := nilqn_elim hs b hb)
       | (have hs := cT rfl hs)
       | (have hs := cF rfl hs)
       | exact (none_ne hs).elim)
theorem cq_L22_Same : PCon Go.Proofs.Tryd.prog 18 (liftF (.pair (.pair (.pair .bool (.pair (.int .i64) .unit)) (.pair (.pair (.sl (.int .i64)) (.pair (.sl (.int .i64)) .unit)) (.pair (.int .i64) .unit))) (.pair (.pair (.pair .bool (.pair (.int .i64) .unit)) (.pair (.pair (.sl (.int .i64)) (.pair (.sl (.int .i64)) .unit)) (.pair (.int .i64) .unit))) .unit)) (unpack .bool) (fun x => L22_Same x.1 x.2.1)) := lq_L22_Same ▸ c_L22_Same
noncomputable def lf_L22_From : List AV → Option AV := liftF (.pair (.pair (.pair .bool (.pair (.int .i64) .unit)) (.pair (.pair (.arr 4 (.int .u64)) (.pair (.arr 4 (.int .u64)) .unit)) (.pair (.int .i64) .unit))) .unit) (unpack (.pair (.pair .bool (.pair (.int .i64) .unit)) (.pair (.pair (.sl (.int .i64)) (.pair (.sl (.int .i64)) .unit)) (.pair (.int .i64) .unit)))) (fun x => L22_From x.1)
theorem lq_L22_From : lf_L22_From = liftF (.pair (.pair (.pair .bool (.pair (.int .i64) .unit)) (.pair (.pair (.arr 4 (.int .u64)) (.pair (.arr 4 (.int .u64)) .unit)) (.pair (.int .i64) .unit))) .unit) (unpack (.pair (.pair .bool (.pair (.int .i64) .unit)) (.pair (.pair (.sl (.int .i64)) (.pair (.sl (.int .i64)) .unit)) (.pair (.int .i64) .unit)))) (fun x => L22_From x.1) := rfl
attribute [irreducible] lf_L22_From
theorem ck_L22_From {vs : List AV} {k : AV → Prop} {x : ((.pair (.pair (.pair .bool (.pair (.int .i64) .unit)) (.pair (.pair (.arr 4 (.int .u64)) (.pair (.arr 4 (.int .u64)) .unit)) (.pair (.int .i64) .unit))) .unit) : Ty).den} {v : (Bool × Int × Unit) × ((List Int) × (List Int) × Unit) × Int × Unit} (h1 : pks (.pair (.pair (.pair .bool (.pair (.int .i64) .unit)) (.pair (.pair (.arr 4 (.int .u64)) (.pair (.arr 4 (.int .u64)) .unit)) (.pair (.int .i64) .unit))) .unit) vs = some x) (h2 : L22_From x.1 = some v) (h3 : k ((unpack (.pair (.pair .bool (.pair (.int .i64) .unit)) (.pair (.pair (.sl (.int .i64)) (.pair (.sl (.int .i64)) .unit)) (.pair (.int .i64) .unit)))) v)) : callK (lf_L22_From vs) k := by
  rw [lq_L22_From]; exact callK_lift h1 h2 h3
def tt_L22_From : List (Nat × Ty) := [(3, .int .i64), (23, .pair .bool (.pair (.int .i64) .unit)), (28, .pair (.pair .bool (.pair (.int .i64) .unit)) (.pair (.pair (.sl (.int .i64)) (.pair (.sl (.int .i64)) .unit)) (.pair (.int .i64) .unit))), (36, .pair (.arr 4 (.int .u64)) (.pair (.arr 4 (.int .u64)) .unit)), (38, .pair (.pair .bool (.pair (.int .i64) .unit)) (.pair (.pair (.arr 4 (.int .u64)) (.pair (.arr 4 (.int .u64)) .unit)) (.pair (.int .i64) .unit)))]
def et_L22_From : List (Nat × Nat) := []
theorem tt_L22_From_ok : subT tt tt_L22_From = true := by kernel_rfl
theorem et_L22_From_ok : subE et et_L22_From = true := by kernel_rfl
noncomputable def fns_L22_From : List (Nat × (List AV → Option AV)) := [(68, lf_L21_From)]
theorem fns_L22_From_ok : FnsOk Go.Proofs.Tryd.prog fns_L22_From := FnsOk.cons c_L21_From (FnsOk.nil _)
def kp_L22_From : List (Nat × List Nat) := [(0, [1, 2]), (1, [2]), (4000000, [1, 2]), (4000001, [2])]
def od_L22_From : List (Nat × Ord) := [(1, (.one 0 (.one 1 (.one 2 (.one 3 (.one 5 (.one 6 (.one 4 (.one 7 (.one 100008 .nil))))))))))]
noncomputable def E_L22_From : Env := ⟨0, 0, et_L22_From, tt_L22_From, fns_L22_From, [], od_L22_From, kp_L22_From, none, []⟩
set_option maxRecDepth 100000 in
set_option maxHeartbeats 40000000 in
theorem c_L22_From : PCon Go.Proofs.Tryd.prog 19 lf_L22_From := by
  rw [lq_L22_From]
  refine lift_conR (E := E_L22_From) (c := bodyOf Tryd.f19) (nt := 11) (rs := [.cell 2 28]) (ts := [28]) (EnvC.sub (off := 0) (nt := 0) (ords := od_L22_From) (keep := kp_L22_From) (yl := none) tt_ok et_ok fns_L22_From_ok (PrsOk.nil _) (ItsOk.nil _) tt_L22_From_ok et_L22_From_ok) (PrOk.of mixed_ok) Go.Proofs.Tryd.func19 rfl (by decide) rfl rfl rfl (pureR_one (e := (.pair (.pair .bool (.pair (.int .i64) .unit)) (.pair (.pair (.sl (.int .i64)) (.pair (.sl (.int .i64)) .unit)) (.pair (.int .i64) .unit)))) rfl) ?_
  intro x r hw hs
  repeat'
    (try (conv => whnf)
     first
       | (with_reducible have hs := letv_out hs)
       | (refine draw_and (by kernel_rfl) ?_)
       | (refine both_mk ?_ ?_)
       | (refine br_bool (fun h => ?_) (fun h => ?_) <;> first | have hs := cT h hs | have hs := cF h hs)
       | (refine bind_elim hs fun v hb hs => ?_; first | refine ck_L21_From rfl hb ?_)
       | refine chk_elim hs fun hs => ?_
       | (have hs := letv_out hs)
       | exact fin_some hs rfl
       | (intro b hb; first | have hs := nilq_elim hs b hb | have hs := nilqn_elim hs b hb)
       | (have hs := cT rfl hs)
       | (have hs := cF rfl hs)
       | exact (none_ne hs).elim)
theorem cq_L22_From : PCon Go.Proofs.Tryd.prog 19 (liftF (.pair (.pair (.pair .bool (.pair (.int .i64) .unit)) (.pair (.pair (.arr 4 (.int .u64)) (.pair (.arr 4 (.int .u64)) .unit)) (.pair (.int .i64) .unit))) .unit) (unpack (.pair (.pair .bool (.pair (.int .i64) .unit)) (.pair (.pair (.sl (.int .i64)) (.pair (.sl (.int .i64)) .unit)) (.pair (.int .i64) .unit)))) (fun x => L22_From x.1)) := lq_L22_From ▸ c_L22_From
end Go.Proofs.YtkpobmmabmelfaaDoorV
