import Derived.Test.YtkpobmmabmelfaaDoorVcTab
import Derived.Test.YtkpobmmabmelfaaDoorDL23
import Derived.Test.YtkpobmmabmelfaaDoorCL22
import Derived.Test.YtkpobmmabmelfaaDoorCR02
import Derived.Test.YtkpobmmabmelfaaDoorCR23
import Derived.Test.YtkpobmmabmelfaaDoorCbarrier
import Derived.Test.YtkpobmmabmelfaaDoorCbartab
import Derived.Test.YtkpobmmabmelfaaDoorCbitset
namespace Go.Proofs.YtkpobmmabmelfaaDoorV
open Go.Proofs
set_option linter.unusedVariables false
noncomputable def lf_L23_Small : List AV → Option AV := liftF (.pair (.sl (.pair (.pair .bool (.pair (.int .i64) .unit)) (.pair (.pair (.sl (.int .i64)) (.pair (.sl (.int .i64)) .unit)) (.pair (.int .i64) .unit)))) .unit) (unpack .bool) (fun x => L23_Small x.1)
theorem lq_L23_Small : lf_L23_Small = liftF (.pair (.sl (.pair (.pair .bool (.pair (.int .i64) .unit)) (.pair (.pair (.sl (.int .i64)) (.pair (.sl (.int .i64)) .unit)) (.pair (.int .i64) .unit)))) .unit) (unpack .bool) (fun x => L23_Small x.1) := rfl
attribute [irreducible] lf_L23_Small
theorem ck_L23_Small {vs : List AV} {k : AV → Prop} {x : ((.pair (.sl (.pair (.pair .bool (.pair (.int .i64) .unit)) (.pair (.pair (.sl (.int .i64)) (.pair (.sl (.int .i64)) .unit)) (.pair (.int .i64) .unit)))) .unit) : Ty).den} {v : Bool} (h1 : pks (.pair (.sl (.pair (.pair .bool (.pair (.int .i64) .unit)) (.pair (.pair (.sl (.int .i64)) (.pair (.sl (.int .i64)) .unit)) (.pair (.int .i64) .unit)))) .unit) vs = some x) (h2 : L23_Small x.1 = some v) (h3 : k ((unpack .bool) v)) : callK (lf_L23_Small vs) k := by
  rw [lq_L23_Small]; exact callK_lift h1 h2 h3
def tt_L23_Small : List (Nat × Ty) := [(3, .int .i64), (4, .bool), (28, .pair (.pair .bool (.pair (.int .i64) .unit)) (.pair (.pair (.sl (.int .i64)) (.pair (.sl (.int .i64)) .unit)) (.pair (.int .i64) .unit))), (68, .sl (.pair (.pair .bool (.pair (.int .i64) .unit)) (.pair (.pair (.sl (.int .i64)) (.pair (.sl (.int .i64)) .unit)) (.pair (.int .i64) .unit))))]
def et_L23_Small : List (Nat × Nat) := [(68, 28)]
theorem tt_L23_Small_ok : subT tt tt_L23_Small = true := by kernel_rfl
theorem et_L23_Small_ok : subE et et_L23_Small = true := by kernel_rfl
noncomputable def fns_L23_Small : List (Nat × (List AV → Option AV)) := [(10, lf_L22_Small)]
theorem fns_L23_Small_ok : FnsOk Go.Proofs.Tryd.prog fns_L23_Small := FnsOk.cons c_L22_Small (FnsOk.nil _)
def L23_Small_S1 (u0 : AV) (u1 : AV) (u2 : AV) (x1 : Int) : St :=
  ⟨[(0, u0), (5, u1), (6, u2), (7, .int .i64 x1)], [], none⟩
def L23_Small_M1 : Msk := ⟨[0, 5, 6, 7], [], [], [], [], [], [], [], []⟩
def kp_L23_Small : List (Nat × List Nat) := [(0, [0]), (1, [0, 5, 6, 7]), (2, [0, 5, 6, 7, 8]), (3, [0, 4, 5, 6, 7]), (4, [0, 5, 6, 7, 13]), (5, [2]), (6, [0, 5, 6, 7]), (7, [2]), (4000000, []), (4000001, []), (4000002, []), (4000003, [4]), (4000004, []), (4000005, []), (4000006, []), (4000007, [])]
def od_L23_Small : List (Nat × Ord) := []
noncomputable def E_L23_Small : Env := ⟨0, 0, et_L23_Small, tt_L23_Small, fns_L23_Small, [], od_L23_Small, kp_L23_Small, none, []⟩
set_option maxRecDepth 100000 in
set_option maxHeartbeats 40000000 in
theorem c_L23_Small : PCon Go.Proofs.Tryd.prog 37 lf_L23_Small := by
  rw [lq_L23_Small]
  refine lift_conR (E := E_L23_Small) (c := bodyOf Tryd.f37) (nt := 18) (rs := [.tmp 2]) (ts := [4]) (EnvC.sub (off := 0) (nt := 0) (ords := od_L23_Small) (keep := kp_L23_Small) (yl := none) tt_ok et_ok fns_L23_Small_ok (PrsOk.nil _) (ItsOk.nil _) tt_L23_Small_ok et_L23_Small_ok) (PrOk.of mixed_ok) Go.Proofs.Tryd.func37 rfl (by decide) rfl rfl rfl (pureR_one (e := .bool) rfl) ?_
  intro x r hw hs
  repeat'
    (try (conv => whnf)
     first
       | (with_reducible have hs := letv_out hs)
       | (refine draw_and (by kernel_rfl) ?_)
       | (refine both_mk ?_ ?_)
       | (refine br_bool (fun h => ?_) (fun h => ?_) <;> first | have hs := cT h hs | have hs := cF h hs)
       | (refine bind_elim hs fun v hb hs => ?_; first | refine ck_L22_Small rfl hb ?_)
       | refine chk_elim hs fun hs => ?_
       | (have hs := letv_out hs)
       | exact fin_some hs rfl
       | (intro b hb; first | have hs := nilq_elim hs b hb | have hs := nilqn_elim hs b hb)
       | exact hJ1 _ hs
       | (have hs := cT rfl hs)
       | (have hs := cF rfl hs)
       | (refine vc_loopR (L23_Small_S1 _ _ _) L23_Small_M1 hs rfl ?_; intro J1 k1 x1 hJ1 hs)
       | exact (none_ne hs).elim)
theorem cq_L23_Small : PCon Go.Proofs.Tryd.prog 37 (liftF (.pair (.sl (.pair (.pair .bool (.pair (.int .i64) .unit)) (.pair (.pair (.sl (.int .i64)) (.pair (.sl (.int .i64)) .unit)) (.pair (.int .i64) .unit)))) .unit) (unpack .bool) (fun x => L23_Small x.1)) := lq_L23_Small ▸ c_L23_Small
noncomputable def lf_L23_alive : List AV → Option AV := liftF .unit (unpack .bool) (fun x => L23_alive)
theorem lq_L23_alive : lf_L23_alive = liftF .unit (unpack .bool) (fun x => L23_alive) := rfl
attribute [irreducible] lf_L23_alive
theorem ck_L23_alive {vs : List AV} {k : AV → Prop} {x : (.unit : Ty).den} {v : Bool} (h1 : pks .unit vs = some x) (h2 : L23_alive = some v) (h3 : k ((unpack .bool) v)) : callK (lf_L23_alive vs) k := by
  rw [lq_L23_alive]; exact callK_lift h1 h2 h3
def tt_L23_alive : List (Nat × Ty) := [(3, .int .i64), (4, .bool), (23, .pair .bool (.pair (.int .i64) .unit)), (24, .sl (.int .i64)), (34, .arr 4 (.int .u64)), (36, .pair (.arr 4 (.int .u64)) (.pair (.arr 4 (.int .u64)) .unit)), (38, .pair (.pair .bool (.pair (.int .i64) .unit)) (.pair (.pair (.arr 4 (.int .u64)) (.pair (.arr 4 (.int .u64)) .unit)) (.pair (.int .i64) .unit))), (40, .int .i64), (69, .sl (.pair (.int .i64) (.pair (.int .i64) (.pair (.int .i64) (.pair (.int .i64) (.pair (.int .i64) .unit)))))), (74, .sl (.pair (.pair .bool (.pair (.int .i64) .unit)) (.pair (.pair (.arr 4 (.int .u64)) (.pair (.arr 4 (.int .u64)) .unit)) (.pair (.int .i64) .unit)))), (96, .sl (.pair .bool (.pair (.int .i64) .unit))), (127, .pair (.int .i64) (.pair (.int .i64) (.pair (.int .i64) (.pair (.int .i64) (.pair (.int .i64) .unit)))))]
def et_L23_alive : List (Nat × Nat) := [(24, 3), (69, 127), (74, 38), (96, 23)]
theorem tt_L23_alive_ok : subT tt tt_L23_alive = true := by kernel_rfl
theorem et_L23_alive_ok : subE et et_L23_alive = true := by kernel_rfl
noncomputable def fns_L23_alive : List (Nat × (List AV → Option AV)) := [(20, lf_R02_Same), (41, lf_bartab_Offer), (45, lf_bartab_Leave), (47, lf_bartab_Quit), (49, lf_bartab_Enrol), (51, lf_bartab_Resign), (53, lf_bartab_Fire), (55, lf_bartab_Ready), (57, lf_bartab_New)]
theorem fns_L23_alive_ok : FnsOk Go.Proofs.Tryd.prog fns_L23_alive := FnsOk.cons c_R02_Same (FnsOk.cons c_bartab_Offer (FnsOk.cons c_bartab_Leave (FnsOk.cons c_bartab_Quit (FnsOk.cons c_bartab_Enrol (FnsOk.cons c_bartab_Resign (FnsOk.cons c_bartab_Fire (FnsOk.cons c_bartab_Ready (FnsOk.cons c_bartab_New (FnsOk.nil _)))))))))
def kp_L23_alive : List (Nat × List Nat) := [(0, []), (1, [1, 2, 3]), (2, [2, 3, 4, 5]), (3, [2, 3, 5, 6, 7]), (4, [2, 3, 5, 6, 7, 9, 10]), (5, [2, 3, 5, 7, 9, 10, 11, 13]), (6, [2, 3, 5, 7, 9, 10, 11, 13, 14, 15, 16]), (7, [2, 3, 5, 7, 9, 10, 11, 13, 14, 15, 16, 18]), (8, [0]), (4000000, []), (4000001, []), (4000002, []), (4000003, []), (4000004, []), (4000005, []), (4000006, []), (4000007, []), (4000008, [])]
def od_L23_alive : List (Nat × Ord) := [(1000041, .nil), (1000057, .nil)]
noncomputable def E_L23_alive : Env := ⟨0, 0, et_L23_alive, tt_L23_alive, fns_L23_alive, [], od_L23_alive, kp_L23_alive, none, []⟩
set_option maxRecDepth 100000 in
set_option maxHeartbeats 40000000 in
theorem c_L23_alive : PCon Go.Proofs.Tryd.prog 38 lf_L23_alive := by
  rw [lq_L23_alive]
  refine lift_conR (E := E_L23_alive) (c := bodyOf Tryd.f38) (nt := 127) (rs := [.tmp 0]) (ts := [4]) (EnvC.sub (off := 0) (nt := 0) (ords := od_L23_alive) (keep := kp_L23_alive) (yl := none) tt_ok et_ok fns_L23_alive_ok (PrsOk.nil _) (ItsOk.nil _) tt_L23_alive_ok et_L23_alive_ok) (PrOk.of mixed_ok) Go.Proofs.Tryd.func38 rfl (by decide) rfl rfl rfl (pureR_one (e := .bool) rfl) ?_
  intro x r hw hs
  repeat'
    (try (conv => whnf)
     first
       | (with_reducible have hs := letv_out hs)
       | (refine draw_and (by kernel_rfl) ?_)
       | (refine both_mk ?_ ?_)
       | (refine br_bool (fun h => ?_) (fun h => ?_) <;> first | have hs := cT h hs | have hs := cF h hs)
       | (refine bind_elim hs fun v hb hs => ?_; first | refine ck_R02_Same rfl hb ?_ | refine ck_bartab_Offer rfl hb ?_ | refine ck_bartab_Leave rfl hb ?_ | refine ck_bartab_Quit rfl hb ?_ | refine ck_bartab_Enrol rfl hb ?_ | refine ck_bartab_Resign rfl hb ?_ | refine ck_bartab_Fire rfl hb ?_ | refine ck_bartab_Ready rfl hb ?_ | refine ck_bartab_New rfl hb ?_)
       | refine chk_elim hs fun hs => ?_
       | (have hs := letv_out hs)
       | exact fin_some hs rfl
       | (intro b hb; first | have hs := nilq_elim hs b hb | have hs := nilqn_elim hs b hb)
       | (have hs := cT rfl hs)
       | (have hs := cF rfl hs)
       | exact (none_ne hs).elim)
theorem cq_L23_alive : PCon Go.Proofs.Tryd.prog 38 (liftF .unit (unpack .bool) (fun x => L23_alive)) := lq_L23_alive ▸ c_L23_alive
noncomputable def lf_L23_Plain : List AV → Option AV := liftF (.pair (.sl (.pair (.pair .bool (.pair (.int .i64) .unit)) (.pair (.pair (.sl (.int .i64)) (.pair (.sl (.int .i64)) .unit)) (.pair (.int .i64) .unit)))) .unit) (unpack (.sl (.pair (.pair .bool (.pair (.int .i64) .unit)) (.pair (.pair (.sl (.int .i64)) (.pair (.sl (.int .i64)) .unit)) (.pair (.int .i64) .unit))))) (fun x => L23_Plain x.1)
theorem lq_L23_Plain : lf_L23_Plain = liftF (.pair (.sl (.pair (.pair .bool (.pair (.int .i64) .unit)) (.pair (.pair (.sl (.int .i64)) (.pair (.sl (.int .i64)) .unit)) (.pair (.int .i64) .unit)))) .unit) (unpack (.sl (.pair (.pair .bool (.pair (.int .i64) .unit)) (.pair (.pair (.sl (.int .i64)) (.pair (.sl (.int .i64)) .unit)) (.pair (.int .i64) .unit))))) (fun x => L23_Plain x.1) := rfl
attribute [irreducible] lf_L23_Plain
theorem ck_L23_Plain {vs : List AV} {k : AV → Prop} {x : ((.pair (.sl (.pair (.pair .bool (.pair (.int .i64) .unit)) (.pair (.pair (.sl (.int .i64)) (.pair (.sl (.int .i64)) .unit)) (.pair (.int .i64) .unit)))) .unit) : Ty).den} {v : List ((Bool × Int × Unit) × ((List Int) × (List Int) × Unit) × Int × Unit)} (h1 : pks (.pair (.sl (.pair (.pair .bool (.pair (.int .i64) .unit)) (.pair (.pair (.sl (.int .i64)) (.pair (.sl (.int .i64)) .unit)) (.pair (.int .i64) .unit)))) .unit) vs = some x) (h2 : L23_Plain x.1 = some v) (h3 : k ((unpack (.sl (.pair (.pair .bool (.pair (.int .i64) .unit)) (.pair (.pair (.sl (.int .i64)) (.pair (.sl (.int .i64)) .unit)) (.pair (.int .i64) .unit))))) v)) : callK (lf_L23_Plain vs) k := by
  rw [lq_L23_Plain]; exact callK_lift h1 h2 h3
def tt_L23_Plain : List (Nat × Ty) := [(3, .int .i64), (28, .pair (.pair .bool (.pair (.int .i64) .unit)) (.pair (.pair (.sl (.int .i64)) (.pair (.sl (.int .i64)) .unit)) (.pair (.int .i64) .unit))), (68, .sl (.pair (.pair .bool (.pair (.int .i64) .unit)) (.pair (.pair (.sl (.int .i64)) (.pair (.sl (.int .i64)) .unit)) (.pair (.int .i64) .unit))))]
def et_L23_Plain : List (Nat × Nat) := [(68, 28)]
theorem tt_L23_Plain_ok : subT tt tt_L23_Plain = true := by kernel_rfl
theorem et_L23_Plain_ok : subE et et_L23_Plain = true := by kernel_rfl
noncomputable def fns_L23_Plain : List (Nat × (List AV → Option AV)) := [(12, lf_L22_Plain)]
theorem fns_L23_Plain_ok : FnsOk Go.Proofs.Tryd.prog fns_L23_Plain := FnsOk.cons c_L22_Plain (FnsOk.nil _)
def L23_Plain_S1 (u0 : AV) (u1 : AV) (u2 : AV) (x1 : Int × (List ((Bool × Int × Unit) × ((List Int) × (List Int) × Unit) × Int × Unit))) : St :=
  ⟨[(3, u0), (6, u1), (7, u2), (8, .int .i64 x1.1)], [(16, .row 28 (.pair (.pair .bool (.pair (.int .i64) .unit)) (.pair (.pair (.sl (.int .i64)) (.pair (.sl (.int .i64)) .unit)) (.pair (.int .i64) .unit))) x1.2 false)], none⟩
def L23_Plain_M1 : Msk := ⟨[3, 6, 7, 8], [16], [(3, 16, 68)], [], [], [], [], [], []⟩
def kp_L23_Plain : List (Nat × List Nat) := [(0, [0]), (1, [0, 3]), (2, [3, 6, 7, 8]), (3, [3, 6, 7, 8, 9]), (4, [3, 5, 6, 7, 8]), (5, [3, 6, 7, 8]), (6, [3, 6, 7, 8]), (7, [2]), (4000000, []), (4000001, []), (4000002, []), (4000003, [16]), (4000004, [5, 16]), (4000005, [16]), (4000006, [16]), (4000007, [16])]
def od_L23_Plain : List (Nat × Ord) := []
noncomputable def E_L23_Plain : Env := ⟨0, 0, et_L23_Plain, tt_L23_Plain, fns_L23_Plain, [], od_L23_Plain, kp_L23_Plain, none, []⟩
set_option maxRecDepth 100000 in
set_option maxHeartbeats 40000000 in
theorem c_L23_Plain : PCon Go.Proofs.Tryd.prog 39 lf_L23_Plain := by
  rw [lq_L23_Plain]
  refine lift_conR (E := E_L23_Plain) (c := bodyOf Tryd.f39) (nt := 19) (rs := [.tmp 2]) (ts := [68]) (EnvC.sub (off := 0) (nt := 0) (ords := od_L23_Plain) (keep := kp_L23_Plain) (yl := none) tt_ok et_ok fns_L23_Plain_ok (PrsOk.nil _) (ItsOk.nil _) tt_L23_Plain_ok et_L23_Plain_ok) (PrOk.of mixed_ok) Go.Proofs.Tryd.func39 rfl (by decide) rfl rfl rfl (pureR_one (e := (.sl (.pair (.pair .bool (.pair (.int .i64) .unit)) (.pair (.pair (.sl (.int .i64)) (.pair (.sl (.int .i64)) .unit)) (.pair (.int .i64) .unit))))) rfl) ?_
  intro x r hw hs
  repeat'
    (try (conv => whnf)
     first
       | (with_reducible have hs := letv_out hs)
       | (refine draw_and (by kernel_rfl) ?_)
       | (refine both_mk ?_ ?_)
       | (refine br_bool (fun h => ?_) (fun h => ?_) <;> first | have hs := cT h hs | have hs := cF h hs)
       | (refine bind_elim hs fun v hb hs => ?_; first | refine ck_L22_Plain rfl hb ?_)
       | refine chk_elim hs fun hs => ?_
       | (have hs := letv_out hs)
       | exact fin_some hs rfl
       | (intro b hb; first | have hs := nilq_elim hs b hb | have hs := nilqn_elim hs b hb)
       | exact hJ1 _ hs
       | (have hs := cT rfl hs)
       | (have hs := cF rfl hs)
       | (refine vc_loopR (L23_Plain_S1 _ _ _) L23_Plain_M1 hs rfl ?_; intro J1 k1 x1 hJ1 hs)
       | exact (none_ne hs).elim)
theorem cq_L23_Plain : PCon Go.Proofs.Tryd.prog 39 (liftF (.pair (.sl (.pair (.pair .bool (.pair (.int .i64) .unit)) (.pair (.pair (.sl (.int .i64)) (.pair (.sl (.int .i64)) .unit)) (.pair (.int .i64) .unit)))) .unit) (unpack (.sl (.pair (.pair .bool (.pair (.int .i64) .unit)) (.pair (.pair (.sl (.int .i64)) (.pair (.sl (.int .i64)) .unit)) (.pair (.int .i64) .unit))))) (fun x => L23_Plain x.1)) := lq_L23_Plain ▸ c_L23_Plain
noncomputable def lf_L23_To : List AV → Option AV := liftF (.pair (.sl (.pair (.pair .bool (.pair (.int .i64) .unit)) (.pair (.pair (.sl (.int .i64)) (.pair (.sl (.int .i64)) .unit)) (.pair (.int .i64) .unit)))) .unit) (unpack (.sl (.pair (.pair .bool (.pair (.int .i64) .unit)) (.pair (.pair (.arr 4 (.int .u64)) (.pair (.arr 4 (.int .u64)) .unit)) (.pair (.int .i64) .unit))))) (fun x => L23_To x.1)
theorem lq_L23_To : lf_L23_To = liftF (.pair (.sl (.pair (.pair .bool (.pair (.int .i64) .unit)) (.pair (.pair (.sl (.int .i64)) (.pair (.sl (.int .i64)) .unit)) (.pair (.int .i64) .unit)))) .unit) (unpack (.sl (.pair (.pair .bool (.pair (.int .i64) .unit)) (.pair (.pair (.arr 4 (.int .u64)) (.pair (.arr 4 (.int .u64)) .unit)) (.pair (.int .i64) .unit))))) (fun x => L23_To x.1) := rfl
attribute [irreducible] lf_L23_To
theorem ck_L23_To {vs : List AV} {k : AV → Prop} {x : ((.pair (.sl (.pair (.pair .bool (.pair (.int .i64) .unit)) (.pair (.pair (.sl (.int .i64)) (.pair (.sl (.int .i64)) .unit)) (.pair (.int .i64) .unit)))) .unit) : Ty).den} {v : List ((Bool × Int × Unit) × ((List Int) × (List Int) × Unit) × Int × Unit)} (h1 : pks (.pair (.sl (.pair (.pair .bool (.pair (.int .i64) .unit)) (.pair (.pair (.sl (.int .i64)) (.pair (.sl (.int .i64)) .unit)) (.pair (.int .i64) .unit)))) .unit) vs = some x) (h2 : L23_To x.1 = some v) (h3 : k ((unpack (.sl (.pair (.pair .bool (.pair (.int .i64) .unit)) (.pair (.pair (.arr 4 (.int .u64)) (.pair (.arr 4 (.int .u64)) .unit)) (.pair (.int .i64) .unit))))) v)) : callK (lf_L23_To vs) k := by
  rw [lq_L23_To]; exact callK_lift h1 h2 h3
def tt_L23_To : List (Nat × Ty) := [(3, .int .i64), (28, .pair (.pair .bool (.pair (.int .i64) .unit)) (.pair (.pair (.sl (.int .i64)) (.pair (.sl (.int .i64)) .unit)) (.pair (.int .i64) .unit))), (68, .sl (.pair (.pair .bool (.pair (.int .i64) .unit)) (.pair (.pair (.sl (.int .i64)) (.pair (.sl (.int .i64)) .unit)) (.pair (.int .i64) .unit)))), (74, .sl (.pair (.pair .bool (.pair (.int .i64) .unit)) (.pair (.pair (.arr 4 (.int .u64)) (.pair (.arr 4 (.int .u64)) .unit)) (.pair (.int .i64) .unit))))]
def et_L23_To : List (Nat × Nat) := [(68, 28), (74, 38)]
theorem tt_L23_To_ok : subT tt tt_L23_To = true := by kernel_rfl
theorem et_L23_To_ok : subE et et_L23_To = true := by kernel_rfl
noncomputable def fns_L23_To : List (Nat × (List AV → Option AV)) := [(13, lf_L22_To)]
theorem fns_L23_To_ok : FnsOk Go.Proofs.Tryd.prog fns_L23_To := FnsOk.cons c_L22_To (FnsOk.nil _)
def L23_To_S1 (u0 : AV) (u1 : AV) (u2 : AV) (x1 : Int × (List ((Bool × Int × Unit) × ((List Int) × (List Int) × Unit) × Int × Unit))) : St :=
  ⟨[(3, u0), (6, u1), (7, u2), (8, .int .i64 x1.1)], [(16, .row 38 (.pair (.pair .bool (.pair (.int .i64) .unit)) (.pair (.pair (.arr 4 (.int .u64)) (.pair (.arr 4 (.int .u64)) .unit)) (.pair (.int .i64) .unit))) x1.2 false)], none⟩
def L23_To_M1 : Msk := ⟨[3, 6, 7, 8], [16], [(3, 16, 74)], [], [], [], [], [], []⟩
def kp_L23_To : List (Nat × List Nat) := [(0, [0]), (1, [0, 3]), (2, [3, 6, 7, 8]), (3, [3, 6, 7, 8, 9]), (4, [3, 5, 6, 7, 8]), (5, [3, 6, 7, 8]), (6, [3, 6, 7, 8]), (7, [2]), (4000000, []), (4000001, []), (4000002, []), (4000003, [16]), (4000004, [5, 16]), (4000005, [16]), (4000006, [16]), (4000007, [16])]
def od_L23_To : List (Nat × Ord) := []
noncomputable def E_L23_To : Env := ⟨0, 0, et_L23_To, tt_L23_To, fns_L23_To, [], od_L23_To, kp_L23_To, none, []⟩
set_option maxRecDepth 100000 in
set_option maxHeartbeats 40000000 in
theorem c_L23_To : PCon Go.Proofs.Tryd.prog 40 lf_L23_To := by
  rw [lq_L23_To]
  refine lift_conR (E := E_L23_To) (c := bodyOf Tryd.f40) (nt := 19) (rs := [.tmp 2]) (ts := [74]) (EnvC.sub (off := 0) (nt := 0) (ords := od_L23_To) (keep := kp_L23_To) (yl := none) tt_ok et_ok fns_L23_To_ok (PrsOk.nil _) (ItsOk.nil _) tt_L23_To_ok et_L23_To_ok) (PrOk.of mixed_ok) Go.Proofs.Tryd.func40 rfl (by decide) rfl rfl rfl (pureR_one (e := (.sl (.pair (.pair .bool (.pair (.int .i64) .unit)) (.pair (.pair (.arr 4 (.int .u64)) (.pair (.arr 4 (.int .u64)) .unit)) (.pair (.int .i64) .unit))))) rfl) ?_
  intro x r hw hs
  repeat'
    (try (conv => whnf)
     first
       | (with_reducible have hs := letv_out hs)
       | (refine draw_and (by kernel_rfl) ?_)
       | (refine both_mk ?_ ?_)
       | (refine br_bool (fun h => ?_) (fun h => ?_) <;> first | have hs := cT h hs | have hs := cF h hs)
       | (refine bind_elim hs fun v hb hs => ?_; first | refine ck_L22_To rfl hb ?_)
       | refine chk_elim hs fun hs => ?_
       | (have hs := letv_out hs)
       | exact fin_some hs rfl
       | (intro b hb; first | have hs := nilq_elim hs b hb | have hs := nilqn_elim hs b hb)
       | exact hJ1 _ hs
       | (have hs := cT rfl hs)
       | (have hs := cF rfl hs)
       | (refine vc_loopR (L23_To_S1 _ _ _) L23_To_M1 hs rfl ?_; intro J1 k1 x1 hJ1 hs)
       | exact (none_ne hs).elim)
theorem cq_L23_To : PCon Go.Proofs.Tryd.prog 40 (liftF (.pair (.sl (.pair (.pair .bool (.pair (.int .i64) .unit)) (.pair (.pair (.sl (.int .i64)) (.pair (.sl (.int .i64)) .unit)) (.pair (.int .i64) .unit)))) .unit) (unpack (.sl (.pair (.pair .bool (.pair (.int .i64) .unit)) (.pair (.pair (.arr 4 (.int .u64)) (.pair (.arr 4 (.int .u64)) .unit)) (.pair (.int .i64) .unit))))) (fun x => L23_To x.1)) := lq_L23_To ▸ c_L23_To
noncomputable def lf_L23_Same : List AV → Option AV := liftF (.pair (.sl (.pair (.pair .bool (.pair (.int .i64) .unit)) (.pair (.pair (.sl (.int .i64)) (.pair (.sl (.int .i64)) .unit)) (.pair (.int .i64) .unit)))) (.pair (.sl (.pair (.pair .bool (.pair (.int .i64) .unit)) (.pair (.pair (.sl (.int .i64)) (.pair (.sl (.int .i64)) .unit)) (.pair (.int .i64) .unit)))) .unit)) (unpack .bool) (fun x => L23_Same x.1 x.2.1)
theorem lq_L23_Same : lf_L23_Same = liftF (.pair (.sl (.pair (.pair .bool (.pair (.int .i64) .unit)) (.pair (.pair (.sl (.int .i64)) (.pair (.sl (.int .i64)) .unit)) (.pair (.int .i64) .unit)))) (.pair (.sl (.pair (.pair .bool (.pair (.int .i64) .unit)) (.pair (.pair (.sl (.int .i64)) (.pair (.sl (.int .i64)) .unit)) (.pair (.int .i64) .unit)))) .unit)) (unpack .bool) (fun x => L23_Same x.1 x.2.1) := rfl
attribute [irreducible] lf_L23_Same
theorem ck_L23_Same {vs : List AV} {k : AV → Prop} {x : ((.pair (.sl (.pair (.pair .bool (.pair (.int .i64) .unit)) (.pair (.pair (.sl (.int .i64)) (.pair (.sl (.int .i64)) .unit)) (.pair (.int .i64) .unit)))) (.pair (.sl (.pair (.pair .bool (.pair (.int .i64) .unit)) (.pair (.pair (.sl (.int .i64)) (.pair (.sl (.int .i64)) .unit)) (.pair (.int .i64) .unit)))) .unit)) : Ty).den} {v : Bool} (h1 : pks (.pair (.sl (.pair (.pair .bool (.pair (.int .i64) .unit)) (.pair (.pair (.sl (.int .i64)) (.pair (.sl (.int .i64)) .unit)) (.pair (.int .i64) .unit)))) (.pair (.sl (.pair (.pair .bool (.pair (.int .i64) .unit)) (.pair (.pair (.sl (.int .i64)) (.pair (.sl (.int .i64)) .unit)) (.pair (.int .i64) .unit)))) .unit)) vs = some x) (h2 : L23_Same x.1 x.2.1 = some v) (h3 : k ((unpack .bool) v)) : callK (lf_L23_Same vs) k := by
  rw [lq_L23_Same]; exact callK_lift h1 h2 h3
def tt_L23_Same : List (Nat × Ty) := [(3, .int .i64), (4, .bool), (28, .pair (.pair .bool (.pair (.int .i64) .unit)) (.pair (.pair (.sl (.int .i64)) (.pair (.sl (.int .i64)) .unit)) (.pair (.int .i64) .unit))), (68, .sl (.pair (.pair .bool (.pair (.int .i64) .unit)) (.pair (.pair (.sl (.int .i64)) (.pair (.sl (.int .i64)) .unit)) (.pair (.int .i64) .unit))))]
def et_L23_Same : List (Nat × Nat) := [(68, 28)]
theorem tt_L23_Same_ok : subT tt tt_L23_Same = true := by kernel_rfl
theorem et_L23_Same_ok : subE et et_L23_Same = true := by kernel_rfl
noncomputable def fns_L23_Same : List (Nat × (List AV → Option AV)) := [(18, lf_L22_Same)]
theorem fns_L23_Same_ok : FnsOk Go.Proofs.Tryd.prog fns_L23_Same := FnsOk.cons c_L22_Same (FnsOk.nil _)
def L23_Same_S1 (u0 : AV) (u1 : AV) (u2 : AV) (x1 : Int) : St :=
  ⟨[(0, u0), (1, u1), (12, u2), (13, .int .i64 x1)], [], none⟩
def L23_Same_M1 : Msk := ⟨[0, 1, 12, 13], [], [], [], [], [], [], [], []⟩
def kp_L23_Same : List (Nat × List Nat) := [(0, [0, 1]), (1, [0, 1, 10]), (2, [4]), (3, [0, 1, 12, 13]), (4, [0, 1, 12, 13, 14]), (5, [0, 1, 5, 12, 13]), (6, [0, 1, 12, 13, 25]), (7, [4]), (8, [0, 1, 12, 13]), (9, [4]), (4000000, []), (4000001, []), (4000002, []), (4000003, []), (4000004, []), (4000005, []), (4000006, []), (4000007, []), (4000008, []), (4000009, [])]
def od_L23_Same : List (Nat × Ord) := [(6, (.one 0 (.one 1 (.one 2 (.one 3 (.one 4 (.one 5 (.one 6 (.one 7 (.one 100008 (.one 9 .nil)))))))))))]
noncomputable def E_L23_Same : Env := ⟨0, 0, et_L23_Same, tt_L23_Same, fns_L23_Same, [], od_L23_Same, kp_L23_Same, none, []⟩
set_option maxRecDepth 100000 in
set_option maxHeartbeats 40000000 in
theorem c_L23_Same : PCon Go.Proofs.Tryd.prog 43 lf_L23_Same := by
  rw [lq_L23_Same]
  refine lift_conR (E := E_L23_Same) (c := bodyOf Tryd.f43) (nt := 27) (rs := [.tmp 4]) (ts := [4]) (EnvC.sub (off := 0) (nt := 0) (ords := od_L23_Same) (keep := kp_L23_Same) (yl := none) tt_ok et_ok fns_L23_Same_ok (PrsOk.nil _) (ItsOk.nil _) tt_L23_Same_ok et_L23_Same_ok) (PrOk.of mixed_ok) Go.Proofs.Tryd.func43 rfl (by decide) rfl rfl rfl (pureR_one (e := .bool) rfl) ?_
  intro x r hw hs
  repeat'
    (try (conv => whnf)
     first
       | (with_reducible have hs := letv_out hs)
       | (refine draw_and (by kernel_rfl) ?_)
       | (refine both_mk ?_ ?_)
       | (refine br_bool (fun h => ?_) (fun h => ?_) <;> first | have hs := cT h hs | have hs := cF h hs)
       | (refine bind_elim hs fun v hb hs => ?_; first | refine ck_L22_Same rfl hb ?_)
       | refine chk_elim hs fun hs => ?_
       | (have hs := letv_out hs)
       | exact fin_some hs rfl
       | (intro b hb; first | have hs := nilq_elim hs b hb | have hs := nilqn_elim hs b hb)
       | exact hJ1 _ hs
       | (have hs := cT rfl hs)
       | (have hs := cF rfl hs)
       | (refine vc_loopR (L23_Same_S1 _ _ _) L23_Same_M1 hs rfl ?_; intro J1 k1 x1 hJ1 hs)
       | exact (none_ne hs).elim)
theorem cq_L23_Same : PCon Go.Proofs.Tryd.prog 43 (liftF (.pair (.sl (.pair (.pair .bool (.pair (.int .i64) .unit)) (.pair (.pair (.sl (.int .i64)) (.pair (.sl (.int .i64)) .unit)) (.pair (.int .i64) .unit)))) (.pair (.sl (.pair (.pair .bool (.pair (.int .i64) .unit)) (.pair (.pair (.sl (.int .i64)) (.pair (.sl (.int .i64)) .unit)) (.pair (.int .i64) .unit)))) .unit)) (unpack .bool) (fun x => L23_Same x.1 x.2.1)) := lq_L23_Same ▸ c_L23_Same
noncomputable def lf_L23_From : List AV → Option AV := liftF (.pair (.sl (.pair (.pair .bool (.pair (.int .i64) .unit)) (.pair (.pair (.arr 4 (.int .u64)) (.pair (.arr 4 (.int .u64)) .unit)) (.pair (.int .i64) .unit)))) .unit) (unpack (.sl (.pair (.pair .bool (.pair (.int .i64) .unit)) (.pair (.pair (.sl (.int .i64)) (.pair (.sl (.int .i64)) .unit)) (.pair (.int .i64) .unit))))) (fun x => L23_From x.1)
theorem lq_L23_From : lf_L23_From = liftF (.pair (.sl (.pair (.pair .bool (.pair (.int .i64) .unit)) (.pair (.pair (.arr 4 (.int .u64)) (.pair (.arr 4 (.int .u64)) .unit)) (.pair (.int .i64) .unit)))) .unit) (unpack (.sl (.pair (.pair .bool (.pair (.int .i64) .unit)) (.pair (.pair (.sl (.int .i64)) (.pair (.sl (.int .i64)) .unit)) (.pair (.int .i64) .unit))))) (fun x => L23_From x.1) := rfl
attribute [irreducible] lf_L23_From
theorem ck_L23_From {vs : List AV} {k : AV → Prop} {x : ((.pair (.sl (.pair (.pair .bool (.pair (.int .i64) .unit)) (.pair (.pair (.arr 4 (.int .u64)) (.pair (.arr 4 (.int .u64)) .unit)) (.pair (.int .i64) .unit)))) .unit) : Ty).den} {v : List ((Bool × Int × Unit) × ((List Int) × (List Int) × Unit) × Int × Unit)} (h1 : pks (.pair (.sl (.pair (.pair .bool (.pair (.int .i64) .unit)) (.pair (.pair (.arr 4 (.int .u64)) (.pair (.arr 4 (.int .u64)) .unit)) (.pair (.int .i64) .unit)))) .unit) vs = some x) (h2 : L23_From x.1 = some v) (h3 : k ((unpack (.sl (.pair (.pair .bool (.pair (.int .i64) .unit)) (.pair (.pair (.sl (.int .i64)) (.pair (.sl (.int .i64)) .unit)) (.pair (.int .i64) .unit))))) v)) : callK (lf_L23_From vs) k := by
  rw [lq_L23_From]; exact callK_lift h1 h2 h3
def tt_L23_From : List (Nat × Ty) := [(3, .int .i64), (38, .pair (.pair .bool (.pair (.int .i64) .unit)) (.pair (.pair (.arr 4 (.int .u64)) (.pair (.arr 4 (.int .u64)) .unit)) (.pair (.int .i64) .unit))), (68, .sl (.pair (.pair .bool (.pair (.int .i64) .unit)) (.pair (.pair (.sl (.int .i64)) (.pair (.sl (.int .i64)) .unit)) (.pair (.int .i64) .unit)))), (74, .sl (.pair (.pair .bool (.pair (.int .i64) .unit)) (.pair (.pair (.arr 4 (.int .u64)) (.pair (.arr 4 (.int .u64)) .unit)) (.pair (.int .i64) .unit))))]
def et_L23_From : List (Nat × Nat) := [(68, 28), (74, 38)]
theorem tt_L23_From_ok : subT tt tt_L23_From = true := by kernel_rfl
theorem et_L23_From_ok : subE et et_L23_From = true := by kernel_rfl
noncomputable def fns_L23_From : List (Nat × (List AV → Option AV)) := [(19, lf_L22_From)]
theorem fns_L23_From_ok : FnsOk Go.Proofs.Tryd.prog fns_L23_From := FnsOk.cons c_L22_From (FnsOk.nil _)
def L23_From_S1 (u0 : AV) (u1 : AV) (u2 : AV) (x1 : Int × (List ((Bool × Int × Unit) × ((List Int) × (List Int) × Unit) × Int × Unit))) : St :=
  ⟨[(3, u0), (6, u1), (7, u2), (8, .int .i64 x1.1)], [(16, .row 28 (.pair (.pair .bool (.pair (.int .i64) .unit)) (.pair (.pair (.sl (.int .i64)) (.pair (.sl (.int .i64)) .unit)) (.pair (.int .i64) .unit))) x1.2 false)], none⟩
def L23_From_M1 : Msk := ⟨[3, 6, 7, 8], [16], [(3, 16, 68)], [], [], [], [], [], []⟩
def kp_L23_From : List (Nat × List Nat) := [(0, [0]), (1, [0, 3]), (2, [3, 6, 7, 8]), (3, [3, 6, 7, 8, 9]), (4, [3, 5, 6, 7, 8]), (5, [3, 6, 7, 8]), (6, [3, 6, 7, 8]), (7, [2]), (4000000, []), (4000001, []), (4000002, []), (4000003, [16]), (4000004, [5, 16]), (4000005, [16]), (4000006, [16]), (4000007, [16])]
def od_L23_From : List (Nat × Ord) := []
noncomputable def E_L23_From : Env := ⟨0, 0, et_L23_From, tt_L23_From, fns_L23_From, [], od_L23_From, kp_L23_From, none, []⟩
set_option maxRecDepth 100000 in
set_option maxHeartbeats 40000000 in
theorem c_L23_From : PCon Go.Proofs.Tryd.prog 44 lf_L23_From := by
  rw [lq_L23_From]
  refine lift_conR (E := E_L23_From) (c := bodyOf Tryd.f44) (nt := 19) (rs := [.tmp 2]) (ts := [68]) (EnvC.sub (off := 0) (nt := 0) (ords := od_L23_From) (keep := kp_L23_From) (yl := none) tt_ok et_ok fns_L23_From_ok (PrsOk.nil _) (ItsOk.nil _) tt_L23_From_ok et_L23_From_ok) (PrOk.of mixed_ok) Go.Proofs.Tryd.func44 rfl (by decide) rfl rfl rfl (pureR_one (e := (.sl (.pair (.pair .bool (.pair (.int .i64) .unit)) (.pair (.pair (.sl (.int .i64)) (.pair (.sl (.int .i64)) .unit)) (.pair (.int .i64) .unit))))) rfl) ?_
  intro x r hw hs
  repeat'
    (try (conv => whnf)
     first
       | (with_reducible have hs := letv_out hs)
       | (refine draw_and (by kernel_rfl) ?_)
       | (refine both_mk ?_ ?_)
       | (refine br_bool (fun h => ?_) (fun h => ?_) <;> first | have hs := cT h hs | have hs := cF h hs)
       | (refine bind_elim hs fun v hb hs => ?_; first | refine ck_L22_From rfl hb ?_)
       | refine chk_elim hs fun hs => ?_
       | (have hs := letv_out hs)
       | exact fin_some hs rfl
       | (intro b hb; first | have hs := nilq_elim hs b hb | have hs := nilqn_elim hs b hb)
       | exact hJ1 _ hs
       | (have hs := cT rfl hs)
       | (have hs := cF rfl hs)
       | (refine vc_loopR (L23_From_S1 _ _ _) L23_From_M1 hs rfl ?_; intro J1 k1 x1 hJ1 hs)
       | exact (none_ne hs).elim)
theorem cq_L23_From : PCon Go.Proofs.Tryd.prog 44 (liftF (.pair (.sl (.pair (.pair .bool (.pair (.int .i64) .unit)) (.pair (.pair (.arr 4 (.int .u64)) (.pair (.arr 4 (.int .u64)) .unit)) (.pair (.int .i64) .unit)))) .unit) (unpack (.sl (.pair (.pair .bool (.pair (.int .i64) .unit)) (.pair (.pair (.sl (.int .i64)) (.pair (.sl (.int .i64)) .unit)) (.pair (.int .i64) .unit))))) (fun x => L23_From x.1)) := lq_L23_From ▸ c_L23_From
end Go.Proofs.YtkpobmmabmelfaaDoorV
