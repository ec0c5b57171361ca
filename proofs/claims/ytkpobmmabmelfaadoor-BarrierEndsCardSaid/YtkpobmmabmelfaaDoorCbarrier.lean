import Derived.Test.YtkpobmmabmelfaaDoorVcTab
import Derived.Test.YtkpobmmabmelfaaDoorDbarrier
import Derived.Test.YtkpobmmabmelfaaDoorCphase
import Derived.Test.YtkpobmmabmelfaaDoorCroll
namespace Go.Proofs.YtkpobmmabmelfaaDoorV
open Go.Proofs
set_option linter.unusedVariables false
noncomputable def lf_barrier_Fine : List AV → Option AV := liftF (.pair (.pair (.pair .bool (.pair (.int .i64) .unit)) (.pair (.pair (.arr 4 (.int .u64)) (.pair (.arr 4 (.int .u64)) .unit)) (.pair (.int .i64) .unit))) .unit) (unpack .bool) (fun x => barrier_Fine x.1)
theorem lq_barrier_Fine : lf_barrier_Fine = liftF (.pair (.pair (.pair .bool (.pair (.int .i64) .unit)) (.pair (.pair (.arr 4 (.int .u64)) (.pair (.arr 4 (.int .u64)) .unit)) (.pair (.int .i64) .unit))) .unit) (unpack .bool) (fun x => barrier_Fine x.1) := rfl
attribute [irreducible] lf_barrier_Fine
theorem ck_barrier_Fine {vs : List AV} {k : AV → Prop} {x : ((.pair (.pair (.pair .bool (.pair (.int .i64) .unit)) (.pair (.pair (.arr 4 (.int .u64)) (.pair (.arr 4 (.int .u64)) .unit)) (.pair (.int .i64) .unit))) .unit) : Ty).den} {v : Bool} (h1 : pks (.pair (.pair (.pair .bool (.pair (.int .i64) .unit)) (.pair (.pair (.arr 4 (.int .u64)) (.pair (.arr 4 (.int .u64)) .unit)) (.pair (.int .i64) .unit))) .unit) vs = some x) (h2 : barrier_Fine x.1 = some v) (h3 : k ((unpack .bool) v)) : callK (lf_barrier_Fine vs) k := by
  rw [lq_barrier_Fine]; exact callK_lift h1 h2 h3
def tt_barrier_Fine : List (Nat × Ty) := [(3, .int .i64), (4, .bool), (23, .pair .bool (.pair (.int .i64) .unit)), (36, .pair (.arr 4 (.int .u64)) (.pair (.arr 4 (.int .u64)) .unit)), (38, .pair (.pair .bool (.pair (.int .i64) .unit)) (.pair (.pair (.arr 4 (.int .u64)) (.pair (.arr 4 (.int .u64)) .unit)) (.pair (.int .i64) .unit)))]
def et_barrier_Fine : List (Nat × Nat) := []
theorem tt_barrier_Fine_ok : subT tt tt_barrier_Fine = true := by kernel_rfl
theorem et_barrier_Fine_ok : subE et et_barrier_Fine = true := by kernel_rfl
noncomputable def fns_barrier_Fine : List (Nat × (List AV → Option AV)) := [(78, lf_phase_Fine), (79, lf_roll_Fine)]
theorem fns_barrier_Fine_ok : FnsOk Go.Proofs.Tryd.prog fns_barrier_Fine := FnsOk.cons c_phase_Fine (FnsOk.cons c_roll_Fine (FnsOk.nil _))
def kp_barrier_Fine : List (Nat × List Nat) := [(0, [1]), (1, [2]), (4000000, [1]), (4000001, [])]
def od_barrier_Fine : List (Nat × Ord) := []
noncomputable def E_barrier_Fine : Env := ⟨0, 0, et_barrier_Fine, tt_barrier_Fine, fns_barrier_Fine, [], od_barrier_Fine, kp_barrier_Fine, none, []⟩
set_option maxRecDepth 100000 in
set_option maxHeartbeats 40000000 in
theorem c_barrier_Fine : PCon Go.Proofs.Tryd.prog 31 lf_barrier_Fine := by
  rw [lq_barrier_Fine]
  refine lift_conR (E := E_barrier_Fine) (c := bodyOf Tryd.f31) (nt := 14) (rs := [.tmp 2]) (ts := [4]) (EnvC.sub (off := 0) (nt := 0) (ords := od_barrier_Fine) (keep := kp_barrier_Fine) (yl := none) tt_ok et_ok fns_barrier_Fine_ok (PrsOk.nil _) (ItsOk.nil _) tt_barrier_Fine_ok et_barrier_Fine_ok) (PrOk.of mixed_ok) Go.Proofs.Tryd.func31 rfl (by decide) rfl rfl rfl (pureR_one (e := .bool) rfl) ?_
  intro x r hw hs
  repeat'
    (try (conv => whnf)
     first
       | (with_reducible have hs := letv_out hs)
       | (refine draw_and (by kernel_rfl) ?_)
       | (refine both_mk ?_ ?_)
       | (refine br_bool (fun h => ?_) (fun h => ?_) <;> first | have hs := cT h hs | have hs := cF h hs)
       | (refine bind_elim hs fun v hb hs => ?_; first | refine ck_phase_Fine rfl hb ?_ | refine ck_roll_Fine rfl hb ?_)
       | refine chk_elim hs fun hs => ?_
       | (have hs := letv_out hs)
       | exact fin_some hs rfl
       | (intro b hb; first | have hs := nilq_elim hs b hb | have hs := nilqn_elim hs b hb)
       | (have hs := cT rfl hs)
       | (have hs := cF rfl hs)
       | exact (none_ne hs).elim)
theorem cq_barrier_Fine : PCon Go.Proofs.Tryd.prog 31 (liftF (.pair (.pair (.pair .bool (.pair (.int .i64) .unit)) (.pair (.pair (.arr 4 (.int .u64)) (.pair (.arr 4 (.int .u64)) .unit)) (.pair (.int .i64) .unit))) .unit) (unpack .bool) (fun x => barrier_Fine x.1)) := lq_barrier_Fine ▸ c_barrier_Fine
noncomputable def lf_barrier_Ready : List AV → Option AV := liftF (.pair (.pair (.pair .bool (.pair (.int .i64) .unit)) (.pair (.pair (.arr 4 (.int .u64)) (.pair (.arr 4 (.int .u64)) .unit)) (.pair (.int .i64) .unit))) .unit) (unpack .bool) (fun x => barrier_Ready x.1)
theorem lq_barrier_Ready : lf_barrier_Ready = liftF (.pair (.pair (.pair .bool (.pair (.int .i64) .unit)) (.pair (.pair (.arr 4 (.int .u64)) (.pair (.arr 4 (.int .u64)) .unit)) (.pair (.int .i64) .unit))) .unit) (unpack .bool) (fun x => barrier_Ready x.1) := rfl
attribute [irreducible] lf_barrier_Ready
theorem ck_barrier_Ready {vs : List AV} {k : AV → Prop} {x : ((.pair (.pair (.pair .bool (.pair (.int .i64) .unit)) (.pair (.pair (.arr 4 (.int .u64)) (.pair (.arr 4 (.int .u64)) .unit)) (.pair (.int .i64) .unit))) .unit) : Ty).den} {v : Bool} (h1 : pks (.pair (.pair (.pair .bool (.pair (.int .i64) .unit)) (.pair (.pair (.arr 4 (.int .u64)) (.pair (.arr 4 (.int .u64)) .unit)) (.pair (.int .i64) .unit))) .unit) vs = some x) (h2 : barrier_Ready x.1 = some v) (h3 : k ((unpack .bool) v)) : callK (lf_barrier_Ready vs) k := by
  rw [lq_barrier_Ready]; exact callK_lift h1 h2 h3
def tt_barrier_Ready : List (Nat × Ty) := [(3, .int .i64), (4, .bool), (23, .pair .bool (.pair (.int .i64) .unit)), (36, .pair (.arr 4 (.int .u64)) (.pair (.arr 4 (.int .u64)) .unit)), (38, .pair (.pair .bool (.pair (.int .i64) .unit)) (.pair (.pair (.arr 4 (.int .u64)) (.pair (.arr 4 (.int .u64)) .unit)) (.pair (.int .i64) .unit)))]
def et_barrier_Ready : List (Nat × Nat) := []
theorem tt_barrier_Ready_ok : subT tt tt_barrier_Ready = true := by kernel_rfl
theorem et_barrier_Ready_ok : subE et et_barrier_Ready = true := by kernel_rfl
noncomputable def fns_barrier_Ready : List (Nat × (List AV → Option AV)) := [(31, lf_barrier_Fine), (64, lf_roll_Full), (65, lf_phase_Left)]
theorem fns_barrier_Ready_ok : FnsOk Go.Proofs.Tryd.prog fns_barrier_Ready := FnsOk.cons c_barrier_Fine (FnsOk.cons c_roll_Full (FnsOk.cons c_phase_Left (FnsOk.nil _)))
def kp_barrier_Ready : List (Nat × List Nat) := [(0, [1]), (1, [2]), (4000000, [1]), (4000001, [])]
def od_barrier_Ready : List (Nat × Ord) := []
noncomputable def E_barrier_Ready : Env := ⟨0, 0, et_barrier_Ready, tt_barrier_Ready, fns_barrier_Ready, [], od_barrier_Ready, kp_barrier_Ready, none, []⟩
set_option maxRecDepth 100000 in
set_option maxHeartbeats 40000000 in
theorem c_barrier_Ready : PCon Go.Proofs.Tryd.prog 16 lf_barrier_Ready := by
  rw [lq_barrier_Ready]
  refine lift_conR (E := E_barrier_Ready) (c := bodyOf Tryd.f16) (nt := 19) (rs := [.tmp 2]) (ts := [4]) (EnvC.sub (off := 0) (nt := 0) (ords := od_barrier_Ready) (keep := kp_barrier_Ready) (yl := none) tt_ok et_ok fns_barrier_Ready_ok (PrsOk.nil _) (ItsOk.nil _) tt_barrier_Ready_ok et_barrier_Ready_ok) (PrOk.of mixed_ok) Go.Proofs.Tryd.func16 rfl (by decide) rfl rfl rfl (pureR_one (e := .bool) rfl) ?_
  intro x r hw hs
  repeat'
    (try (conv => whnf)
     first
       | (with_reducible have hs := letv_out hs)
       | (refine draw_and (by kernel_rfl) ?_)
       | (refine both_mk ?_ ?_)
       | (refine br_bool (fun h => ?_) (fun h => ?_) <;> first | have hs := cT h hs | have hs := cF h hs)
       | (refine bind_elim hs fun v hb hs => ?_; first | refine ck_barrier_Fine rfl hb ?_ | refine ck_roll_Full rfl hb ?_ | refine ck_phase_Left rfl hb ?_)
       | refine chk_elim hs fun hs => ?_
       | (have hs := letv_out hs)
       | exact fin_some hs rfl
       | (intro b hb; first | have hs := nilq_elim hs b hb | have hs := nilqn_elim hs b hb)
       | (have hs := cT rfl hs)
       | (have hs := cF rfl hs)
       | exact (none_ne hs).elim)
theorem cq_barrier_Ready : PCon Go.Proofs.Tryd.prog 16 (liftF (.pair (.pair (.pair .bool (.pair (.int .i64) .unit)) (.pair (.pair (.arr 4 (.int .u64)) (.pair (.arr 4 (.int .u64)) .unit)) (.pair (.int .i64) .unit))) .unit) (unpack .bool) (fun x => barrier_Ready x.1)) := lq_barrier_Ready ▸ c_barrier_Ready
noncomputable def lf_barrier_Fire : List AV → Option AV := liftF (.pair (.pair (.pair .bool (.pair (.int .i64) .unit)) (.pair (.pair (.arr 4 (.int .u64)) (.pair (.arr 4 (.int .u64)) .unit)) (.pair (.int .i64) .unit))) .unit) (unpR (.pair (.pair (.pair .bool (.pair (.int .i64) .unit)) (.pair (.pair (.arr 4 (.int .u64)) (.pair (.arr 4 (.int .u64)) .unit)) (.pair (.int .i64) .unit))) (.pair (.sl (.int .i64)) (.pair (.int .i64) .unit)))) (fun x => barrier_Fire x.1)
theorem lq_barrier_Fire : lf_barrier_Fire = liftF (.pair (.pair (.pair .bool (.pair (.int .i64) .unit)) (.pair (.pair (.arr 4 (.int .u64)) (.pair (.arr 4 (.int .u64)) .unit)) (.pair (.int .i64) .unit))) .unit) (unpR (.pair (.pair (.pair .bool (.pair (.int .i64) .unit)) (.pair (.pair (.arr 4 (.int .u64)) (.pair (.arr 4 (.int .u64)) .unit)) (.pair (.int .i64) .unit))) (.pair (.sl (.int .i64)) (.pair (.int .i64) .unit)))) (fun x => barrier_Fire x.1) := rfl
attribute [irreducible] lf_barrier_Fire
theorem ck_barrier_Fire {vs : List AV} {k : AV → Prop} {x : ((.pair (.pair (.pair .bool (.pair (.int .i64) .unit)) (.pair (.pair (.arr 4 (.int .u64)) (.pair (.arr 4 (.int .u64)) .unit)) (.pair (.int .i64) .unit))) .unit) : Ty).den} {v : ((Bool × Int × Unit) × ((List Int) × (List Int) × Unit) × Int × Unit) × (List Int) × Int × Unit} (h1 : pks (.pair (.pair (.pair .bool (.pair (.int .i64) .unit)) (.pair (.pair (.arr 4 (.int .u64)) (.pair (.arr 4 (.int .u64)) .unit)) (.pair (.int .i64) .unit))) .unit) vs = some x) (h2 : barrier_Fire x.1 = some v) (h3 : k ((unpR (.pair (.pair (.pair .bool (.pair (.int .i64) .unit)) (.pair (.pair (.arr 4 (.int .u64)) (.pair (.arr 4 (.int .u64)) .unit)) (.pair (.int .i64) .unit))) (.pair (.sl (.int .i64)) (.pair (.int .i64) .unit)))) v)) : callK (lf_barrier_Fire vs) k := by
  rw [lq_barrier_Fire]; exact callK_lift h1 h2 h3
def tt_barrier_Fire : List (Nat × Ty) := [(3, .int .i64), (4, .bool), (23, .pair .bool (.pair (.int .i64) .unit)), (24, .sl (.int .i64)), (36, .pair (.arr 4 (.int .u64)) (.pair (.arr 4 (.int .u64)) .unit)), (38, .pair (.pair .bool (.pair (.int .i64) .unit)) (.pair (.pair (.arr 4 (.int .u64)) (.pair (.arr 4 (.int .u64)) .unit)) (.pair (.int .i64) .unit))), (40, .int .i64)]
def et_barrier_Fire : List (Nat × Nat) := [(24, 3)]
theorem tt_barrier_Fire_ok : subT tt tt_barrier_Fire = true := by kernel_rfl
theorem et_barrier_Fire_ok : subE et et_barrier_Fire = true := by kernel_rfl
noncomputable def fns_barrier_Fire : List (Nat × (List AV → Option AV)) := [(16, lf_barrier_Ready), (31, lf_barrier_Fine), (61, lf_roll_Fire), (62, lf_phase_Next)]
theorem fns_barrier_Fire_ok : FnsOk Go.Proofs.Tryd.prog fns_barrier_Fire := FnsOk.cons c_barrier_Ready (FnsOk.cons c_barrier_Fine (FnsOk.cons c_roll_Fire (FnsOk.cons c_phase_Next (FnsOk.nil _))))
def kp_barrier_Fire : List (Nat × List Nat) := [(0, [1, 2]), (1, [1, 2, 8]), (2, [2, 3, 4]), (3, [1, 2, 13]), (4, [2, 3, 4]), (5, [1, 2, 5, 6, 7]), (6, [1, 2, 5, 6, 7, 26]), (7, [2, 3, 4]), (8, [1, 2, 6]), (9, [1, 2, 6, 7]), (10, [2, 3, 4]), (4000000, [1, 2]), (4000001, [1, 2]), (4000002, [2]), (4000003, [1, 2]), (4000004, [2]), (4000005, [1, 2, 5]), (4000006, [1, 2, 5]), (4000007, [2]), (4000008, [1, 2]), (4000009, [1, 2]), (4000010, [2])]
def od_barrier_Fire : List (Nat × Ord) := []
noncomputable def E_barrier_Fire : Env := ⟨0, 0, et_barrier_Fire, tt_barrier_Fire, fns_barrier_Fire, [], od_barrier_Fire, kp_barrier_Fire, none, []⟩
set_option maxRecDepth 100000 in
set_option maxHeartbeats 40000000 in
theorem c_barrier_Fire : PCon Go.Proofs.Tryd.prog 14 lf_barrier_Fire := by
  rw [lq_barrier_Fire]
  refine lift_conR (E := E_barrier_Fire) (c := bodyOf Tryd.f14) (nt := 44) (rs := [.cell 2 38, .tmp 3, .tmp 4]) (ts := [38, 24, 40]) (EnvC.sub (off := 0) (nt := 0) (ords := od_barrier_Fire) (keep := kp_barrier_Fire) (yl := none) tt_ok et_ok fns_barrier_Fire_ok (PrsOk.nil _) (ItsOk.nil _) tt_barrier_Fire_ok et_barrier_Fire_ok) (PrOk.of mixed_ok) Go.Proofs.Tryd.func14 rfl (by decide) rfl rfl rfl (pureR_many (e := (.pair (.pair (.pair .bool (.pair (.int .i64) .unit)) (.pair (.pair (.arr 4 (.int .u64)) (.pair (.arr 4 (.int .u64)) .unit)) (.pair (.int .i64) .unit))) (.pair (.sl (.int .i64)) (.pair (.int .i64) .unit)))) rfl) ?_
  intro x r hw hs
  repeat'
    (try (conv => whnf)
     first
       | (with_reducible have hs := letv_out hs)
       | (refine draw_and (by kernel_rfl) ?_)
       | (refine both_mk ?_ ?_)
       | (refine br_bool (fun h => ?_) (fun h => ?_) <;> first | have hs := cT h hs | have hs := cF h hs)
       | (refine bind_elim hs fun v hb hs => ?_; first | refine ck_barrier_Ready rfl hb ?_ | refine ck_barrier_Fine rfl hb ?_ | refine ck_roll_Fire rfl hb ?_ | refine ck_phase_Next rfl hb ?_)
       | refine chk_elim hs fun hs => ?_
       | (have hs := letv_out hs)
       | exact fin_some hs rfl
       | (intro b hb; first | have hs := nilq_elim hs b hb | have hs := nilqn_elim hs b hb)
       | (have hs := cT rfl hs)
       | (have hs := cF rfl hs)
       | exact (none_ne hs).elim)
theorem cq_barrier_Fire : PCon Go.Proofs.Tryd.prog 14 (liftF (.pair (.pair (.pair .bool (.pair (.int .i64) .unit)) (.pair (.pair (.arr 4 (.int .u64)) (.pair (.arr 4 (.int .u64)) .unit)) (.pair (.int .i64) .unit))) .unit) (unpR (.pair (.pair (.pair .bool (.pair (.int .i64) .unit)) (.pair (.pair (.arr 4 (.int .u64)) (.pair (.arr 4 (.int .u64)) .unit)) (.pair (.int .i64) .unit))) (.pair (.sl (.int .i64)) (.pair (.int .i64) .unit)))) (fun x => barrier_Fire x.1)) := lq_barrier_Fire ▸ c_barrier_Fire
noncomputable def lf_barrier_Check : List AV → Option AV := liftF (.pair (.pair .bool (.pair (.int .i64) .unit)) .unit) (unpack (.int .i64)) (fun x => barrier_Check x.1)
theorem lq_barrier_Check : lf_barrier_Check = liftF (.pair (.pair .bool (.pair (.int .i64) .unit)) .unit) (unpack (.int .i64)) (fun x => barrier_Check x.1) := rfl
attribute [irreducible] lf_barrier_Check
theorem ck_barrier_Check {vs : List AV} {k : AV → Prop} {x : ((.pair (.pair .bool (.pair (.int .i64) .unit)) .unit) : Ty).den} {v : Int} (h1 : pks (.pair (.pair .bool (.pair (.int .i64) .unit)) .unit) vs = some x) (h2 : barrier_Check x.1 = some v) (h3 : k ((unpack (.int .i64)) v)) : callK (lf_barrier_Check vs) k := by
  rw [lq_barrier_Check]; exact callK_lift h1 h2 h3
def tt_barrier_Check : List (Nat × Ty) := [(3, .int .i64), (4, .bool), (23, .pair .bool (.pair (.int .i64) .unit)), (40, .int .i64)]
def et_barrier_Check : List (Nat × Nat) := []
theorem tt_barrier_Check_ok : subT tt tt_barrier_Check = true := by kernel_rfl
theorem et_barrier_Check_ok : subE et et_barrier_Check = true := by kernel_rfl
noncomputable def fns_barrier_Check : List (Nat × (List AV → Option AV)) := [(78, lf_phase_Fine)]
theorem fns_barrier_Check_ok : FnsOk Go.Proofs.Tryd.prog fns_barrier_Check := FnsOk.cons c_phase_Fine (FnsOk.nil _)
def kp_barrier_Check : List (Nat × List Nat) := [(0, [1]), (1, [6]), (2, [2]), (3, [2]), (4000000, [1]), (4000001, []), (4000002, []), (4000003, [])]
def od_barrier_Check : List (Nat × Ord) := []
noncomputable def E_barrier_Check : Env := ⟨0, 0, et_barrier_Check, tt_barrier_Check, fns_barrier_Check, [], od_barrier_Check, kp_barrier_Check, none, []⟩
set_option maxRecDepth 100000 in
set_option maxHeartbeats 40000000 in
theorem c_barrier_Check : PCon Go.Proofs.Tryd.prog 33 lf_barrier_Check := by
  rw [lq_barrier_Check]
  refine lift_conR (E := E_barrier_Check) (c := bodyOf Tryd.f33) (nt := 7) (rs := [.tmp 2]) (ts := [40]) (EnvC.sub (off := 0) (nt := 0) (ords := od_barrier_Check) (keep := kp_barrier_Check) (yl := none) tt_ok et_ok fns_barrier_Check_ok (PrsOk.nil _) (ItsOk.nil _) tt_barrier_Check_ok et_barrier_Check_ok) (PrOk.of mixed_ok) Go.Proofs.Tryd.func33 rfl (by decide) rfl rfl rfl (pureR_one (e := (.int .i64)) rfl) ?_
  intro x r hw hs
  repeat'
    (try (conv => whnf)
     first
       | (with_reducible have hs := letv_out hs)
       | (refine draw_and (by kernel_rfl) ?_)
       | (refine both_mk ?_ ?_)
       | (refine br_bool (fun h => ?_) (fun h => ?_) <;> first | have hs := cT h hs | have hs := cF h hs)
       | (refine bind_elim hs fun v hb hs => ?_; first | refine ck_phase_Fine rfl hb ?_)
       | refine chk_elim hs fun hs => ?_
       | (have hs := letv_out hs)
       | exact fin_some hs rfl
       | (intro b hb; first | have hs := nilq_elim hs b hb | have hs := nilqn_elim hs b hb)
       | (have hs := cT rfl hs)
       | (have hs := cF rfl hs)
       | exact (none_ne hs).elim)
theorem cq_barrier_Check : PCon Go.Proofs.Tryd.prog 33 (liftF (.pair (.pair .bool (.pair (.int .i64) .unit)) .unit) (unpack (.int .i64)) (fun x => barrier_Check x.1)) := lq_barrier_Check ▸ c_barrier_Check
noncomputable def lf_barrier_New : List AV → Option AV := liftF (.pair (.pair .bool (.pair (.int .i64) .unit)) .unit) (unpR (.pair (.pair (.pair .bool (.pair (.int .i64) .unit)) (.pair (.pair (.arr 4 (.int .u64)) (.pair (.arr 4 (.int .u64)) .unit)) (.pair (.int .i64) .unit))) (.pair (.int .i64) .unit))) (fun x => barrier_New x.1)
theorem lq_barrier_New : lf_barrier_New = liftF (.pair (.pair .bool (.pair (.int .i64) .unit)) .unit) (unpR (.pair (.pair (.pair .bool (.pair (.int .i64) .unit)) (.pair (.pair (.arr 4 (.int .u64)) (.pair (.arr 4 (.int .u64)) .unit)) (.pair (.int .i64) .unit))) (.pair (.int .i64) .unit))) (fun x => barrier_New x.1) := rfl
attribute [irreducible] lf_barrier_New
theorem ck_barrier_New {vs : List AV} {k : AV → Prop} {x : ((.pair (.pair .bool (.pair (.int .i64) .unit)) .unit) : Ty).den} {v : ((Bool × Int × Unit) × ((List Int) × (List Int) × Unit) × Int × Unit) × Int × Unit} (h1 : pks (.pair (.pair .bool (.pair (.int .i64) .unit)) .unit) vs = some x) (h2 : barrier_New x.1 = some v) (h3 : k ((unpR (.pair (.pair (.pair .bool (.pair (.int .i64) .unit)) (.pair (.pair (.arr 4 (.int .u64)) (.pair (.arr 4 (.int .u64)) .unit)) (.pair (.int .i64) .unit))) (.pair (.int .i64) .unit))) v)) : callK (lf_barrier_New vs) k := by
  rw [lq_barrier_New]; exact callK_lift h1 h2 h3
def tt_barrier_New : List (Nat × Ty) := [(23, .pair .bool (.pair (.int .i64) .unit)), (38, .pair (.pair .bool (.pair (.int .i64) .unit)) (.pair (.pair (.arr 4 (.int .u64)) (.pair (.arr 4 (.int .u64)) .unit)) (.pair (.int .i64) .unit))), (40, .int .i64)]
def et_barrier_New : List (Nat × Nat) := []
theorem tt_barrier_New_ok : subT tt tt_barrier_New = true := by kernel_rfl
theorem et_barrier_New_ok : subE et et_barrier_New = true := by kernel_rfl
noncomputable def fns_barrier_New : List (Nat × (List AV → Option AV)) := [(33, lf_barrier_Check)]
theorem fns_barrier_New_ok : FnsOk Go.Proofs.Tryd.prog fns_barrier_New := FnsOk.cons c_barrier_Check (FnsOk.nil _)
def kp_barrier_New : List (Nat × List Nat) := [(0, [1, 2]), (1, [1, 2, 4]), (2, [1, 2, 4, 8]), (3, [2, 3]), (4, [2, 3]), (4000000, [1, 2]), (4000001, [1, 2]), (4000002, [1, 2]), (4000003, [2]), (4000004, [2])]
def od_barrier_New : List (Nat × Ord) := []
noncomputable def E_barrier_New : Env := ⟨0, 0, et_barrier_New, tt_barrier_New, fns_barrier_New, [], od_barrier_New, kp_barrier_New, none, []⟩
set_option maxRecDepth 100000 in
set_option maxHeartbeats 40000000 in
theorem c_barrier_New : PCon Go.Proofs.Tryd.prog 21 lf_barrier_New := by
  rw [lq_barrier_New]
  refine lift_conR (E := E_barrier_New) (c := bodyOf Tryd.f21) (nt := 13) (rs := [.cell 2 38, .tmp 3]) (ts := [38, 40]) (EnvC.sub (off := 0) (nt := 0) (ords := od_barrier_New) (keep := kp_barrier_New) (yl := none) tt_ok et_ok fns_barrier_New_ok (PrsOk.nil _) (ItsOk.nil _) tt_barrier_New_ok et_barrier_New_ok) (PrOk.of mixed_ok) Go.Proofs.Tryd.func21 rfl (by decide) rfl rfl rfl (pureR_many (e := (.pair (.pair (.pair .bool (.pair (.int .i64) .unit)) (.pair (.pair (.arr 4 (.int .u64)) (.pair (.arr 4 (.int .u64)) .unit)) (.pair (.int .i64) .unit))) (.pair (.int .i64) .unit))) rfl) ?_
  intro x r hw hs
  repeat'
    (try (conv => whnf)
     first
       | (with_reducible have hs := letv_out hs)
       | (refine draw_and (by kernel_rfl) ?_)
       | (refine both_mk ?_ ?_)
       | (refine br_bool (fun h => ?_) (fun h => ?_) <;> first | have hs := cT h hs | have hs := cF h hs)
       | (refine bind_elim hs fun v hb hs => ?_; first | refine ck_barrier_Check rfl hb ?_)
       | refine chk_elim hs fun hs => ?_
       | (have hs := letv_out hs)
       | exact fin_some hs rfl
       | (intro b hb; first | have hs := nilq_elim hs b hb | have hs := nilqn_elim hs b hb)
       | (have hs := cT rfl hs)
       | (have hs := cF rfl hs)
       | exact (none_ne hs).elim)
theorem cq_barrier_New : PCon Go.Proofs.Tryd.prog 21 (liftF (.pair (.pair .bool (.pair (.int .i64) .unit)) .unit) (unpR (.pair (.pair (.pair .bool (.pair (.int .i64) .unit)) (.pair (.pair (.arr 4 (.int .u64)) (.pair (.arr 4 (.int .u64)) .unit)) (.pair (.int .i64) .unit))) (.pair (.int .i64) .unit))) (fun x => barrier_New x.1)) := lq_barrier_New ▸ c_barrier_New
noncomputable def lf_barrier_Bar_with : List AV → Option AV := liftF (.pair (.pair (.pair .bool (.pair (.int .i64) .unit)) (.pair (.pair (.arr 4 (.int .u64)) (.pair (.arr 4 (.int .u64)) .unit)) (.pair (.int .i64) .unit))) (.pair (.pair (.arr 4 (.int .u64)) (.pair (.arr 4 (.int .u64)) .unit)) (.pair (.int .i64) .unit))) (unpR (.pair (.pair (.pair .bool (.pair (.int .i64) .unit)) (.pair (.pair (.arr 4 (.int .u64)) (.pair (.arr 4 (.int .u64)) .unit)) (.pair (.int .i64) .unit))) (.pair (.int .i64) .unit))) (fun x => barrier_Bar_with x.1 x.2.1 x.2.2.1)
theorem lq_barrier_Bar_with : lf_barrier_Bar_with = liftF (.pair (.pair (.pair .bool (.pair (.int .i64) .unit)) (.pair (.pair (.arr 4 (.int .u64)) (.pair (.arr 4 (.int .u64)) .unit)) (.pair (.int .i64) .unit))) (.pair (.pair (.arr 4 (.int .u64)) (.pair (.arr 4 (.int .u64)) .unit)) (.pair (.int .i64) .unit))) (unpR (.pair (.pair (.pair .bool (.pair (.int .i64) .unit)) (.pair (.pair (.arr 4 (.int .u64)) (.pair (.arr 4 (.int .u64)) .unit)) (.pair (.int .i64) .unit))) (.pair (.int .i64) .unit))) (fun x => barrier_Bar_with x.1 x.2.1 x.2.2.1) := rfl
attribute [irreducible] lf_barrier_Bar_with
theorem ck_barrier_Bar_with {vs : List AV} {k : AV → Prop} {x : ((.pair (.pair (.pair .bool (.pair (.int .i64) .unit)) (.pair (.pair (.arr 4 (.int .u64)) (.pair (.arr 4 (.int .u64)) .unit)) (.pair (.int .i64) .unit))) (.pair (.pair (.arr 4 (.int .u64)) (.pair (.arr 4 (.int .u64)) .unit)) (.pair (.int .i64) .unit))) : Ty).den} {v : ((Bool × Int × Unit) × ((List Int) × (List Int) × Unit) × Int × Unit) × Int × Unit} (h1 : pks (.pair (.pair (.pair .bool (.pair (.int .i64) .unit)) (.pair (.pair (.arr 4 (.int .u64)) (.pair (.arr 4 (.int .u64)) .unit)) (.pair (.int .i64) .unit))) (.pair (.pair (.arr 4 (.int .u64)) (.pair (.arr 4 (.int .u64)) .unit)) (.pair (.int .i64) .unit))) vs = some x) (h2 : barrier_Bar_with x.1 x.2.1 x.2.2.1 = some v) (h3 : k ((unpR (.pair (.pair (.pair .bool (.pair (.int .i64) .unit)) (.pair (.pair (.arr 4 (.int .u64)) (.pair (.arr 4 (.int .u64)) .unit)) (.pair (.int .i64) .unit))) (.pair (.int .i64) .unit))) v)) : callK (lf_barrier_Bar_with vs) k := by
  rw [lq_barrier_Bar_with]; exact callK_lift h1 h2 h3
def tt_barrier_Bar_with : List (Nat × Ty) := [(3, .int .i64), (23, .pair .bool (.pair (.int .i64) .unit)), (36, .pair (.arr 4 (.int .u64)) (.pair (.arr 4 (.int .u64)) .unit)), (38, .pair (.pair .bool (.pair (.int .i64) .unit)) (.pair (.pair (.arr 4 (.int .u64)) (.pair (.arr 4 (.int .u64)) .unit)) (.pair (.int .i64) .unit))), (40, .int .i64)]
def et_barrier_Bar_with : List (Nat × Nat) := []
theorem tt_barrier_Bar_with_ok : subT tt tt_barrier_Bar_with = true := by kernel_rfl
theorem et_barrier_Bar_with_ok : subE et et_barrier_Bar_with = true := by kernel_rfl
noncomputable def fns_barrier_Bar_with : List (Nat × (List AV → Option AV)) := []
theorem fns_barrier_Bar_with_ok : FnsOk Go.Proofs.Tryd.prog fns_barrier_Bar_with := FnsOk.nil _
def kp_barrier_Bar_with : List (Nat × List Nat) := [(0, [2, 3, 4, 6]), (1, [2, 3, 6, 8]), (2, [2, 3, 6, 8, 21]), (3, [6, 7]), (4, [6, 7]), (4000000, [3, 4, 6]), (4000001, [3, 6, 8]), (4000002, [3, 6, 8]), (4000003, [6]), (4000004, [6])]
def od_barrier_Bar_with : List (Nat × Ord) := []
noncomputable def E_barrier_Bar_with : Env := ⟨0, 0, et_barrier_Bar_with, tt_barrier_Bar_with, fns_barrier_Bar_with, [], od_barrier_Bar_with, kp_barrier_Bar_with, none, []⟩
set_option maxRecDepth 100000 in
set_option maxHeartbeats 40000000 in
theorem c_barrier_Bar_with : PCon Go.Proofs.Tryd.prog 69 lf_barrier_Bar_with := by
  rw [lq_barrier_Bar_with]
  refine lift_conR (E := E_barrier_Bar_with) (c := bodyOf Tryd.f69) (nt := 25) (rs := [.cell 6 38, .tmp 7]) (ts := [38, 40]) (EnvC.sub (off := 0) (nt := 0) (ords := od_barrier_Bar_with) (keep := kp_barrier_Bar_with) (yl := none) tt_ok et_ok fns_barrier_Bar_with_ok (PrsOk.nil _) (ItsOk.nil _) tt_barrier_Bar_with_ok et_barrier_Bar_with_ok) (PrOk.of mixed_ok) Go.Proofs.Tryd.func69 rfl (by decide) rfl rfl rfl (pureR_many (e := (.pair (.pair (.pair .bool (.pair (.int .i64) .unit)) (.pair (.pair (.arr 4 (.int .u64)) (.pair (.arr 4 (.int .u64)) .unit)) (.pair (.int .i64) .unit))) (.pair (.int .i64) .unit))) rfl) ?_
  intro x r hw hs
  repeat'
    (try (conv => whnf)
     first
       | (with_reducible have hs := letv_out hs)
       | (refine draw_and (by kernel_rfl) ?_)
       | (refine both_mk ?_ ?_)
       | (refine br_bool (fun h => ?_) (fun h => ?_) <;> first | have hs := cT h hs | have hs := cF h hs)
       | refine chk_elim hs fun hs => ?_
       | (have hs := letv_out hs)
       | exact fin_some hs rfl
       | (intro b hb; first | have hs := nilq_elim hs b hb | have hs := nilqn_elim hs b hb)
       | (have hs := cT rfl hs)
       | (have hs := cF rfl hs)
       | exact (none_ne hs).elim)
theorem cq_barrier_Bar_with : PCon Go.Proofs.Tryd.prog 69 (liftF (.pair (.pair (.pair .bool (.pair (.int .i64) .unit)) (.pair (.pair (.arr 4 (.int .u64)) (.pair (.arr 4 (.int .u64)) .unit)) (.pair (.int .i64) .unit))) (.pair (.pair (.arr 4 (.int .u64)) (.pair (.arr 4 (.int .u64)) .unit)) (.pair (.int .i64) .unit))) (unpR (.pair (.pair (.pair .bool (.pair (.int .i64) .unit)) (.pair (.pair (.arr 4 (.int .u64)) (.pair (.arr 4 (.int .u64)) .unit)) (.pair (.int .i64) .unit))) (.pair (.int .i64) .unit))) (fun x => barrier_Bar_with x.1 x.2.1 x.2.2.1)) := lq_barrier_Bar_with ▸ c_barrier_Bar_with
noncomputable def lf_barrier_Enrol : List AV → Option AV := liftF (.pair (.pair (.pair .bool (.pair (.int .i64) .unit)) (.pair (.pair (.arr 4 (.int .u64)) (.pair (.arr 4 (.int .u64)) .unit)) (.pair (.int .i64) .unit))) (.pair (.int .i64) .unit)) (unpR (.pair (.pair (.pair .bool (.pair (.int .i64) .unit)) (.pair (.pair (.arr 4 (.int .u64)) (.pair (.arr 4 (.int .u64)) .unit)) (.pair (.int .i64) .unit))) (.pair (.int .i64) .unit))) (fun x => barrier_Enrol x.1 x.2.1)
theorem lq_barrier_Enrol : lf_barrier_Enrol = liftF (.pair (.pair (.pair .bool (.pair (.int .i64) .unit)) (.pair (.pair (.arr 4 (.int .u64)) (.pair (.arr 4 (.int .u64)) .unit)) (.pair (.int .i64) .unit))) (.pair (.int .i64) .unit)) (unpR (.pair (.pair (.pair .bool (.pair (.int .i64) .unit)) (.pair (.pair (.arr 4 (.int .u64)) (.pair (.arr 4 (.int .u64)) .unit)) (.pair (.int .i64) .unit))) (.pair (.int .i64) .unit))) (fun x => barrier_Enrol x.1 x.2.1) := rfl
attribute [irreducible] lf_barrier_Enrol
theorem ck_barrier_Enrol {vs : List AV} {k : AV → Prop} {x : ((.pair (.pair (.pair .bool (.pair (.int .i64) .unit)) (.pair (.pair (.arr 4 (.int .u64)) (.pair (.arr 4 (.int .u64)) .unit)) (.pair (.int .i64) .unit))) (.pair (.int .i64) .unit)) : Ty).den} {v : ((Bool × Int × Unit) × ((List Int) × (List Int) × Unit) × Int × Unit) × Int × Unit} (h1 : pks (.pair (.pair (.pair .bool (.pair (.int .i64) .unit)) (.pair (.pair (.arr 4 (.int .u64)) (.pair (.arr 4 (.int .u64)) .unit)) (.pair (.int .i64) .unit))) (.pair (.int .i64) .unit)) vs = some x) (h2 : barrier_Enrol x.1 x.2.1 = some v) (h3 : k ((unpR (.pair (.pair (.pair .bool (.pair (.int .i64) .unit)) (.pair (.pair (.arr 4 (.int .u64)) (.pair (.arr 4 (.int .u64)) .unit)) (.pair (.int .i64) .unit))) (.pair (.int .i64) .unit))) v)) : callK (lf_barrier_Enrol vs) k := by
  rw [lq_barrier_Enrol]; exact callK_lift h1 h2 h3
def tt_barrier_Enrol : List (Nat × Ty) := [(3, .int .i64), (4, .bool), (36, .pair (.arr 4 (.int .u64)) (.pair (.arr 4 (.int .u64)) .unit)), (38, .pair (.pair .bool (.pair (.int .i64) .unit)) (.pair (.pair (.arr 4 (.int .u64)) (.pair (.arr 4 (.int .u64)) .unit)) (.pair (.int .i64) .unit))), (40, .int .i64)]
def et_barrier_Enrol : List (Nat × Nat) := []
theorem tt_barrier_Enrol_ok : subT tt tt_barrier_Enrol = true := by kernel_rfl
theorem et_barrier_Enrol_ok : subE et et_barrier_Enrol = true := by kernel_rfl
noncomputable def fns_barrier_Enrol : List (Nat × (List AV → Option AV)) := [(31, lf_barrier_Fine), (69, lf_barrier_Bar_with), (70, lf_roll_Enrol)]
theorem fns_barrier_Enrol_ok : FnsOk Go.Proofs.Tryd.prog fns_barrier_Enrol := FnsOk.cons c_barrier_Fine (FnsOk.cons c_barrier_Bar_with (FnsOk.cons c_roll_Enrol (FnsOk.nil _)))
def kp_barrier_Enrol : List (Nat × List Nat) := [(0, [1, 2, 4]), (1, [1, 2, 4, 8]), (2, [4, 5]), (3, [4, 5]), (4000000, [2, 4]), (4000001, [2, 4]), (4000002, [4]), (4000003, [4])]
def od_barrier_Enrol : List (Nat × Ord) := [(3, (.one 0 (.one 1 (.one 2 (.one 3 (.one 4 (.one 5 (.one 6 (.one 100007 (.one 8 (.one 9 (.one 100010 (.one 11 .nil)))))))))))))]
noncomputable def E_barrier_Enrol : Env := ⟨0, 0, et_barrier_Enrol, tt_barrier_Enrol, fns_barrier_Enrol, [], od_barrier_Enrol, kp_barrier_Enrol, none, []⟩
set_option maxRecDepth 100000 in
set_option maxHeartbeats 40000000 in
theorem c_barrier_Enrol : PCon Go.Proofs.Tryd.prog 23 lf_barrier_Enrol := by
  rw [lq_barrier_Enrol]
  refine lift_conR (E := E_barrier_Enrol) (c := bodyOf Tryd.f23) (nt := 20) (rs := [.cell 4 38, .tmp 5]) (ts := [38, 40]) (EnvC.sub (off := 0) (nt := 0) (ords := od_barrier_Enrol) (keep := kp_barrier_Enrol) (yl := none) tt_ok et_ok fns_barrier_Enrol_ok (PrsOk.nil _) (ItsOk.nil _) tt_barrier_Enrol_ok et_barrier_Enrol_ok) (PrOk.of mixed_ok) Go.Proofs.Tryd.func23 rfl (by decide) rfl rfl rfl (pureR_many (e := (.pair (.pair (.pair .bool (.pair (.int .i64) .unit)) (.pair (.pair (.arr 4 (.int .u64)) (.pair (.arr 4 (.int .u64)) .unit)) (.pair (.int .i64) .unit))) (.pair (.int .i64) .unit))) rfl) ?_
  intro x r hw hs
  repeat'
    (try (conv => whnf)
     first
       | (with_reducible have hs := letv_out hs)
       | (refine draw_and (by kernel_rfl) ?_)
       | (refine both_mk ?_ ?_)
       | (refine br_bool (fun h => ?_) (fun h => ?_) <;> first | have hs := cT h hs | have hs := cF h hs)
       | (refine bind_elim hs fun v hb hs => ?_; first | refine ck_barrier_Fine rfl hb ?_ | refine ck_barrier_Bar_with rfl hb ?_ | refine ck_roll_Enrol rfl hb ?_)
       | refine chk_elim hs fun hs => ?_
       | (have hs := letv_out hs)
       | exact fin_some hs rfl
       | (intro b hb; first | have hs := nilq_elim hs b hb | have hs := nilqn_elim hs b hb)
       | (have hs := cT rfl hs)
       | (have hs := cF rfl hs)
       | exact (none_ne hs).elim)
theorem cq_barrier_Enrol : PCon Go.Proofs.Tryd.prog 23 (liftF (.pair (.pair (.pair .bool (.pair (.int .i64) .unit)) (.pair (.pair (.arr 4 (.int .u64)) (.pair (.arr 4 (.int .u64)) .unit)) (.pair (.int .i64) .unit))) (.pair (.int .i64) .unit)) (unpR (.pair (.pair (.pair .bool (.pair (.int .i64) .unit)) (.pair (.pair (.arr 4 (.int .u64)) (.pair (.arr 4 (.int .u64)) .unit)) (.pair (.int .i64) .unit))) (.pair (.int .i64) .unit))) (fun x => barrier_Enrol x.1 x.2.1)) := lq_barrier_Enrol ▸ c_barrier_Enrol
noncomputable def lf_barrier_Offer : List AV → Option AV := liftF (.pair (.pair (.pair .bool (.pair (.int .i64) .unit)) (.pair (.pair (.arr 4 (.int .u64)) (.pair (.arr 4 (.int .u64)) .unit)) (.pair (.int .i64) .unit))) (.pair (.int .i64) (.pair .bool .unit))) (unpR (.pair (.pair (.pair .bool (.pair (.int .i64) .unit)) (.pair (.pair (.arr 4 (.int .u64)) (.pair (.arr 4 (.int .u64)) .unit)) (.pair (.int .i64) .unit))) (.pair (.int .i64) .unit))) (fun x => barrier_Offer x.1 x.2.1 x.2.2.1)
theorem lq_barrier_Offer : lf_barrier_Offer = liftF (.pair (.pair (.pair .bool (.pair (.int .i64) .unit)) (.pair (.pair (.arr 4 (.int .u64)) (.pair (.arr 4 (.int .u64)) .unit)) (.pair (.int .i64) .unit))) (.pair (.int .i64) (.pair .bool .unit))) (unpR (.pair (.pair (.pair .bool (.pair (.int .i64) .unit)) (.pair (.pair (.arr 4 (.int .u64)) (.pair (.arr 4 (.int .u64)) .unit)) (.pair (.int .i64) .unit))) (.pair (.int .i64) .unit))) (fun x => barrier_Offer x.1 x.2.1 x.2.2.1) := rfl
attribute [irreducible] lf_barrier_Offer
theorem ck_barrier_Offer {vs : List AV} {k : AV → Prop} {x : ((.pair (.pair (.pair .bool (.pair (.int .i64) .unit)) (.pair (.pair (.arr 4 (.int .u64)) (.pair (.arr 4 (.int .u64)) .unit)) (.pair (.int .i64) .unit))) (.pair (.int .i64) (.pair .bool .unit))) : Ty).den} {v : ((Bool × Int × Unit) × ((List Int) × (List Int) × Unit) × Int × Unit) × Int × Unit} (h1 : pks (.pair (.pair (.pair .bool (.pair (.int .i64) .unit)) (.pair (.pair (.arr 4 (.int .u64)) (.pair (.arr 4 (.int .u64)) .unit)) (.pair (.int .i64) .unit))) (.pair (.int .i64) (.pair .bool .unit))) vs = some x) (h2 : barrier_Offer x.1 x.2.1 x.2.2.1 = some v) (h3 : k ((unpR (.pair (.pair (.pair .bool (.pair (.int .i64) .unit)) (.pair (.pair (.arr 4 (.int .u64)) (.pair (.arr 4 (.int .u64)) .unit)) (.pair (.int .i64) .unit))) (.pair (.int .i64) .unit))) v)) : callK (lf_barrier_Offer vs) k := by
  rw [lq_barrier_Offer]; exact callK_lift h1 h2 h3
def tt_barrier_Offer : List (Nat × Ty) := [(3, .int .i64), (4, .bool), (23, .pair .bool (.pair (.int .i64) .unit)), (36, .pair (.arr 4 (.int .u64)) (.pair (.arr 4 (.int .u64)) .unit)), (38, .pair (.pair .bool (.pair (.int .i64) .unit)) (.pair (.pair (.arr 4 (.int .u64)) (.pair (.arr 4 (.int .u64)) .unit)) (.pair (.int .i64) .unit))), (40, .int .i64)]
def et_barrier_Offer : List (Nat × Nat) := []
theorem tt_barrier_Offer_ok : subT tt tt_barrier_Offer = true := by kernel_rfl
theorem et_barrier_Offer_ok : subE et et_barrier_Offer = true := by kernel_rfl
noncomputable def fns_barrier_Offer : List (Nat × (List AV → Option AV)) := [(31, lf_barrier_Fine), (65, lf_phase_Left), (69, lf_barrier_Bar_with), (74, lf_roll_Offer)]
theorem fns_barrier_Offer_ok : FnsOk Go.Proofs.Tryd.prog fns_barrier_Offer := FnsOk.cons c_barrier_Fine (FnsOk.cons c_phase_Left (FnsOk.cons c_barrier_Bar_with (FnsOk.cons c_roll_Offer (FnsOk.nil _))))
def kp_barrier_Offer : List (Nat × List Nat) := [(0, [1, 2, 3, 6]), (1, [1, 2, 3, 6, 8]), (2, [6, 7]), (3, [1, 3, 6, 13]), (4, [6, 7]), (5, [1, 3, 6, 22]), (6, [6, 7]), (7, [6, 7]), (4000000, [3, 6]), (4000001, [3, 6]), (4000002, [6]), (4000003, [3, 6]), (4000004, [6]), (4000005, [3, 6]), (4000006, [6]), (4000007, [6])]
def od_barrier_Offer : List (Nat × Ord) := [(7, (.one 0 (.one 1 (.one 2 (.one 3 (.one 4 (.one 5 (.one 6 (.one 100007 (.one 8 (.one 9 (.one 100010 (.one 11 .nil)))))))))))))]
noncomputable def E_barrier_Offer : Env := ⟨0, 0, et_barrier_Offer, tt_barrier_Offer, fns_barrier_Offer, [], od_barrier_Offer, kp_barrier_Offer, none, []⟩
set_option maxRecDepth 100000 in
set_option maxHeartbeats 40000000 in
theorem c_barrier_Offer : PCon Go.Proofs.Tryd.prog 27 lf_barrier_Offer := by
  rw [lq_barrier_Offer]
  refine lift_conR (E := E_barrier_Offer) (c := bodyOf Tryd.f27) (nt := 41) (rs := [.cell 6 38, .tmp 7]) (ts := [38, 40]) (EnvC.sub (off := 0) (nt := 0) (ords := od_barrier_Offer) (keep := kp_barrier_Offer) (yl := none) tt_ok et_ok fns_barrier_Offer_ok (PrsOk.nil _) (ItsOk.nil _) tt_barrier_Offer_ok et_barrier_Offer_ok) (PrOk.of mixed_ok) Go.Proofs.Tryd.func27 rfl (by decide) rfl rfl rfl (pureR_many (e := (.pair (.pair (.pair .bool (.pair (.int .i64) .unit)) (.pair (.pair (.arr 4 (.int .u64)) (.pair (.arr 4 (.int .u64)) .unit)) (.pair (.int .i64) .unit))) (.pair (.int .i64) .unit))) rfl) ?_
  intro x r hw hs
  repeat'
    (try (conv => whnf)
     first
       | (with_reducible have hs := letv_out hs)
       | (refine draw_and (by kernel_rfl) ?_)
       | (refine both_mk ?_ ?_)
       | (refine br_bool (fun h => ?_) (fun h => ?_) <;> first | have hs := cT h hs | have hs := cF h hs)
       | (refine bind_elim hs fun v hb hs => ?_; first | refine ck_barrier_Fine rfl hb ?_ | refine ck_phase_Left rfl hb ?_ | refine ck_barrier_Bar_with rfl hb ?_ | refine ck_roll_Offer rfl hb ?_)
       | refine chk_elim hs fun hs => ?_
       | (have hs := letv_out hs)
       | exact fin_some hs rfl
       | (intro b hb; first | have hs := nilq_elim hs b hb | have hs := nilqn_elim hs b hb)
       | (have hs := cT rfl hs)
       | (have hs := cF rfl hs)
       | exact (none_ne hs).elim)
theorem cq_barrier_Offer : PCon Go.Proofs.Tryd.prog 27 (liftF (.pair (.pair (.pair .bool (.pair (.int .i64) .unit)) (.pair (.pair (.arr 4 (.int .u64)) (.pair (.arr 4 (.int .u64)) .unit)) (.pair (.int .i64) .unit))) (.pair (.int .i64) (.pair .bool .unit))) (unpR (.pair (.pair (.pair .bool (.pair (.int .i64) .unit)) (.pair (.pair (.arr 4 (.int .u64)) (.pair (.arr 4 (.int .u64)) .unit)) (.pair (.int .i64) .unit))) (.pair (.int .i64) .unit))) (fun x => barrier_Offer x.1 x.2.1 x.2.2.1)) := lq_barrier_Offer ▸ c_barrier_Offer
noncomputable def lf_barrier_Withdraw : List AV → Option AV := liftF (.pair (.pair (.pair .bool (.pair (.int .i64) .unit)) (.pair (.pair (.arr 4 (.int .u64)) (.pair (.arr 4 (.int .u64)) .unit)) (.pair (.int .i64) .unit))) (.pair (.int .i64) .unit)) (unpack (.pair (.pair .bool (.pair (.int .i64) .unit)) (.pair (.pair (.arr 4 (.int .u64)) (.pair (.arr 4 (.int .u64)) .unit)) (.pair (.int .i64) .unit)))) (fun x => barrier_Withdraw x.1 x.2.1)
theorem lq_barrier_Withdraw : lf_barrier_Withdraw = liftF (.pair (.pair (.pair .bool (.pair (.int .i64) .unit)) (.pair (.pair (.arr 4 (.int .u64)) (.pair (.arr 4 (.int .u64)) .unit)) (.pair (.int .i64) .unit))) (.pair (.int .i64) .unit)) (unpack (.pair (.pair .bool (.pair (.int .i64) .unit)) (.pair (.pair (.arr 4 (.int .u64)) (.pair (.arr 4 (.int .u64)) .unit)) (.pair (.int .i64) .unit)))) (fun x => barrier_Withdraw x.1 x.2.1) := rfl
attribute [irreducible] lf_barrier_Withdraw
theorem ck_barrier_Withdraw {vs : List AV} {k : AV → Prop} {x : ((.pair (.pair (.pair .bool (.pair (.int .i64) .unit)) (.pair (.pair (.arr 4 (.int .u64)) (.pair (.arr 4 (.int .u64)) .unit)) (.pair (.int .i64) .unit))) (.pair (.int .i64) .unit)) : Ty).den} {v : (Bool × Int × Unit) × ((List Int) × (List Int) × Unit) × Int × Unit} (h1 : pks (.pair (.pair (.pair .bool (.pair (.int .i64) .unit)) (.pair (.pair (.arr 4 (.int .u64)) (.pair (.arr 4 (.int .u64)) .unit)) (.pair (.int .i64) .unit))) (.pair (.int .i64) .unit)) vs = some x) (h2 : barrier_Withdraw x.1 x.2.1 = some v) (h3 : k ((unpack (.pair (.pair .bool (.pair (.int .i64) .unit)) (.pair (.pair (.arr 4 (.int .u64)) (.pair (.arr 4 (.int .u64)) .unit)) (.pair (.int .i64) .unit)))) v)) : callK (lf_barrier_Withdraw vs) k := by
  rw [lq_barrier_Withdraw]; exact callK_lift h1 h2 h3
def tt_barrier_Withdraw : List (Nat × Ty) := [(3, .int .i64), (36, .pair (.arr 4 (.int .u64)) (.pair (.arr 4 (.int .u64)) .unit)), (38, .pair (.pair .bool (.pair (.int .i64) .unit)) (.pair (.pair (.arr 4 (.int .u64)) (.pair (.arr 4 (.int .u64)) .unit)) (.pair (.int .i64) .unit)))]
def et_barrier_Withdraw : List (Nat × Nat) := []
theorem tt_barrier_Withdraw_ok : subT tt tt_barrier_Withdraw = true := by kernel_rfl
theorem et_barrier_Withdraw_ok : subE et et_barrier_Withdraw = true := by kernel_rfl
noncomputable def fns_barrier_Withdraw : List (Nat × (List AV → Option AV)) := [(31, lf_barrier_Fine), (76, lf_roll_Withdraw)]
theorem fns_barrier_Withdraw_ok : FnsOk Go.Proofs.Tryd.prog fns_barrier_Withdraw := FnsOk.cons c_barrier_Fine (FnsOk.cons c_roll_Withdraw (FnsOk.nil _))
def kp_barrier_Withdraw : List (Nat × List Nat) := [(0, [1, 2, 4]), (1, [1, 2, 4, 6]), (2, [2, 4]), (3, [4]), (4000000, [2, 4]), (4000001, [2, 4]), (4000002, [2, 4]), (4000003, [4])]
def od_barrier_Withdraw : List (Nat × Ord) := []
noncomputable def E_barrier_Withdraw : Env := ⟨0, 0, et_barrier_Withdraw, tt_barrier_Withdraw, fns_barrier_Withdraw, [], od_barrier_Withdraw, kp_barrier_Withdraw, none, []⟩
set_option maxRecDepth 100000 in
set_option maxHeartbeats 40000000 in
theorem c_barrier_Withdraw : PCon Go.Proofs.Tryd.prog 29 lf_barrier_Withdraw := by
  rw [lq_barrier_Withdraw]
  refine lift_conR (E := E_barrier_Withdraw) (c := bodyOf Tryd.f29) (nt := 16) (rs := [.cell 4 38]) (ts := [38]) (EnvC.sub (off := 0) (nt := 0) (ords := od_barrier_Withdraw) (keep := kp_barrier_Withdraw) (yl := none) tt_ok et_ok fns_barrier_Withdraw_ok (PrsOk.nil _) (ItsOk.nil _) tt_barrier_Withdraw_ok et_barrier_Withdraw_ok) (PrOk.of mixed_ok) Go.Proofs.Tryd.func29 rfl (by decide) rfl rfl rfl (pureR_one (e := (.pair (.pair .bool (.pair (.int .i64) .unit)) (.pair (.pair (.arr 4 (.int .u64)) (.pair (.arr 4 (.int .u64)) .unit)) (.pair (.int .i64) .unit)))) rfl) ?_
  intro x r hw hs
  repeat'
    (try (conv => whnf)
     first
       | (with_reducible have hs := letv_out hs)
       | (refine draw_and (by kernel_rfl) ?_)
       | (refine both_mk ?_ ?_)
       | (refine br_bool (fun h => ?_) (fun h => ?_) <;> first | have hs := cT h hs | have hs := cF h hs)
       | (refine bind_elim hs fun v hb hs => ?_; first | refine ck_barrier_Fine rfl hb ?_ | refine ck_roll_Withdraw rfl hb ?_)
       | refine chk_elim hs fun hs => ?_
       | (have hs := letv_out hs)
       | exact fin_some hs rfl
       | (intro b hb; first | have hs := nilq_elim hs b hb | have hs := nilqn_elim hs b hb)
       | (have hs := cT rfl hs)
       | (have hs := cF rfl hs)
       | exact (none_ne hs).elim)
theorem cq_barrier_Withdraw : PCon Go.Proofs.Tryd.prog 29 (liftF (.pair (.pair (.pair .bool (.pair (.int .i64) .unit)) (.pair (.pair (.arr 4 (.int .u64)) (.pair (.arr 4 (.int .u64)) .unit)) (.pair (.int .i64) .unit))) (.pair (.int .i64) .unit)) (unpack (.pair (.pair .bool (.pair (.int .i64) .unit)) (.pair (.pair (.arr 4 (.int .u64)) (.pair (.arr 4 (.int .u64)) .unit)) (.pair (.int .i64) .unit)))) (fun x => barrier_Withdraw x.1 x.2.1)) := lq_barrier_Withdraw ▸ c_barrier_Withdraw
noncomputable def lf_barrier_Resign : List AV → Option AV := liftF (.pair (.pair (.pair .bool (.pair (.int .i64) .unit)) (.pair (.pair (.arr 4 (.int .u64)) (.pair (.arr 4 (.int .u64)) .unit)) (.pair (.int .i64) .unit))) (.pair (.int .i64) .unit)) (unpR (.pair (.pair (.pair .bool (.pair (.int .i64) .unit)) (.pair (.pair (.arr 4 (.int .u64)) (.pair (.arr 4 (.int .u64)) .unit)) (.pair (.int .i64) .unit))) (.pair (.int .i64) .unit))) (fun x => barrier_Resign x.1 x.2.1)
theorem lq_barrier_Resign : lf_barrier_Resign = liftF (.pair (.pair (.pair .bool (.pair (.int .i64) .unit)) (.pair (.pair (.arr 4 (.int .u64)) (.pair (.arr 4 (.int .u64)) .unit)) (.pair (.int .i64) .unit))) (.pair (.int .i64) .unit)) (unpR (.pair (.pair (.pair .bool (.pair (.int .i64) .unit)) (.pair (.pair (.arr 4 (.int .u64)) (.pair (.arr 4 (.int .u64)) .unit)) (.pair (.int .i64) .unit))) (.pair (.int .i64) .unit))) (fun x => barrier_Resign x.1 x.2.1) := rfl
attribute [irreducible] lf_barrier_Resign
theorem ck_barrier_Resign {vs : List AV} {k : AV → Prop} {x : ((.pair (.pair (.pair .bool (.pair (.int .i64) .unit)) (.pair (.pair (.arr 4 (.int .u64)) (.pair (.arr 4 (.int .u64)) .unit)) (.pair (.int .i64) .unit))) (.pair (.int .i64) .unit)) : Ty).den} {v : ((Bool × Int × Unit) × ((List Int) × (List Int) × Unit) × Int × Unit) × Int × Unit} (h1 : pks (.pair (.pair (.pair .bool (.pair (.int .i64) .unit)) (.pair (.pair (.arr 4 (.int .u64)) (.pair (.arr 4 (.int .u64)) .unit)) (.pair (.int .i64) .unit))) (.pair (.int .i64) .unit)) vs = some x) (h2 : barrier_Resign x.1 x.2.1 = some v) (h3 : k ((unpR (.pair (.pair (.pair .bool (.pair (.int .i64) .unit)) (.pair (.pair (.arr 4 (.int .u64)) (.pair (.arr 4 (.int .u64)) .unit)) (.pair (.int .i64) .unit))) (.pair (.int .i64) .unit))) v)) : callK (lf_barrier_Resign vs) k := by
  rw [lq_barrier_Resign]; exact callK_lift h1 h2 h3
def tt_barrier_Resign : List (Nat × Ty) := [(3, .int .i64), (4, .bool), (36, .pair (.arr 4 (.int .u64)) (.pair (.arr 4 (.int .u64)) .unit)), (38, .pair (.pair .bool (.pair (.int .i64) .unit)) (.pair (.pair (.arr 4 (.int .u64)) (.pair (.arr 4 (.int .u64)) .unit)) (.pair (.int .i64) .unit))), (40, .int .i64)]
def et_barrier_Resign : List (Nat × Nat) := []
theorem tt_barrier_Resign_ok : subT tt tt_barrier_Resign = true := by kernel_rfl
theorem et_barrier_Resign_ok : subE et et_barrier_Resign = true := by kernel_rfl
noncomputable def fns_barrier_Resign : List (Nat × (List AV → Option AV)) := [(31, lf_barrier_Fine), (69, lf_barrier_Bar_with), (72, lf_roll_Resign)]
theorem fns_barrier_Resign_ok : FnsOk Go.Proofs.Tryd.prog fns_barrier_Resign := FnsOk.cons c_barrier_Fine (FnsOk.cons c_barrier_Bar_with (FnsOk.cons c_roll_Resign (FnsOk.nil _)))
def kp_barrier_Resign : List (Nat × List Nat) := [(0, [1, 2, 4]), (1, [1, 2, 4, 8]), (2, [4, 5]), (3, [4, 5]), (4000000, [2, 4]), (4000001, [2, 4]), (4000002, [4]), (4000003, [4])]
def od_barrier_Resign : List (Nat × Ord) := [(3, (.one 0 (.one 1 (.one 2 (.one 3 (.one 4 (.one 5 (.one 6 (.one 100007 (.one 8 (.one 9 (.one 100010 (.one 11 .nil)))))))))))))]
noncomputable def E_barrier_Resign : Env := ⟨0, 0, et_barrier_Resign, tt_barrier_Resign, fns_barrier_Resign, [], od_barrier_Resign, kp_barrier_Resign, none, []⟩
set_option maxRecDepth 100000 in
set_option maxHeartbeats 40000000 in
theorem c_barrier_Resign : PCon Go.Proofs.Tryd.prog 25 lf_barrier_Resign := by
  rw [lq_barrier_Resign]
  refine lift_conR (E := E_barrier_Resign) (c := bodyOf Tryd.f25) (nt := 20) (rs := [.cell 4 38, .tmp 5]) (ts := [38, 40]) (EnvC.sub (off := 0) (nt := 0) (ords := od_barrier_Resign) (keep := kp_barrier_Resign) (yl := none) tt_ok et_ok fns_barrier_Resign_ok (PrsOk.nil _) (ItsOk.nil _) tt_barrier_Resign_ok et_barrier_Resign_ok) (PrOk.of mixed_ok) Go.Proofs.Tryd.func25 rfl (by decide) rfl rfl rfl (pureR_many (e := (.pair (.pair (.pair .bool (.pair (.int .i64) .unit)) (.pair (.pair (.arr 4 (.int .u64)) (.pair (.arr 4 (.int .u64)) .unit)) (.pair (.int .i64) .unit))) (.pair (.int .i64) .unit))) rfl) ?_
  intro x r hw hs
  repeat'
    (try (conv => whnf)
     first
       | (with_reducible have hs := letv_out hs)
       | (refine draw_and (by kernel_rfl) ?_)
       | (refine both_mk ?_ ?_)
       | (refine br_bool (fun h => ?_) (fun h => ?_) <;> first | have hs := cT h hs | have hs := cF h hs)
       | (refine bind_elim hs fun v hb hs => ?_; first | refine ck_barrier_Fine rfl hb ?_ | refine ck_barrier_Bar_with rfl hb ?_ | refine ck_roll_Resign rfl hb ?_)
       | refine chk_elim hs fun hs => ?_
       | (have hs := letv_out hs)
       | exact fin_some hs rfl
       | (intro b hb; first | have hs := nilq_elim hs b hb | have hs := nilqn_elim hs b hb)
       | (have hs := cT rfl hs)
       | (have hs := cF rfl hs)
       | exact (none_ne hs).elim)
theorem cq_barrier_Resign : PCon Go.Proofs.Tryd.prog 25 (liftF (.pair (.pair (.pair .bool (.pair (.int .i64) .unit)) (.pair (.pair (.arr 4 (.int .u64)) (.pair (.arr 4 (.int .u64)) .unit)) (.pair (.int .i64) .unit))) (.pair (.int .i64) .unit)) (unpR (.pair (.pair (.pair .bool (.pair (.int .i64) .unit)) (.pair (.pair (.arr 4 (.int .u64)) (.pair (.arr 4 (.int .u64)) .unit)) (.pair (.int .i64) .unit))) (.pair (.int .i64) .unit))) (fun x => barrier_Resign x.1 x.2.1)) := lq_barrier_Resign ▸ c_barrier_Resign
end Go.Proofs.YtkpobmmabmelfaaDoorV
