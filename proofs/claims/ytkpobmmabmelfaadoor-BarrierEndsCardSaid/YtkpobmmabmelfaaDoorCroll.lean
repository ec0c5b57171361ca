import Derived.Test.YtkpobmmabmelfaaDoorVcTab
import Derived.Test.YtkpobmmabmelfaaDoorDroll
import Derived.Test.YtkpobmmabmelfaaDoorCbitset
namespace Go.Proofs.YtkpobmmabmelfaaDoorV
open Go.Proofs
set_option linter.unusedVariables false
noncomputable def lf_roll_Fine : List AV → Option AV := liftF (.pair (.pair (.arr 4 (.int .u64)) (.pair (.arr 4 (.int .u64)) .unit)) .unit) (unpack .bool) (fun x => roll_Fine x.1)
theorem lq_roll_Fine : lf_roll_Fine = liftF (.pair (.pair (.arr 4 (.int .u64)) (.pair (.arr 4 (.int .u64)) .unit)) .unit) (unpack .bool) (fun x => roll_Fine x.1) := rfl
attribute [irreducible] lf_roll_Fine
theorem ck_roll_Fine {vs : List AV} {k : AV → Prop} {x : ((.pair (.pair (.arr 4 (.int .u64)) (.pair (.arr 4 (.int .u64)) .unit)) .unit) : Ty).den} {v : Bool} (h1 : pks (.pair (.pair (.arr 4 (.int .u64)) (.pair (.arr 4 (.int .u64)) .unit)) .unit) vs = some x) (h2 : roll_Fine x.1 = some v) (h3 : k ((unpack .bool) v)) : callK (lf_roll_Fine vs) k := by
  rw [lq_roll_Fine]; exact callK_lift h1 h2 h3
def tt_roll_Fine : List (Nat × Ty) := [(4, .bool), (34, .arr 4 (.int .u64)), (36, .pair (.arr 4 (.int .u64)) (.pair (.arr 4 (.int .u64)) .unit))]
def et_roll_Fine : List (Nat × Nat) := []
theorem tt_roll_Fine_ok : subT tt tt_roll_Fine = true := by kernel_rfl
theorem et_roll_Fine_ok : subE et et_roll_Fine = true := by kernel_rfl
noncomputable def fns_roll_Fine : List (Nat × (List AV → Option AV)) := [(102, lf_bitset_Sub)]
theorem fns_roll_Fine_ok : FnsOk Go.Proofs.Tryd.prog fns_roll_Fine := FnsOk.cons c_bitset_Sub (FnsOk.nil _)
def kp_roll_Fine : List (Nat × List Nat) := [(0, [1]), (1, [2]), (4000000, [1]), (4000001, [])]
def od_roll_Fine : List (Nat × Ord) := []
noncomputable def E_roll_Fine : Env := ⟨0, 0, et_roll_Fine, tt_roll_Fine, fns_roll_Fine, [], od_roll_Fine, kp_roll_Fine, none, []⟩
set_option maxRecDepth 100000 in
set_option maxHeartbeats 40000000 in
theorem c_roll_Fine : PCon Go.Proofs.Tryd.prog 79 lf_roll_Fine := by
  rw [lq_roll_Fine]
  refine lift_conR (E := E_roll_Fine) (c := bodyOf Tryd.f79) (nt := 14) (rs := [.tmp 2]) (ts := [4]) (EnvC.sub (off := 0) (nt := 0) (ords := od_roll_Fine) (keep := kp_roll_Fine) (yl := none) tt_ok et_ok fns_roll_Fine_ok (PrsOk.nil _) (ItsOk.nil _) tt_roll_Fine_ok et_roll_Fine_ok) (PrOk.of mixed_ok) Go.Proofs.Tryd.func79 rfl (by decide) rfl rfl rfl (pureR_one (e := .bool) rfl) ?_
  intro x r hw hs
  repeat'
    (try (conv => whnf)
     first
       | (with_reducible have hs := letv_out hs)
       | (refine draw_and (by kernel_rfl) ?_)
       | (refine both_mk ?_ ?_)
       | (refine br_bool (fun h => ?_) (fun h => ?_) <;> first | have hs := cT h hs | have hs := cF h hs)
       | (refine bind_elim hs fun v hb hs => ?_; first | refine ck_bitset_Sub rfl hb ?_)
       | refine chk_elim hs fun hs => ?_
       | (have hs := letv_out hs)
       | exact fin_some hs rfl
       | (intro b hb; first | have hs := nilq_elim hs b hb | have hs := nilqn_elim hs b hb)
       | (have hs := cT rfl hs)
       | (have hs := cF rfl hs)
       | exact (none_ne hs).elim)
theorem cq_roll_Fine : PCon Go.Proofs.Tryd.prog 79 (liftF (.pair (.pair (.arr 4 (.int .u64)) (.pair (.arr 4 (.int .u64)) .unit)) .unit) (unpack .bool) (fun x => roll_Fine x.1)) := lq_roll_Fine ▸ c_roll_Fine
noncomputable def lf_roll_Full : List AV → Option AV := liftF (.pair (.pair (.arr 4 (.int .u64)) (.pair (.arr 4 (.int .u64)) .unit)) .unit) (unpack .bool) (fun x => roll_Full x.1)
theorem lq_roll_Full : lf_roll_Full = liftF (.pair (.pair (.arr 4 (.int .u64)) (.pair (.arr 4 (.int .u64)) .unit)) .unit) (unpack .bool) (fun x => roll_Full x.1) := rfl
attribute [irreducible] lf_roll_Full
theorem ck_roll_Full {vs : List AV} {k : AV → Prop} {x : ((.pair (.pair (.arr 4 (.int .u64)) (.pair (.arr 4 (.int .u64)) .unit)) .unit) : Ty).den} {v : Bool} (h1 : pks (.pair (.pair (.arr 4 (.int .u64)) (.pair (.arr 4 (.int .u64)) .unit)) .unit) vs = some x) (h2 : roll_Full x.1 = some v) (h3 : k ((unpack .bool) v)) : callK (lf_roll_Full vs) k := by
  rw [lq_roll_Full]; exact callK_lift h1 h2 h3
def tt_roll_Full : List (Nat × Ty) := [(4, .bool), (34, .arr 4 (.int .u64)), (36, .pair (.arr 4 (.int .u64)) (.pair (.arr 4 (.int .u64)) .unit))]
def et_roll_Full : List (Nat × Nat) := []
theorem tt_roll_Full_ok : subT tt tt_roll_Full = true := by kernel_rfl
theorem et_roll_Full_ok : subE et et_roll_Full = true := by kernel_rfl
noncomputable def fns_roll_Full : List (Nat × (List AV → Option AV)) := [(79, lf_roll_Fine)]
theorem fns_roll_Full_ok : FnsOk Go.Proofs.Tryd.prog fns_roll_Full := FnsOk.cons c_roll_Fine (FnsOk.nil _)
def kp_roll_Full : List (Nat × List Nat) := [(0, [1]), (1, [2]), (4000000, [1]), (4000001, [])]
def od_roll_Full : List (Nat × Ord) := []
noncomputable def E_roll_Full : Env := ⟨0, 0, et_roll_Full, tt_roll_Full, fns_roll_Full, [], od_roll_Full, kp_roll_Full, none, []⟩
set_option maxRecDepth 100000 in
set_option maxHeartbeats 40000000 in
theorem c_roll_Full : PCon Go.Proofs.Tryd.prog 64 lf_roll_Full := by
  rw [lq_roll_Full]
  refine lift_conR (E := E_roll_Full) (c := bodyOf Tryd.f64) (nt := 18) (rs := [.tmp 2]) (ts := [4]) (EnvC.sub (off := 0) (nt := 0) (ords := od_roll_Full) (keep := kp_roll_Full) (yl := none) tt_ok et_ok fns_roll_Full_ok (PrsOk.nil _) (ItsOk.nil _) tt_roll_Full_ok et_roll_Full_ok) (PrOk.of mixed_ok) Go.Proofs.Tryd.func64 rfl (by decide) rfl rfl rfl (pureR_one (e := .bool) rfl) ?_
  intro x r hw hs
  repeat'
    (try (conv => whnf)
     first
       | (with_reducible have hs := letv_out hs)
       | (refine draw_and (by kernel_rfl) ?_)
       | (refine both_mk ?_ ?_)
       | (refine br_bool (fun h => ?_) (fun h => ?_) <;> first | have hs := cT h hs | have hs := cF h hs)
       | (refine bind_elim hs fun v hb hs => ?_; first | refine ck_roll_Fine rfl hb ?_)
       | refine chk_elim hs fun hs => ?_
       | (have hs := letv_out hs)
       | exact fin_some hs rfl
       | (intro b hb; first | have hs := nilq_elim hs b hb | have hs := nilqn_elim hs b hb)
       | (have hs := cT rfl hs)
       | (have hs := cF rfl hs)
       | exact (none_ne hs).elim)
theorem cq_roll_Full : PCon Go.Proofs.Tryd.prog 64 (liftF (.pair (.pair (.arr 4 (.int .u64)) (.pair (.arr 4 (.int .u64)) .unit)) .unit) (unpack .bool) (fun x => roll_Full x.1)) := lq_roll_Full ▸ c_roll_Full
noncomputable def lf_roll_Fire : List AV → Option AV := liftF (.pair (.pair (.arr 4 (.int .u64)) (.pair (.arr 4 (.int .u64)) .unit)) .unit) (unpR (.pair (.pair (.arr 4 (.int .u64)) (.pair (.arr 4 (.int .u64)) .unit)) (.pair (.sl (.int .i64)) (.pair (.int .i64) .unit)))) (fun x => roll_Fire x.1)
theorem lq_roll_Fire : lf_roll_Fire = liftF (.pair (.pair (.arr 4 (.int .u64)) (.pair (.arr 4 (.int .u64)) .unit)) .unit) (unpR (.pair (.pair (.arr 4 (.int .u64)) (.pair (.arr 4 (.int .u64)) .unit)) (.pair (.sl (.int .i64)) (.pair (.int .i64) .unit)))) (fun x => roll_Fire x.1) := rfl
attribute [irreducible] lf_roll_Fire
theorem ck_roll_Fire {vs : List AV} {k : AV → Prop} {x : ((.pair (.pair (.arr 4 (.int .u64)) (.pair (.arr 4 (.int .u64)) .unit)) .unit) : Ty).den} {v : ((List Int) × (List Int) × Unit) × (List Int) × Int × Unit} (h1 : pks (.pair (.pair (.arr 4 (.int .u64)) (.pair (.arr 4 (.int .u64)) .unit)) .unit) vs = some x) (h2 : roll_Fire x.1 = some v) (h3 : k ((unpR (.pair (.pair (.arr 4 (.int .u64)) (.pair (.arr 4 (.int .u64)) .unit)) (.pair (.sl (.int .i64)) (.pair (.int .i64) .unit)))) v)) : callK (lf_roll_Fire vs) k := by
  rw [lq_roll_Fire]; exact callK_lift h1 h2 h3
def tt_roll_Fire : List (Nat × Ty) := [(4, .bool), (24, .sl (.int .i64)), (34, .arr 4 (.int .u64)), (36, .pair (.arr 4 (.int .u64)) (.pair (.arr 4 (.int .u64)) .unit)), (40, .int .i64)]
def et_roll_Fire : List (Nat × Nat) := [(24, 3)]
theorem tt_roll_Fire_ok : subT tt tt_roll_Fire = true := by kernel_rfl
theorem et_roll_Fire_ok : subE et et_roll_Fire = true := by kernel_rfl
noncomputable def fns_roll_Fire : List (Nat × (List AV → Option AV)) := [(64, lf_roll_Full), (79, lf_roll_Fine), (94, lf_bitset_List)]
theorem fns_roll_Fire_ok : FnsOk Go.Proofs.Tryd.prog fns_roll_Fire := FnsOk.cons c_roll_Full (FnsOk.cons c_roll_Fine (FnsOk.cons c_bitset_List (FnsOk.nil _)))
def kp_roll_Fire : List (Nat × List Nat) := [(0, [1, 2]), (1, [1, 2, 6]), (2, [2, 3, 4]), (3, [1, 2, 11]), (4, [2, 3, 4]), (5, [1, 2, 5]), (6, [1, 2, 5]), (7, [2, 3, 4]), (4000000, [1, 2]), (4000001, [1, 2]), (4000002, [2]), (4000003, [1, 2]), (4000004, [2]), (4000005, [1, 2]), (4000006, [1, 2]), (4000007, [2])]
def od_roll_Fire : List (Nat × Ord) := []
noncomputable def E_roll_Fire : Env := ⟨0, 0, et_roll_Fire, tt_roll_Fire, fns_roll_Fire, [], od_roll_Fire, kp_roll_Fire, none, []⟩
set_option maxRecDepth 100000 in
set_option maxHeartbeats 40000000 in
theorem c_roll_Fire : PCon Go.Proofs.Tryd.prog 61 lf_roll_Fire := by
  rw [lq_roll_Fire]
  refine lift_conR (E := E_roll_Fire) (c := bodyOf Tryd.f61) (nt := 23) (rs := [.cell 2 36, .tmp 3, .tmp 4]) (ts := [36, 24, 40]) (EnvC.sub (off := 0) (nt := 0) (ords := od_roll_Fire) (keep := kp_roll_Fire) (yl := none) tt_ok et_ok fns_roll_Fire_ok (PrsOk.nil _) (ItsOk.nil _) tt_roll_Fire_ok et_roll_Fire_ok) (PrOk.of mixed_ok) Go.Proofs.Tryd.func61 rfl (by decide) rfl rfl rfl (pureR_many (e := (.pair (.pair (.arr 4 (.int .u64)) (.pair (.arr 4 (.int .u64)) .unit)) (.pair (.sl (.int .i64)) (.pair (.int .i64) .unit)))) rfl) ?_
  intro x r hw hs
  repeat'
    (try (conv => whnf)
     first
       | (with_reducible have hs := letv_out hs)
       | (refine draw_and (by kernel_rfl) ?_)
       | (refine both_mk ?_ ?_)
       | (refine br_bool (fun h => ?_) (fun h => ?_) <;> first | have hs := cT h hs | have hs := cF h hs)
       | (refine bind_elim hs fun v hb hs => ?_; first | refine ck_roll_Full rfl hb ?_ | refine ck_roll_Fine rfl hb ?_ | refine ck_bitset_List rfl hb ?_)
       | refine chk_elim hs fun hs => ?_
       | (have hs := letv_out hs)
       | exact fin_some hs rfl
       | (intro b hb; first | have hs := nilq_elim hs b hb | have hs := nilqn_elim hs b hb)
       | (have hs := cT rfl hs)
       | (have hs := cF rfl hs)
       | exact (none_ne hs).elim)
theorem cq_roll_Fire : PCon Go.Proofs.Tryd.prog 61 (liftF (.pair (.pair (.arr 4 (.int .u64)) (.pair (.arr 4 (.int .u64)) .unit)) .unit) (unpR (.pair (.pair (.arr 4 (.int .u64)) (.pair (.arr 4 (.int .u64)) .unit)) (.pair (.sl (.int .i64)) (.pair (.int .i64) .unit)))) (fun x => roll_Fire x.1)) := lq_roll_Fire ▸ c_roll_Fire
noncomputable def lf_roll_asked : List AV → Option AV := liftF (.pair (.pair (.arr 4 (.int .u64)) (.pair (.arr 4 (.int .u64)) .unit)) (.pair (.int .i64) .unit)) (unpack (.int .i64)) (fun x => roll_asked x.1 x.2.1)
theorem lq_roll_asked : lf_roll_asked = liftF (.pair (.pair (.arr 4 (.int .u64)) (.pair (.arr 4 (.int .u64)) .unit)) (.pair (.int .i64) .unit)) (unpack (.int .i64)) (fun x => roll_asked x.1 x.2.1) := rfl
attribute [irreducible] lf_roll_asked
theorem ck_roll_asked {vs : List AV} {k : AV → Prop} {x : ((.pair (.pair (.arr 4 (.int .u64)) (.pair (.arr 4 (.int .u64)) .unit)) (.pair (.int .i64) .unit)) : Ty).den} {v : Int} (h1 : pks (.pair (.pair (.arr 4 (.int .u64)) (.pair (.arr 4 (.int .u64)) .unit)) (.pair (.int .i64) .unit)) vs = some x) (h2 : roll_asked x.1 x.2.1 = some v) (h3 : k ((unpack (.int .i64)) v)) : callK (lf_roll_asked vs) k := by
  rw [lq_roll_asked]; exact callK_lift h1 h2 h3
def tt_roll_asked : List (Nat × Ty) := [(3, .int .i64), (4, .bool), (34, .arr 4 (.int .u64)), (36, .pair (.arr 4 (.int .u64)) (.pair (.arr 4 (.int .u64)) .unit)), (40, .int .i64)]
def et_roll_asked : List (Nat × Nat) := []
theorem tt_roll_asked_ok : subT tt tt_roll_asked = true := by kernel_rfl
theorem et_roll_asked_ok : subE et et_roll_asked = true := by kernel_rfl
noncomputable def fns_roll_asked : List (Nat × (List AV → Option AV)) := [(36, lf_bitset_Has), (79, lf_roll_Fine)]
theorem fns_roll_asked_ok : FnsOk Go.Proofs.Tryd.prog fns_roll_asked := FnsOk.cons c_bitset_Has (FnsOk.cons c_roll_Fine (FnsOk.nil _))
def kp_roll_asked : List (Nat × List Nat) := [(0, [1, 2]), (1, [1, 5]), (2, [4]), (3, [9]), (4, [4]), (5, [4]), (4000000, [2]), (4000001, []), (4000002, []), (4000003, []), (4000004, []), (4000005, [])]
def od_roll_asked : List (Nat × Ord) := []
noncomputable def E_roll_asked : Env := ⟨0, 0, et_roll_asked, tt_roll_asked, fns_roll_asked, [], od_roll_asked, kp_roll_asked, none, []⟩
set_option maxRecDepth 100000 in
set_option maxHeartbeats 40000000 in
theorem c_roll_asked : PCon Go.Proofs.Tryd.prog 95 lf_roll_asked := by
  rw [lq_roll_asked]
  refine lift_conR (E := E_roll_asked) (c := bodyOf Tryd.f95) (nt := 14) (rs := [.tmp 4]) (ts := [40]) (EnvC.sub (off := 0) (nt := 0) (ords := od_roll_asked) (keep := kp_roll_asked) (yl := none) tt_ok et_ok fns_roll_asked_ok (PrsOk.nil _) (ItsOk.nil _) tt_roll_asked_ok et_roll_asked_ok) (PrOk.of mixed_ok) Go.Proofs.Tryd.func95 rfl (by decide) rfl rfl rfl (pureR_one (e := (.int .i64)) rfl) ?_
  intro x r hw hs
  repeat'
    (try (conv => whnf)
     first
       | (with_reducible have hs := letv_out hs)
       | (refine draw_and (by kernel_rfl) ?_)
       | (refine both_mk ?_ ?_)
       | (refine br_bool (fun h => ?_) (fun h => ?_) <;> first | have hs := cT h hs | have hs := cF h hs)
       | (refine bind_elim hs fun v hb hs => ?_; first | refine ck_bitset_Has rfl hb ?_ | refine ck_roll_Fine rfl hb ?_)
       | refine chk_elim hs fun hs => ?_
       | (have hs := letv_out hs)
       | exact fin_some hs rfl
       | (intro b hb; first | have hs := nilq_elim hs b hb | have hs := nilqn_elim hs b hb)
       | (have hs := cT rfl hs)
       | (have hs := cF rfl hs)
       | exact (none_ne hs).elim)
theorem cq_roll_asked : PCon Go.Proofs.Tryd.prog 95 (liftF (.pair (.pair (.arr 4 (.int .u64)) (.pair (.arr 4 (.int .u64)) .unit)) (.pair (.int .i64) .unit)) (unpack (.int .i64)) (fun x => roll_asked x.1 x.2.1)) := lq_roll_asked ▸ c_roll_asked
noncomputable def lf_roll_Enrol : List AV → Option AV := liftF (.pair (.pair (.arr 4 (.int .u64)) (.pair (.arr 4 (.int .u64)) .unit)) (.pair (.int .i64) .unit)) (unpR (.pair (.pair (.arr 4 (.int .u64)) (.pair (.arr 4 (.int .u64)) .unit)) (.pair (.int .i64) .unit))) (fun x => roll_Enrol x.1 x.2.1)
theorem lq_roll_Enrol : lf_roll_Enrol = liftF (.pair (.pair (.arr 4 (.int .u64)) (.pair (.arr 4 (.int .u64)) .unit)) (.pair (.int .i64) .unit)) (unpR (.pair (.pair (.arr 4 (.int .u64)) (.pair (.arr 4 (.int .u64)) .unit)) (.pair (.int .i64) .unit))) (fun x => roll_Enrol x.1 x.2.1) := rfl
attribute [irreducible] lf_roll_Enrol
theorem ck_roll_Enrol {vs : List AV} {k : AV → Prop} {x : ((.pair (.pair (.arr 4 (.int .u64)) (.pair (.arr 4 (.int .u64)) .unit)) (.pair (.int .i64) .unit)) : Ty).den} {v : ((List Int) × (List Int) × Unit) × Int × Unit} (h1 : pks (.pair (.pair (.arr 4 (.int .u64)) (.pair (.arr 4 (.int .u64)) .unit)) (.pair (.int .i64) .unit)) vs = some x) (h2 : roll_Enrol x.1 x.2.1 = some v) (h3 : k ((unpR (.pair (.pair (.arr 4 (.int .u64)) (.pair (.arr 4 (.int .u64)) .unit)) (.pair (.int .i64) .unit))) v)) : callK (lf_roll_Enrol vs) k := by
  rw [lq_roll_Enrol]; exact callK_lift h1 h2 h3
def tt_roll_Enrol : List (Nat × Ty) := [(3, .int .i64), (34, .arr 4 (.int .u64)), (36, .pair (.arr 4 (.int .u64)) (.pair (.arr 4 (.int .u64)) .unit)), (40, .int .i64)]
def et_roll_Enrol : List (Nat × Nat) := []
theorem tt_roll_Enrol_ok : subT tt tt_roll_Enrol = true := by kernel_rfl
theorem et_roll_Enrol_ok : subE et et_roll_Enrol = true := by kernel_rfl
noncomputable def fns_roll_Enrol : List (Nat × (List AV → Option AV)) := [(36, lf_bitset_Has), (95, lf_roll_asked), (96, lf_bitset_Add)]
theorem fns_roll_Enrol_ok : FnsOk Go.Proofs.Tryd.prog fns_roll_Enrol := FnsOk.cons c_bitset_Has (FnsOk.cons c_roll_asked (FnsOk.cons c_bitset_Add (FnsOk.nil _)))
def kp_roll_Enrol : List (Nat × List Nat) := [(0, [1, 2, 4]), (1, [1, 2, 4, 6]), (2, [1, 2, 4, 6, 11]), (3, [4, 5]), (4, [1, 2, 4, 17]), (5, [4, 5]), (6, [2, 4]), (7, [4, 5]), (4000000, [2, 4]), (4000001, [2, 4]), (4000002, [2, 4]), (4000003, [4]), (4000004, [2, 4]), (4000005, [4]), (4000006, [2, 4]), (4000007, [4])]
def od_roll_Enrol : List (Nat × Ord) := []
noncomputable def E_roll_Enrol : Env := ⟨0, 0, et_roll_Enrol, tt_roll_Enrol, fns_roll_Enrol, [], od_roll_Enrol, kp_roll_Enrol, none, []⟩
set_option maxRecDepth 100000 in
set_option maxHeartbeats 40000000 in
theorem c_roll_Enrol : PCon Go.Proofs.Tryd.prog 70 lf_roll_Enrol := by
  rw [lq_roll_Enrol]
  refine lift_conR (E := E_roll_Enrol) (c := bodyOf Tryd.f70) (nt := 25) (rs := [.cell 4 36, .tmp 5]) (ts := [36, 40]) (EnvC.sub (off := 0) (nt := 0) (ords := od_roll_Enrol) (keep := kp_roll_Enrol) (yl := none) tt_ok et_ok fns_roll_Enrol_ok (PrsOk.nil _) (ItsOk.nil _) tt_roll_Enrol_ok et_roll_Enrol_ok) (PrOk.of mixed_ok) Go.Proofs.Tryd.func70 rfl (by decide) rfl rfl rfl (pureR_many (e := (.pair (.pair (.arr 4 (.int .u64)) (.pair (.arr 4 (.int .u64)) .unit)) (.pair (.int .i64) .unit))) rfl) ?_
  intro x r hw hs
  repeat'
    (try (conv => whnf)
     first
       | (with_reducible have hs := letv_out hs)
       | (refine draw_and (by kernel_rfl) ?_)
       | (refine both_mk ?_ ?_)
       | (refine br_bool (fun h => ?_) (fun h => ?_) <;> first | have hs := cT h hs | have hs := cF h hs)
       | (refine bind_elim hs fun v hb hs => ?_; first | refine ck_bitset_Has rfl hb ?_ | refine ck_roll_asked rfl hb ?_ | refine ck_bitset_Add rfl hb ?_)
       | refine chk_elim hs fun hs => ?_
       | (have hs := letv_out hs)
       | exact fin_some hs rfl
       | (intro b hb; first | have hs := nilq_elim hs b hb | have hs := nilqn_elim hs b hb)
       | (have hs := cT rfl hs)
       | (have hs := cF rfl hs)
       | exact (none_ne hs).elim)
theorem cq_roll_Enrol : PCon Go.Proofs.Tryd.prog 70 (liftF (.pair (.pair (.arr 4 (.int .u64)) (.pair (.arr 4 (.int .u64)) .unit)) (.pair (.int .i64) .unit)) (unpR (.pair (.pair (.arr 4 (.int .u64)) (.pair (.arr 4 (.int .u64)) .unit)) (.pair (.int .i64) .unit))) (fun x => roll_Enrol x.1 x.2.1)) := lq_roll_Enrol ▸ c_roll_Enrol
noncomputable def lf_roll_Offer : List AV → Option AV := liftF (.pair (.pair (.arr 4 (.int .u64)) (.pair (.arr 4 (.int .u64)) .unit)) (.pair (.int .i64) .unit)) (unpR (.pair (.pair (.arr 4 (.int .u64)) (.pair (.arr 4 (.int .u64)) .unit)) (.pair (.int .i64) .unit))) (fun x => roll_Offer x.1 x.2.1)
theorem lq_roll_Offer : lf_roll_Offer = liftF (.pair (.pair (.arr 4 (.int .u64)) (.pair (.arr 4 (.int .u64)) .unit)) (.pair (.int .i64) .unit)) (unpR (.pair (.pair (.arr 4 (.int .u64)) (.pair (.arr 4 (.int .u64)) .unit)) (.pair (.int .i64) .unit))) (fun x => roll_Offer x.1 x.2.1) := rfl
attribute [irreducible] lf_roll_Offer
theorem ck_roll_Offer {vs : List AV} {k : AV → Prop} {x : ((.pair (.pair (.arr 4 (.int .u64)) (.pair (.arr 4 (.int .u64)) .unit)) (.pair (.int .i64) .unit)) : Ty).den} {v : ((List Int) × (List Int) × Unit) × Int × Unit} (h1 : pks (.pair (.pair (.arr 4 (.int .u64)) (.pair (.arr 4 (.int .u64)) .unit)) (.pair (.int .i64) .unit)) vs = some x) (h2 : roll_Offer x.1 x.2.1 = some v) (h3 : k ((unpR (.pair (.pair (.arr 4 (.int .u64)) (.pair (.arr 4 (.int .u64)) .unit)) (.pair (.int .i64) .unit))) v)) : callK (lf_roll_Offer vs) k := by
  rw [lq_roll_Offer]; exact callK_lift h1 h2 h3
def tt_roll_Offer : List (Nat × Ty) := [(3, .int .i64), (4, .bool), (34, .arr 4 (.int .u64)), (36, .pair (.arr 4 (.int .u64)) (.pair (.arr 4 (.int .u64)) .unit)), (40, .int .i64)]
def et_roll_Offer : List (Nat × Nat) := []
theorem tt_roll_Offer_ok : subT tt tt_roll_Offer = true := by kernel_rfl
theorem et_roll_Offer_ok : subE et et_roll_Offer = true := by kernel_rfl
noncomputable def fns_roll_Offer : List (Nat × (List AV → Option AV)) := [(36, lf_bitset_Has), (95, lf_roll_asked), (96, lf_bitset_Add)]
theorem fns_roll_Offer_ok : FnsOk Go.Proofs.Tryd.prog fns_roll_Offer := FnsOk.cons c_bitset_Has (FnsOk.cons c_roll_asked (FnsOk.cons c_bitset_Add (FnsOk.nil _)))
def kp_roll_Offer : List (Nat × List Nat) := [(0, [1, 2, 4]), (1, [1, 2, 4, 6]), (2, [1, 2, 4, 6, 10]), (3, [4, 5]), (4, [1, 2, 4, 15]), (5, [4, 5]), (6, [1, 2, 4, 22]), (7, [4, 5]), (8, [2, 4]), (9, [4, 5]), (4000000, [2, 4]), (4000001, [2, 4]), (4000002, [2, 4]), (4000003, [4]), (4000004, [2, 4]), (4000005, [4]), (4000006, [2, 4]), (4000007, [4]), (4000008, [2, 4]), (4000009, [4])]
def od_roll_Offer : List (Nat × Ord) := []
noncomputable def E_roll_Offer : Env := ⟨0, 0, et_roll_Offer, tt_roll_Offer, fns_roll_Offer, [], od_roll_Offer, kp_roll_Offer, none, []⟩
set_option maxRecDepth 100000 in
set_option maxHeartbeats 40000000 in
theorem c_roll_Offer : PCon Go.Proofs.Tryd.prog 74 lf_roll_Offer := by
  rw [lq_roll_Offer]
  refine lift_conR (E := E_roll_Offer) (c := bodyOf Tryd.f74) (nt := 34) (rs := [.cell 4 36, .tmp 5]) (ts := [36, 40]) (EnvC.sub (off := 0) (nt := 0) (ords := od_roll_Offer) (keep := kp_roll_Offer) (yl := none) tt_ok et_ok fns_roll_Offer_ok (PrsOk.nil _) (ItsOk.nil _) tt_roll_Offer_ok et_roll_Offer_ok) (PrOk.of mixed_ok) Go.Proofs.Tryd.func74 rfl (by decide) rfl rfl rfl (pureR_many (e := (.pair (.pair (.arr 4 (.int .u64)) (.pair (.arr 4 (.int .u64)) .unit)) (.pair (.int .i64) .unit))) rfl) ?_
  intro x r hw hs
  repeat'
    (try (conv => whnf)
     first
       | (with_reducible have hs := letv_out hs)
       | (refine draw_and (by kernel_rfl) ?_)
       | (refine both_mk ?_ ?_)
       | (refine br_bool (fun h => ?_) (fun h => ?_) <;> first | have hs := cT h hs | have hs := cF h hs)
       | (refine bind_elim hs fun v hb hs => ?_; first | refine ck_bitset_Has rfl hb ?_ | refine ck_roll_asked rfl hb ?_ | refine ck_bitset_Add rfl hb ?_)
       | refine chk_elim hs fun hs => ?_
       | (have hs := letv_out hs)
       | exact fin_some hs rfl
       | (intro b hb; first | have hs := nilq_elim hs b hb | have hs := nilqn_elim hs b hb)
       | (have hs := cT rfl hs)
       | (have hs := cF rfl hs)
       | exact (none_ne hs).elim)
theorem cq_roll_Offer : PCon Go.Proofs.Tryd.prog 74 (liftF (.pair (.pair (.arr 4 (.int .u64)) (.pair (.arr 4 (.int .u64)) .unit)) (.pair (.int .i64) .unit)) (unpR (.pair (.pair (.arr 4 (.int .u64)) (.pair (.arr 4 (.int .u64)) .unit)) (.pair (.int .i64) .unit))) (fun x => roll_Offer x.1 x.2.1)) := lq_roll_Offer ▸ c_roll_Offer
noncomputable def lf_roll_Withdraw : List AV → Option AV := liftF (.pair (.pair (.arr 4 (.int .u64)) (.pair (.arr 4 (.int .u64)) .unit)) (.pair (.int .i64) .unit)) (unpR (.pair (.pair (.arr 4 (.int .u64)) (.pair (.arr 4 (.int .u64)) .unit)) (.pair .bool .unit))) (fun x => roll_Withdraw x.1 x.2.1)
theorem lq_roll_Withdraw : lf_roll_Withdraw = liftF (.pair (.pair (.arr 4 (.int .u64)) (.pair (.arr 4 (.int .u64)) .unit)) (.pair (.int .i64) .unit)) (unpR (.pair (.pair (.arr 4 (.int .u64)) (.pair (.arr 4 (.int .u64)) .unit)) (.pair .bool .unit))) (fun x => roll_Withdraw x.1 x.2.1) := rfl
attribute [irreducible] lf_roll_Withdraw
theorem ck_roll_Withdraw {vs : List AV} {k : AV → Prop} {x : ((.pair (.pair (.arr 4 (.int .u64)) (.pair (.arr 4 (.int .u64)) .unit)) (.pair (.int .i64) .unit)) : Ty).den} {v : ((List Int) × (List Int) × Unit) × Bool × Unit} (h1 : pks (.pair (.pair (.arr 4 (.int .u64)) (.pair (.arr 4 (.int .u64)) .unit)) (.pair (.int .i64) .unit)) vs = some x) (h2 : roll_Withdraw x.1 x.2.1 = some v) (h3 : k ((unpR (.pair (.pair (.arr 4 (.int .u64)) (.pair (.arr 4 (.int .u64)) .unit)) (.pair .bool .unit))) v)) : callK (lf_roll_Withdraw vs) k := by
  rw [lq_roll_Withdraw]; exact callK_lift h1 h2 h3
def tt_roll_Withdraw : List (Nat × Ty) := [(3, .int .i64), (4, .bool), (34, .arr 4 (.int .u64)), (36, .pair (.arr 4 (.int .u64)) (.pair (.arr 4 (.int .u64)) .unit))]
def et_roll_Withdraw : List (Nat × Nat) := []
theorem tt_roll_Withdraw_ok : subT tt tt_roll_Withdraw = true := by kernel_rfl
theorem et_roll_Withdraw_ok : subE et et_roll_Withdraw = true := by kernel_rfl
noncomputable def fns_roll_Withdraw : List (Nat × (List AV → Option AV)) := [(36, lf_bitset_Has), (79, lf_roll_Fine), (100, lf_bitset_Drop)]
theorem fns_roll_Withdraw_ok : FnsOk Go.Proofs.Tryd.prog fns_roll_Withdraw := FnsOk.cons c_bitset_Has (FnsOk.cons c_roll_Fine (FnsOk.cons c_bitset_Drop (FnsOk.nil _)))
def kp_roll_Withdraw : List (Nat × List Nat) := [(0, [1, 2, 4]), (1, [1, 2, 4, 15]), (2, [4, 5]), (3, [2, 4]), (4, [4, 5]), (4000000, [2, 4]), (4000001, [2, 4]), (4000002, [4]), (4000003, [2, 4]), (4000004, [4])]
def od_roll_Withdraw : List (Nat × Ord) := []
noncomputable def E_roll_Withdraw : Env := ⟨0, 0, et_roll_Withdraw, tt_roll_Withdraw, fns_roll_Withdraw, [], od_roll_Withdraw, kp_roll_Withdraw, none, []⟩
set_option maxRecDepth 100000 in
set_option maxHeartbeats 40000000 in
theorem c_roll_Withdraw : PCon Go.Proofs.Tryd.prog 76 lf_roll_Withdraw := by
  rw [lq_roll_Withdraw]
  refine lift_conR (E := E_roll_Withdraw) (c := bodyOf Tryd.f76) (nt := 23) (rs := [.cell 4 36, .tmp 5]) (ts := [36, 4]) (EnvC.sub (off := 0) (nt := 0) (ords := od_roll_Withdraw) (keep := kp_roll_Withdraw) (yl := none) tt_ok et_ok fns_roll_Withdraw_ok (PrsOk.nil _) (ItsOk.nil _) tt_roll_Withdraw_ok et_roll_Withdraw_ok) (PrOk.of mixed_ok) Go.Proofs.Tryd.func76 rfl (by decide) rfl rfl rfl (pureR_many (e := (.pair (.pair (.arr 4 (.int .u64)) (.pair (.arr 4 (.int .u64)) .unit)) (.pair .bool .unit))) rfl) ?_
  intro x r hw hs
  repeat'
    (try (conv => whnf)
     first
       | (with_reducible have hs := letv_out hs)
       | (refine draw_and (by kernel_rfl) ?_)
       | (refine both_mk ?_ ?_)
       | (refine br_bool (fun h => ?_) (fun h => ?_) <;> first | have hs := cT h hs | have hs := cF h hs)
       | (refine bind_elim hs fun v hb hs => ?_; first | refine ck_bitset_Has rfl hb ?_ | refine ck_roll_Fine rfl hb ?_ | refine ck_bitset_Drop rfl hb ?_)
       | refine chk_elim hs fun hs => ?_
       | (have hs := letv_out hs)
       | exact fin_some hs rfl
       | (intro b hb; first | have hs := nilq_elim hs b hb | have hs := nilqn_elim hs b hb)
       | (have hs := cT rfl hs)
       | (have hs := cF rfl hs)
       | exact (none_ne hs).elim)
theorem cq_roll_Withdraw : PCon Go.Proofs.Tryd.prog 76 (liftF (.pair (.pair (.arr 4 (.int .u64)) (.pair (.arr 4 (.int .u64)) .unit)) (.pair (.int .i64) .unit)) (unpR (.pair (.pair (.arr 4 (.int .u64)) (.pair (.arr 4 (.int .u64)) .unit)) (.pair .bool .unit))) (fun x => roll_Withdraw x.1 x.2.1)) := lq_roll_Withdraw ▸ c_roll_Withdraw
noncomputable def lf_roll_Resign : List AV → Option AV := liftF (.pair (.pair (.arr 4 (.int .u64)) (.pair (.arr 4 (.int .u64)) .unit)) (.pair (.int .i64) .unit)) (unpR (.pair (.pair (.arr 4 (.int .u64)) (.pair (.arr 4 (.int .u64)) .unit)) (.pair (.int .i64) .unit))) (fun x => roll_Resign x.1 x.2.1)
theorem lq_roll_Resign : lf_roll_Resign = liftF (.pair (.pair (.arr 4 (.int .u64)) (.pair (.arr 4 (.int .u64)) .unit)) (.pair (.int .i64) .unit)) (unpR (.pair (.pair (.arr 4 (.int .u64)) (.pair (.arr 4 (.int .u64)) .unit)) (.pair (.int .i64) .unit))) (fun x => roll_Resign x.1 x.2.1) := rfl
attribute [irreducible] lf_roll_Resign
theorem ck_roll_Resign {vs : List AV} {k : AV → Prop} {x : ((.pair (.pair (.arr 4 (.int .u64)) (.pair (.arr 4 (.int .u64)) .unit)) (.pair (.int .i64) .unit)) : Ty).den} {v : ((List Int) × (List Int) × Unit) × Int × Unit} (h1 : pks (.pair (.pair (.arr 4 (.int .u64)) (.pair (.arr 4 (.int .u64)) .unit)) (.pair (.int .i64) .unit)) vs = some x) (h2 : roll_Resign x.1 x.2.1 = some v) (h3 : k ((unpR (.pair (.pair (.arr 4 (.int .u64)) (.pair (.arr 4 (.int .u64)) .unit)) (.pair (.int .i64) .unit))) v)) : callK (lf_roll_Resign vs) k := by
  rw [lq_roll_Resign]; exact callK_lift h1 h2 h3
def tt_roll_Resign : List (Nat × Ty) := [(3, .int .i64), (4, .bool), (34, .arr 4 (.int .u64)), (36, .pair (.arr 4 (.int .u64)) (.pair (.arr 4 (.int .u64)) .unit)), (40, .int .i64)]
def et_roll_Resign : List (Nat × Nat) := []
theorem tt_roll_Resign_ok : subT tt tt_roll_Resign = true := by kernel_rfl
theorem et_roll_Resign_ok : subE et et_roll_Resign = true := by kernel_rfl
noncomputable def fns_roll_Resign : List (Nat × (List AV → Option AV)) := [(36, lf_bitset_Has), (95, lf_roll_asked), (100, lf_bitset_Drop)]
theorem fns_roll_Resign_ok : FnsOk Go.Proofs.Tryd.prog fns_roll_Resign := FnsOk.cons c_bitset_Has (FnsOk.cons c_roll_asked (FnsOk.cons c_bitset_Drop (FnsOk.nil _)))
def kp_roll_Resign : List (Nat × List Nat) := [(0, [1, 2, 4]), (1, [1, 2, 4, 6]), (2, [1, 2, 4, 6, 11]), (3, [4, 5]), (4, [1, 2, 4, 18]), (5, [4, 5]), (6, [2, 4]), (7, [4, 5]), (4000000, [2, 4]), (4000001, [2, 4]), (4000002, [2, 4]), (4000003, [4]), (4000004, [2, 4]), (4000005, [4]), (4000006, [2, 4]), (4000007, [4])]
def od_roll_Resign : List (Nat × Ord) := [(6, (.one 0 (.one 1 (.one 2 (.one 4 (.one 5 (.one 6 (.one 3 (.one 8 (.one 7 (.one 100009 (.one 10 (.one 100011 .nil)))))))))))))]
noncomputable def E_roll_Resign : Env := ⟨0, 0, et_roll_Resign, tt_roll_Resign, fns_roll_Resign, [], od_roll_Resign, kp_roll_Resign, none, []⟩
set_option maxRecDepth 100000 in
set_option maxHeartbeats 40000000 in
theorem c_roll_Resign : PCon Go.Proofs.Tryd.prog 72 lf_roll_Resign := by
  rw [lq_roll_Resign]
  refine lift_conR (E := E_roll_Resign) (c := bodyOf Tryd.f72) (nt := 31) (rs := [.cell 4 36, .tmp 5]) (ts := [36, 40]) (EnvC.sub (off := 0) (nt := 0) (ords := od_roll_Resign) (keep := kp_roll_Resign) (yl := none) tt_ok et_ok fns_roll_Resign_ok (PrsOk.nil _) (ItsOk.nil _) tt_roll_Resign_ok et_roll_Resign_ok) (PrOk.of mixed_ok) Go.Proofs.Tryd.func72 rfl (by decide) rfl rfl rfl (pureR_many (e := (.pair (.pair (.arr 4 (.int .u64)) (.pair (.arr 4 (.int .u64)) .unit)) (.pair (.int .i64) .unit))) rfl) ?_
  intro x r hw hs
  repeat'
    (try (conv => whnf)
     first
       | (with_reducible have hs := letv_out hs)
       | (refine draw_and (by kernel_rfl) ?_)
       | (refine both_mk ?_ ?_)
       | (refine br_bool (fun h => ?_) (fun h => ?_) <;> first | have hs := cT h hs | have hs := cF h hs)
       | (refine bind_elim hs fun v hb hs => ?_; first | refine ck_bitset_Has rfl hb ?_ | refine ck_roll_asked rfl hb ?_ | refine ck_bitset_Drop rfl hb ?_)
       | refine chk_elim hs fun hs => ?_
       | (have hs := letv_out hs)
       | exact fin_some hs rfl
       | (intro b hb; first | have hs := nilq_elim hs b hb | have hs := nilqn_elim hs b hb)
       | (have hs := cT rfl hs)
       | (have hs := cF rfl hs)
       | exact (none_ne hs).elim)
theorem cq_roll_Resign : PCon Go.Proofs.Tryd.prog 72 (liftF (.pair (.pair (.arr 4 (.int .u64)) (.pair (.arr 4 (.int .u64)) .unit)) (.pair (.int .i64) .unit)) (unpR (.pair (.pair (.arr 4 (.int .u64)) (.pair (.arr 4 (.int .u64)) .unit)) (.pair (.int .i64) .unit))) (fun x => roll_Resign x.1 x.2.1)) := lq_roll_Resign ▸ c_roll_Resign
end Go.Proofs.YtkpobmmabmelfaaDoorV
