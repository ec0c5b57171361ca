import Derived.Test.YtkpobmmabmelfaaDoorVcTab
import Derived.Test.YtkpobmmabmelfaaDoorDR22
import Derived.Test.YtkpobmmabmelfaaDoorCR20
import Derived.Test.YtkpobmmabmelfaaDoorCR21
namespace Go.Proofs.YtkpobmmabmelfaaDoorV
open Go.Proofs
set_option linter.unusedVariables false
noncomputable def lf_R22_Fine : List AV → Option AV := liftF (.pair (.pair (.pair .bool (.pair (.int .i64) .unit)) (.pair (.pair (.sl (.int .i64)) (.pair (.sl (.int .i64)) .unit)) (.pair (.int .i64) .unit))) .unit) (unpack .bool) (fun x => R22_Fine x.1)
theorem lq_R22_Fine : lf_R22_Fine = liftF (.pair (.pair (.pair .bool (.pair (.int .i64) .unit)) (.pair (.pair (.sl (.int .i64)) (.pair (.sl (.int .i64)) .unit)) (.pair (.int .i64) .unit))) .unit) (unpack .bool) (fun x => R22_Fine x.1) := rfl
attribute [irreducible] lf_R22_Fine
theorem ck_R22_Fine {vs : List AV} {k : AV → Prop} {x : ((.pair (.pair (.pair .bool (.pair (.int .i64) .unit)) (.pair (.pair (.sl (.int .i64)) (.pair (.sl (.int .i64)) .unit)) (.pair (.int .i64) .unit))) .unit) : Ty).den} {v : Bool} (h1 : pks (.pair (.pair (.pair .bool (.pair (.int .i64) .unit)) (.pair (.pair (.sl (.int .i64)) (.pair (.sl (.int .i64)) .unit)) (.pair (.int .i64) .unit))) .unit) vs = some x) (h2 : R22_Fine x.1 = some v) (h3 : k ((unpack .bool) v)) : callK (lf_R22_Fine vs) k := by
  rw [lq_R22_Fine]; exact callK_lift h1 h2 h3
def tt_R22_Fine : List (Nat × Ty) := [(3, .int .i64), (4, .bool), (23, .pair .bool (.pair (.int .i64) .unit)), (26, .pair (.sl (.int .i64)) (.pair (.sl (.int .i64)) .unit)), (28, .pair (.pair .bool (.pair (.int .i64) .unit)) (.pair (.pair (.sl (.int .i64)) (.pair (.sl (.int .i64)) .unit)) (.pair (.int .i64) .unit)))]
def et_R22_Fine : List (Nat × Nat) := []
theorem tt_R22_Fine_ok : subT tt tt_R22_Fine = true := by kernel_rfl
theorem et_R22_Fine_ok : subE et et_R22_Fine = true := by kernel_rfl
noncomputable def fns_R22_Fine : List (Nat × (List AV → Option AV)) := [(80, lf_R20_Fine), (81, lf_R21_Fine)]
theorem fns_R22_Fine_ok : FnsOk Go.Proofs.Tryd.prog fns_R22_Fine := FnsOk.cons c_R20_Fine (FnsOk.cons c_R21_Fine (FnsOk.nil _))
def kp_R22_Fine : List (Nat × List Nat) := [(0, [1]), (1, [2]), (4000000, [1]), (4000001, [])]
def od_R22_Fine : List (Nat × Ord) := []
noncomputable def E_R22_Fine : Env := ⟨0, 0, et_R22_Fine, tt_R22_Fine, fns_R22_Fine, [], od_R22_Fine, kp_R22_Fine, none, []⟩
set_option maxRecDepth 100000 in
set_option maxHeartbeats 40000000 in
theorem c_R22_Fine : PCon Go.Proofs.Tryd.prog 32 lf_R22_Fine := by
  rw [lq_R22_Fine]
  refine lift_conR (E := E_R22_Fine) (c := bodyOf Tryd.f32) (nt := 14) (rs := [.tmp 2]) (ts := [4]) (EnvC.sub (off := 0) (nt := 0) (ords := od_R22_Fine) (keep := kp_R22_Fine) (yl := none) tt_ok et_ok fns_R22_Fine_ok (PrsOk.nil _) (ItsOk.nil _) tt_R22_Fine_ok et_R22_Fine_ok) (PrOk.of mixed_ok) Go.Proofs.Tryd.func32 rfl (by decide) rfl rfl rfl (pureR_one (e := .bool) rfl) ?_
  intro x r hw hs
  repeat'
    (try (conv => whnf)
     first
       | (with_reducible have hs := letv_out hs)
       | (refine draw_and (by kernel_rfl) ?_)
       | (refine both_mk ?_ ?_)
       | (refine br_bool (fun h => ?_) (fun h => ?_) <;> first | have hs := cT h hs | have hs := cF h hs)
       | (refine bind_elim hs fun v hb hs => ?_; first | refine ck_R20_Fine rfl hb ?_ | refine ck_R21_Fine rfl hb ?_)
       | refine chk_elim hs fun hs => ?_
       | (have hs := letv_out hs)
       | exact fin_some hs rfl
       | (intro b hb; first | have hs := nilq_elim hs b hb | have hs := nilqn_elim hs b hb)
       | (have hs := cT rfl hs)
       | (have hs := cF rfl hs)
       | exact (none_ne hs).elim)
theorem cq_R22_Fine : PCon Go.Proofs.Tryd.prog 32 (liftF (.pair (.pair (.pair .bool (.pair (.int .i64) .unit)) (.pair (.pair (.sl (.int .i64)) (.pair (.sl (.int .i64)) .unit)) (.pair (.int .i64) .unit))) .unit) (unpack .bool) (fun x => R22_Fine x.1)) := lq_R22_Fine ▸ c_R22_Fine
noncomputable def lf_R22_Ready : List AV → Option AV := liftF (.pair (.pair (.pair .bool (.pair (.int .i64) .unit)) (.pair (.pair (.sl (.int .i64)) (.pair (.sl (.int .i64)) .unit)) (.pair (.int .i64) .unit))) .unit) (unpack .bool) (fun x => R22_Ready x.1)
theorem lq_R22_Ready : lf_R22_Ready = liftF (.pair (.pair (.pair .bool (.pair (.int .i64) .unit)) (.pair (.pair (.sl (.int .i64)) (.pair (.sl (.int .i64)) .unit)) (.pair (.int .i64) .unit))) .unit) (unpack .bool) (fun x => R22_Ready x.1) := rfl
attribute [irreducible] lf_R22_Ready
theorem ck_R22_Ready {vs : List AV} {k : AV → Prop} {x : ((.pair (.pair (.pair .bool (.pair (.int .i64) .unit)) (.pair (.pair (.sl (.int .i64)) (.pair (.sl (.int .i64)) .unit)) (.pair (.int .i64) .unit))) .unit) : Ty).den} {v : Bool} (h1 : pks (.pair (.pair (.pair .bool (.pair (.int .i64) .unit)) (.pair (.pair (.sl (.int .i64)) (.pair (.sl (.int .i64)) .unit)) (.pair (.int .i64) .unit))) .unit) vs = some x) (h2 : R22_Ready x.1 = some v) (h3 : k ((unpack .bool) v)) : callK (lf_R22_Ready vs) k := by
  rw [lq_R22_Ready]; exact callK_lift h1 h2 h3
def tt_R22_Ready : List (Nat × Ty) := [(3, .int .i64), (4, .bool), (23, .pair .bool (.pair (.int .i64) .unit)), (26, .pair (.sl (.int .i64)) (.pair (.sl (.int .i64)) .unit)), (28, .pair (.pair .bool (.pair (.int .i64) .unit)) (.pair (.pair (.sl (.int .i64)) (.pair (.sl (.int .i64)) .unit)) (.pair (.int .i64) .unit)))]
def et_R22_Ready : List (Nat × Nat) := []
theorem tt_R22_Ready_ok : subT tt tt_R22_Ready = true := by kernel_rfl
theorem et_R22_Ready_ok : subE et et_R22_Ready = true := by kernel_rfl
noncomputable def fns_R22_Ready : List (Nat × (List AV → Option AV)) := [(32, lf_R22_Fine), (66, lf_R21_Full)]
theorem fns_R22_Ready_ok : FnsOk Go.Proofs.Tryd.prog fns_R22_Ready := FnsOk.cons c_R22_Fine (FnsOk.cons c_R21_Full (FnsOk.nil _))
def kp_R22_Ready : List (Nat × List Nat) := [(0, [1]), (1, [2]), (4000000, [1]), (4000001, [])]
def od_R22_Ready : List (Nat × Ord) := []
noncomputable def E_R22_Ready : Env := ⟨0, 0, et_R22_Ready, tt_R22_Ready, fns_R22_Ready, [], od_R22_Ready, kp_R22_Ready, none, []⟩
set_option maxRecDepth 100000 in
set_option maxHeartbeats 40000000 in
theorem c_R22_Ready : PCon Go.Proofs.Tryd.prog 17 lf_R22_Ready := by
  rw [lq_R22_Ready]
  refine lift_conR (E := E_R22_Ready) (c := bodyOf Tryd.f17) (nt := 18) (rs := [.tmp 2]) (ts := [4]) (EnvC.sub (off := 0) (nt := 0) (ords := od_R22_Ready) (keep := kp_R22_Ready) (yl := none) tt_ok et_ok fns_R22_Ready_ok (PrsOk.nil _) (ItsOk.nil _) tt_R22_Ready_ok et_R22_Ready_ok) (PrOk.of mixed_ok) Go.Proofs.Tryd.func17 rfl (by decide) rfl rfl rfl (pureR_one (e := .bool) rfl) ?_
  intro x r hw hs
  repeat'
    (try (conv => whnf)
     first
       | (with_reducible have hs := letv_out hs)
       | (refine draw_and (by kernel_rfl) ?_)
       | (refine both_mk ?_ ?_)
       | (refine br_bool (fun h => ?_) (fun h => ?_) <;> first | have hs := cT h hs | have hs := cF h hs)
       | (refine bind_elim hs fun v hb hs => ?_; first | refine ck_R22_Fine rfl hb ?_ | refine ck_R21_Full rfl hb ?_)
       | refine chk_elim hs fun hs => ?_
       | (have hs := letv_out hs)
       | exact fin_some hs rfl
       | (intro b hb; first | have hs := nilq_elim hs b hb | have hs := nilqn_elim hs b hb)
       | (have hs := cT rfl hs)
       | (have hs := cF rfl hs)
       | exact (none_ne hs).elim)
theorem cq_R22_Ready : PCon Go.Proofs.Tryd.prog 17 (liftF (.pair (.pair (.pair .bool (.pair (.int .i64) .unit)) (.pair (.pair (.sl (.int .i64)) (.pair (.sl (.int .i64)) .unit)) (.pair (.int .i64) .unit))) .unit) (unpack .bool) (fun x => R22_Ready x.1)) := lq_R22_Ready ▸ c_R22_Ready
noncomputable def lf_R22_Fire : List AV → Option AV := liftF (.pair (.pair (.pair .bool (.pair (.int .i64) .unit)) (.pair (.pair (.sl (.int .i64)) (.pair (.sl (.int .i64)) .unit)) (.pair (.int .i64) .unit))) .unit) (unpR (.pair (.pair (.pair .bool (.pair (.int .i64) .unit)) (.pair (.pair (.sl (.int .i64)) (.pair (.sl (.int .i64)) .unit)) (.pair (.int .i64) .unit))) (.pair (.sl (.int .i64)) (.pair (.int .i64) .unit)))) (fun x => R22_Fire x.1)
theorem lq_R22_Fire : lf_R22_Fire = liftF (.pair (.pair (.pair .bool (.pair (.int .i64) .unit)) (.pair (.pair (.sl (.int .i64)) (.pair (.sl (.int .i64)) .unit)) (.pair (.int .i64) .unit))) .unit) (unpR (.pair (.pair (.pair .bool (.pair (.int .i64) .unit)) (.pair (.pair (.sl (.int .i64)) (.pair (.sl (.int .i64)) .unit)) (.pair (.int .i64) .unit))) (.pair (.sl (.int .i64)) (.pair (.int .i64) .unit)))) (fun x => R22_Fire x.1) := rfl
attribute [irreducible] lf_R22_Fire
theorem ck_R22_Fire {vs : List AV} {k : AV → Prop} {x : ((.pair (.pair (.pair .bool (.pair (.int .i64) .unit)) (.pair (.pair (.sl (.int .i64)) (.pair (.sl (.int .i64)) .unit)) (.pair (.int .i64) .unit))) .unit) : Ty).den} {v : ((Bool × Int × Unit) × ((List Int) × (List Int) × Unit) × Int × Unit) × (List Int) × Int × Unit} (h1 : pks (.pair (.pair (.pair .bool (.pair (.int .i64) .unit)) (.pair (.pair (.sl (.int .i64)) (.pair (.sl (.int .i64)) .unit)) (.pair (.int .i64) .unit))) .unit) vs = some x) (h2 : R22_Fire x.1 = some v) (h3 : k ((unpR (.pair (.pair (.pair .bool (.pair (.int .i64) .unit)) (.pair (.pair (.sl (.int .i64)) (.pair (.sl (.int .i64)) .unit)) (.pair (.int .i64) .unit))) (.pair (.sl (.int .i64)) (.pair (.int .i64) .unit)))) v)) : callK (lf_R22_Fire vs) k := by
  rw [lq_R22_Fire]; exact callK_lift h1 h2 h3
def tt_R22_Fire : List (Nat × Ty) := [(3, .int .i64), (4, .bool), (24, .sl (.int .i64)), (26, .pair (.sl (.int .i64)) (.pair (.sl (.int .i64)) .unit)), (28, .pair (.pair .bool (.pair (.int .i64) .unit)) (.pair (.pair (.sl (.int .i64)) (.pair (.sl (.int .i64)) .unit)) (.pair (.int .i64) .unit)))]
def et_R22_Fire : List (Nat × Nat) := [(24, 3)]
theorem tt_R22_Fire_ok : subT tt tt_R22_Fire = true := by kernel_rfl
theorem et_R22_Fire_ok : subE et et_R22_Fire = true := by kernel_rfl
noncomputable def fns_R22_Fire : List (Nat × (List AV → Option AV)) := [(17, lf_R22_Ready), (32, lf_R22_Fine), (63, lf_R21_Fire)]
theorem fns_R22_Fire_ok : FnsOk Go.Proofs.Tryd.prog fns_R22_Fire := FnsOk.cons c_R22_Ready (FnsOk.cons c_R22_Fine (FnsOk.cons c_R21_Fire (FnsOk.nil _)))
def kp_R22_Fire : List (Nat × List Nat) := [(0, [1, 2]), (1, [1, 2, 10]), (2, [2, 3, 4]), (3, [1, 2, 14]), (4, [2, 3, 4]), (5, [1, 2, 5, 6]), (6, [1, 2, 6]), (7, [1, 2, 6]), (8, [2, 3, 4]), (4000000, [1, 2]), (4000001, [1, 2]), (4000002, [2]), (4000003, [1, 2]), (4000004, [2]), (4000005, [1, 2, 5]), (4000006, [1, 2]), (4000007, [1, 2]), (4000008, [2])]
def od_R22_Fire : List (Nat × Ord) := []
noncomputable def E_R22_Fire : Env := ⟨0, 0, et_R22_Fire, tt_R22_Fire, fns_R22_Fire, [], od_R22_Fire, kp_R22_Fire, none, []⟩
set_option maxRecDepth 100000 in
set_option maxHeartbeats 40000000 in
theorem c_R22_Fire : PCon Go.Proofs.Tryd.prog 15 lf_R22_Fire := by
  rw [lq_R22_Fire]
  refine lift_conR (E := E_R22_Fire) (c := bodyOf Tryd.f15) (nt := 31) (rs := [.cell 2 28, .tmp 3, .tmp 4]) (ts := [28, 24, 3]) (EnvC.sub (off := 0) (nt := 0) (ords := od_R22_Fire) (keep := kp_R22_Fire) (yl := none) tt_ok et_ok fns_R22_Fire_ok (PrsOk.nil _) (ItsOk.nil _) tt_R22_Fire_ok et_R22_Fire_ok) (PrOk.of mixed_ok) Go.Proofs.Tryd.func15 rfl (by decide) rfl rfl rfl (pureR_many (e := (.pair (.pair (.pair .bool (.pair (.int .i64) .unit)) (.pair (.pair (.sl (.int .i64)) (.pair (.sl (.int .i64)) .unit)) (.pair (.int .i64) .unit))) (.pair (.sl (.int .i64)) (.pair (.int .i64) .unit)))) rfl) ?_
  intro x r hw hs
  repeat'
    (try (conv => whnf)
     first
       | (with_reducible have hs := letv_out hs)
       | (refine draw_and (by kernel_rfl) ?_)
       | (refine both_mk ?_ ?_)
       | (refine br_bool (fun h => ?_) (fun h => ?_) <;> first | have hs := cT h hs | have hs := cF h hs)
       | (refine bind_elim hs fun v hb hs => ?_; first | refine ck_R22_Ready rfl hb ?_ | refine ck_R22_Fine rfl hb ?_ | refine ck_R21_Fire rfl hb ?_)
       | refine chk_elim hs fun hs => ?_
       | (have hs := letv_out hs)
       | exact fin_some hs rfl
       | (intro b hb; first | have hs := nilq_elim hs b hb | have hs := nilqn_elim hs b hb)
       | (have hs := cT rfl hs)
       | (have hs := cF rfl hs)
       | exact (none_ne hs).elim)
theorem cq_R22_Fire : PCon Go.Proofs.Tryd.prog 15 (liftF (.pair (.pair (.pair .bool (.pair (.int .i64) .unit)) (.pair (.pair (.sl (.int .i64)) (.pair (.sl (.int .i64)) .unit)) (.pair (.int .i64) .unit))) .unit) (unpR (.pair (.pair (.pair .bool (.pair (.int .i64) .unit)) (.pair (.pair (.sl (.int .i64)) (.pair (.sl (.int .i64)) .unit)) (.pair (.int .i64) .unit))) (.pair (.sl (.int .i64)) (.pair (.int .i64) .unit)))) (fun x => R22_Fire x.1)) := lq_R22_Fire ▸ c_R22_Fire
noncomputable def lf_R22_Check : List AV → Option AV := liftF (.pair (.pair .bool (.pair (.int .i64) .unit)) .unit) (unpack (.int .i64)) (fun x => R22_Check x.1)
theorem lq_R22_Check : lf_R22_Check = liftF (.pair (.pair .bool (.pair (.int .i64) .unit)) .unit) (unpack (.int .i64)) (fun x => R22_Check x.1) := rfl
attribute [irreducible] lf_R22_Check
theorem ck_R22_Check {vs : List AV} {k : AV → Prop} {x : ((.pair (.pair .bool (.pair (.int .i64) .unit)) .unit) : Ty).den} {v : Int} (h1 : pks (.pair (.pair .bool (.pair (.int .i64) .unit)) .unit) vs = some x) (h2 : R22_Check x.1 = some v) (h3 : k ((unpack (.int .i64)) v)) : callK (lf_R22_Check vs) k := by
  rw [lq_R22_Check]; exact callK_lift h1 h2 h3
def tt_R22_Check : List (Nat × Ty) := [(3, .int .i64), (23, .pair .bool (.pair (.int .i64) .unit))]
def et_R22_Check : List (Nat × Nat) := []
theorem tt_R22_Check_ok : subT tt tt_R22_Check = true := by kernel_rfl
theorem et_R22_Check_ok : subE et et_R22_Check = true := by kernel_rfl
noncomputable def fns_R22_Check : List (Nat × (List AV → Option AV)) := []
theorem fns_R22_Check_ok : FnsOk Go.Proofs.Tryd.prog fns_R22_Check := FnsOk.nil _
def kp_R22_Check : List (Nat × List Nat) := [(0, [1]), (1, [10]), (2, [2]), (3, [2]), (4000000, [1]), (4000001, []), (4000002, []), (4000003, [])]
def od_R22_Check : List (Nat × Ord) := []
noncomputable def E_R22_Check : Env := ⟨0, 0, et_R22_Check, tt_R22_Check, fns_R22_Check, [], od_R22_Check, kp_R22_Check, none, []⟩
set_option maxRecDepth 100000 in
set_option maxHeartbeats 40000000 in
theorem c_R22_Check : PCon Go.Proofs.Tryd.prog 34 lf_R22_Check := by
  rw [lq_R22_Check]
  refine lift_conR (E := E_R22_Check) (c := bodyOf Tryd.f34) (nt := 11) (rs := [.tmp 2]) (ts := [3]) (EnvC.sub (off := 0) (nt := 0) (ords := od_R22_Check) (keep := kp_R22_Check) (yl := none) tt_ok et_ok fns_R22_Check_ok (PrsOk.nil _) (ItsOk.nil _) tt_R22_Check_ok et_R22_Check_ok) (PrOk.of mixed_ok) Go.Proofs.Tryd.func34 rfl (by decide) rfl rfl rfl (pureR_one (e := (.int .i64)) rfl) ?_
  intro x r hw hs
  repeat'
    (try (conv => whnf)
     first
       | (with_reducible have hs := letv_out hs)
       | (refine draw_and (by kernel_rfl) ?_)
       | (refine both_mk ?_ ?_)
       | (refine br_bool (fun h => ?_) (fun h => ?_) <;> first | have hs := cT h hs | have hs := cF h hs)
       | refine chk_elim hs fun hs => ?_
       | (have hs := letv_out hs)
       | exact fin_some hs rfl
       | (intro b hb; first | have hs := nilq_elim hs b hb | have hs := nilqn_elim hs b hb)
       | (have hs := cT rfl hs)
       | (have hs := cF rfl hs)
       | exact (none_ne hs).elim)
theorem cq_R22_Check : PCon Go.Proofs.Tryd.prog 34 (liftF (.pair (.pair .bool (.pair (.int .i64) .unit)) .unit) (unpack (.int .i64)) (fun x => R22_Check x.1)) := lq_R22_Check ▸ c_R22_Check
noncomputable def lf_R22_New : List AV → Option AV := liftF (.pair (.pair .bool (.pair (.int .i64) .unit)) .unit) (unpR (.pair (.pair (.pair .bool (.pair (.int .i64) .unit)) (.pair (.pair (.sl (.int .i64)) (.pair (.sl (.int .i64)) .unit)) (.pair (.int .i64) .unit))) (.pair (.int .i64) .unit))) (fun x => R22_New x.1)
theorem lq_R22_New : lf_R22_New = liftF (.pair (.pair .bool (.pair (.int .i64) .unit)) .unit) (unpR (.pair (.pair (.pair .bool (.pair (.int .i64) .unit)) (.pair (.pair (.sl (.int .i64)) (.pair (.sl (.int .i64)) .unit)) (.pair (.int .i64) .unit))) (.pair (.int .i64) .unit))) (fun x => R22_New x.1) := rfl
attribute [irreducible] lf_R22_New
theorem ck_R22_New {vs : List AV} {k : AV → Prop} {x : ((.pair (.pair .bool (.pair (.int .i64) .unit)) .unit) : Ty).den} {v : ((Bool × Int × Unit) × ((List Int) × (List Int) × Unit) × Int × Unit) × Int × Unit} (h1 : pks (.pair (.pair .bool (.pair (.int .i64) .unit)) .unit) vs = some x) (h2 : R22_New x.1 = some v) (h3 : k ((unpR (.pair (.pair (.pair .bool (.pair (.int .i64) .unit)) (.pair (.pair (.sl (.int .i64)) (.pair (.sl (.int .i64)) .unit)) (.pair (.int .i64) .unit))) (.pair (.int .i64) .unit))) v)) : callK (lf_R22_New vs) k := by
  rw [lq_R22_New]; exact callK_lift h1 h2 h3
def tt_R22_New : List (Nat × Ty) := [(3, .int .i64), (23, .pair .bool (.pair (.int .i64) .unit)), (28, .pair (.pair .bool (.pair (.int .i64) .unit)) (.pair (.pair (.sl (.int .i64)) (.pair (.sl (.int .i64)) .unit)) (.pair (.int .i64) .unit)))]
def et_R22_New : List (Nat × Nat) := []
theorem tt_R22_New_ok : subT tt tt_R22_New = true := by kernel_rfl
theorem et_R22_New_ok : subE et et_R22_New = true := by kernel_rfl
noncomputable def fns_R22_New : List (Nat × (List AV → Option AV)) := [(34, lf_R22_Check)]
theorem fns_R22_New_ok : FnsOk Go.Proofs.Tryd.prog fns_R22_New := FnsOk.cons c_R22_Check (FnsOk.nil _)
def kp_R22_New : List (Nat × List Nat) := [(0, [1, 2]), (1, [1, 2, 4]), (2, [1, 2, 4, 8]), (3, [2, 3]), (4, [2, 3]), (4000000, [1, 2]), (4000001, [1, 2]), (4000002, [1, 2]), (4000003, [2]), (4000004, [2])]
def od_R22_New : List (Nat × Ord) := []
noncomputable def E_R22_New : Env := ⟨0, 0, et_R22_New, tt_R22_New, fns_R22_New, [], od_R22_New, kp_R22_New, none, []⟩
set_option maxRecDepth 100000 in
set_option maxHeartbeats 40000000 in
theorem c_R22_New : PCon Go.Proofs.Tryd.prog 22 lf_R22_New := by
  rw [lq_R22_New]
  refine lift_conR (E := E_R22_New) (c := bodyOf Tryd.f22) (nt := 13) (rs := [.cell 2 28, .tmp 3]) (ts := [28, 3]) (EnvC.sub (off := 0) (nt := 0) (ords := od_R22_New) (keep := kp_R22_New) (yl := none) tt_ok et_ok fns_R22_New_ok (PrsOk.nil _) (ItsOk.nil _) tt_R22_New_ok et_R22_New_ok) (PrOk.of mixed_ok) Go.Proofs.Tryd.func22 rfl (by decide) rfl rfl rfl (pureR_many (e := (.pair (.pair (.pair .bool (.pair (.int .i64) .unit)) (.pair (.pair (.sl (.int .i64)) (.pair (.sl (.int .i64)) .unit)) (.pair (.int .i64) .unit))) (.pair (.int .i64) .unit))) rfl) ?_
  intro x r hw hs
  repeat'
    (try (conv => whnf)
     first
       | (with_reducible have hs := letv_out hs)
       | (refine draw_and (by kernel_rfl) ?_)
       | (refine both_mk ?_ ?_)
       | (refine br_bool (fun h => ?_) (fun h => ?_) <;> first | have hs := cT h hs | have hs := cF h hs)
       | (refine bind_elim hs fun v hb hs => ?_; first | refine ck_R22_Check rfl hb ?_)
       | refine chk_elim hs fun hs => ?_
       | (have hs := letv_out hs)
       | exact fin_some hs rfl
       | (intro b hb; first | have hs := nilq_elim hs b hb | have hs := nilqn_elim hs b hb)
       | (have hs := cT rfl hs)
       | (have hs := cF rfl hs)
       | exact (none_ne hs).elim)
theorem cq_R22_New : PCon Go.Proofs.Tryd.prog 22 (liftF (.pair (.pair .bool (.pair (.int .i64) .unit)) .unit) (unpR (.pair (.pair (.pair .bool (.pair (.int .i64) .unit)) (.pair (.pair (.sl (.int .i64)) (.pair (.sl (.int .i64)) .unit)) (.pair (.int .i64) .unit))) (.pair (.int .i64) .unit))) (fun x => R22_New x.1)) := lq_R22_New ▸ c_R22_New
noncomputable def lf_R22_Enrol : List AV → Option AV := liftF (.pair (.pair (.pair .bool (.pair (.int .i64) .unit)) (.pair (.pair (.sl (.int .i64)) (.pair (.sl (.int .i64)) .unit)) (.pair (.int .i64) .unit))) (.pair (.int .i64) .unit)) (unpR (.pair (.pair (.pair .bool (.pair (.int .i64) .unit)) (.pair (.pair (.sl (.int .i64)) (.pair (.sl (.int .i64)) .unit)) (.pair (.int .i64) .unit))) (.pair (.int .i64) .unit))) (fun x => R22_Enrol x.1 x.2.1)
theorem lq_R22_Enrol : lf_R22_Enrol = liftF (.pair (.pair (.pair .bool (.pair (.int .i64) .unit)) (.pair (.pair (.sl (.int .i64)) (.pair (.sl (.int .i64)) .unit)) (.pair (.int .i64) .unit))) (.pair (.int .i64) .unit)) (unpR (.pair (.pair (.pair .bool (.pair (.int .i64) .unit)) (.pair (.pair (.sl (.int .i64)) (.pair (.sl (.int .i64)) .unit)) (.pair (.int .i64) .unit))) (.pair (.int .i64) .unit))) (fun x => R22_Enrol x.1 x.2.1) := rfl
attribute [irreducible] lf_R22_Enrol
theorem ck_R22_Enrol {vs : List AV} {k : AV → Prop} {x : ((.pair (.pair (.pair .bool (.pair (.int .i64) .unit)) (.pair (.pair (.sl (.int .i64)) (.pair (.sl (.int .i64)) .unit)) (.pair (.int .i64) .unit))) (.pair (.int .i64) .unit)) : Ty).den} {v : ((Bool × Int × Unit) × ((List Int) × (List Int) × Unit) × Int × Unit) × Int × Unit} (h1 : pks (.pair (.pair (.pair .bool (.pair (.int .i64) .unit)) (.pair (.pair (.sl (.int .i64)) (.pair (.sl (.int .i64)) .unit)) (.pair (.int .i64) .unit))) (.pair (.int .i64) .unit)) vs = some x) (h2 : R22_Enrol x.1 x.2.1 = some v) (h3 : k ((unpR (.pair (.pair (.pair .bool (.pair (.int .i64) .unit)) (.pair (.pair (.sl (.int .i64)) (.pair (.sl (.int .i64)) .unit)) (.pair (.int .i64) .unit))) (.pair (.int .i64) .unit))) v)) : callK (lf_R22_Enrol vs) k := by
  rw [lq_R22_Enrol]; exact callK_lift h1 h2 h3
def tt_R22_Enrol : List (Nat × Ty) := [(3, .int .i64), (4, .bool), (26, .pair (.sl (.int .i64)) (.pair (.sl (.int .i64)) .unit)), (28, .pair (.pair .bool (.pair (.int .i64) .unit)) (.pair (.pair (.sl (.int .i64)) (.pair (.sl (.int .i64)) .unit)) (.pair (.int .i64) .unit)))]
def et_R22_Enrol : List (Nat × Nat) := []
theorem tt_R22_Enrol_ok : subT tt tt_R22_Enrol = true := by kernel_rfl
theorem et_R22_Enrol_ok : subE et et_R22_Enrol = true := by kernel_rfl
noncomputable def fns_R22_Enrol : List (Nat × (List AV → Option AV)) := [(32, lf_R22_Fine), (71, lf_R21_Enrol)]
theorem fns_R22_Enrol_ok : FnsOk Go.Proofs.Tryd.prog fns_R22_Enrol := FnsOk.cons c_R22_Fine (FnsOk.cons c_R21_Enrol (FnsOk.nil _))
def kp_R22_Enrol : List (Nat × List Nat) := [(0, [1, 2, 4]), (1, [1, 2, 4, 10]), (2, [4, 5]), (3, [2, 4, 6, 7]), (4, [2, 4, 7]), (5, [4, 5]), (4000000, [2, 4]), (4000001, [2, 4]), (4000002, [4]), (4000003, [2, 4, 6]), (4000004, [2, 4]), (4000005, [4])]
def od_R22_Enrol : List (Nat × Ord) := []
noncomputable def E_R22_Enrol : Env := ⟨0, 0, et_R22_Enrol, tt_R22_Enrol, fns_R22_Enrol, [], od_R22_Enrol, kp_R22_Enrol, none, []⟩
set_option maxRecDepth 100000 in
set_option maxHeartbeats 40000000 in
theorem c_R22_Enrol : PCon Go.Proofs.Tryd.prog 24 lf_R22_Enrol := by
  rw [lq_R22_Enrol]
  refine lift_conR (E := E_R22_Enrol) (c := bodyOf Tryd.f24) (nt := 23) (rs := [.cell 4 28, .tmp 5]) (ts := [28, 3]) (EnvC.sub (off := 0) (nt := 0) (ords := od_R22_Enrol) (keep := kp_R22_Enrol) (yl := none) tt_ok et_ok fns_R22_Enrol_ok (PrsOk.nil _) (ItsOk.nil _) tt_R22_Enrol_ok et_R22_Enrol_ok) (PrOk.of mixed_ok) Go.Proofs.Tryd.func24 rfl (by decide) rfl rfl rfl (pureR_many (e := (.pair (.pair (.pair .bool (.pair (.int .i64) .unit)) (.pair (.pair (.sl (.int .i64)) (.pair (.sl (.int .i64)) .unit)) (.pair (.int .i64) .unit))) (.pair (.int .i64) .unit))) rfl) ?_
  intro x r hw hs
  repeat'
    (try (conv => whnf)
     first
       | (with_reducible have hs := letv_out hs)
       | (refine draw_and (by kernel_rfl) ?_)
       | (refine both_mk ?_ ?_)
       | (refine br_bool (fun h => ?_) (fun h => ?_) <;> first | have hs := cT h hs | have hs := cF h hs)
       | (refine bind_elim hs fun v hb hs => ?_; first | refine ck_R22_Fine rfl hb ?_ | refine ck_R21_Enrol rfl hb ?_)
       | refine chk_elim hs fun hs => ?_
       | (have hs := letv_out hs)
       | exact fin_some hs rfl
       | (intro b hb; first | have hs := nilq_elim hs b hb | have hs := nilqn_elim hs b hb)
       | (have hs := cT rfl hs)
       | (have hs := cF rfl hs)
       | exact (none_ne hs).elim)
theorem cq_R22_Enrol : PCon Go.Proofs.Tryd.prog 24 (liftF (.pair (.pair (.pair .bool (.pair (.int .i64) .unit)) (.pair (.pair (.sl (.int .i64)) (.pair (.sl (.int .i64)) .unit)) (.pair (.int .i64) .unit))) (.pair (.int .i64) .unit)) (unpR (.pair (.pair (.pair .bool (.pair (.int .i64) .unit)) (.pair (.pair (.sl (.int .i64)) (.pair (.sl (.int .i64)) .unit)) (.pair (.int .i64) .unit))) (.pair (.int .i64) .unit))) (fun x => R22_Enrol x.1 x.2.1)) := lq_R22_Enrol ▸ c_R22_Enrol
noncomputable def lf_R22_Resign : List AV → Option AV := liftF (.pair (.pair (.pair .bool (.pair (.int .i64) .unit)) (.pair (.pair (.sl (.int .i64)) (.pair (.sl (.int .i64)) .unit)) (.pair (.int .i64) .unit))) (.pair (.int .i64) .unit)) (unpR (.pair (.pair (.pair .bool (.pair (.int .i64) .unit)) (.pair (.pair (.sl (.int .i64)) (.pair (.sl (.int .i64)) .unit)) (.pair (.int .i64) .unit))) (.pair (.int .i64) .unit))) (fun x => R22_Resign x.1 x.2.1)
theorem lq_R22_Resign : lf_R22_Resign = liftF (.pair (.pair (.pair .bool (.pair (.int .i64) .unit)) (.pair (.pair (.sl (.int .i64)) (.pair (.sl (.int .i64)) .unit)) (.pair (.int .i64) .unit))) (.pair (.int .i64) .unit)) (unpR (.pair (.pair (.pair .bool (.pair (.int .i64) .unit)) (.pair (.pair (.sl (.int .i64)) (.pair (.sl (.int .i64)) .unit)) (.pair (.int .i64) .unit))) (.pair (.int .i64) .unit))) (fun x => R22_Resign x.1 x.2.1) := rfl
attribute [irreducible] lf_R22_Resign
theorem ck_R22_Resign {vs : List AV} {k : AV → Prop} {x : ((.pair (.pair (.pair .bool (.pair (.int .i64) .unit)) (.pair (.pair (.sl (.int .i64)) (.pair (.sl (.int .i64)) .unit)) (.pair (.int .i64) .unit))) (.pair (.int .i64) .unit)) : Ty).den} {v : ((Bool × Int × Unit) × ((List Int) × (List Int) × Unit) × Int × Unit) × Int × Unit} (h1 : pks (.pair (.pair (.pair .bool (.pair (.int .i64) .unit)) (.pair (.pair (.sl (.int .i64)) (.pair (.sl (.int .i64)) .unit)) (.pair (.int .i64) .unit))) (.pair (.int .i64) .unit)) vs = some x) (h2 : R22_Resign x.1 x.2.1 = some v) (h3 : k ((unpR (.pair (.pair (.pair .bool (.pair (.int .i64) .unit)) (.pair (.pair (.sl (.int .i64)) (.pair (.sl (.int .i64)) .unit)) (.pair (.int .i64) .unit))) (.pair (.int .i64) .unit))) v)) : callK (lf_R22_Resign vs) k := by
  rw [lq_R22_Resign]; exact callK_lift h1 h2 h3
def tt_R22_Resign : List (Nat × Ty) := [(3, .int .i64), (4, .bool), (26, .pair (.sl (.int .i64)) (.pair (.sl (.int .i64)) .unit)), (28, .pair (.pair .bool (.pair (.int .i64) .unit)) (.pair (.pair (.sl (.int .i64)) (.pair (.sl (.int .i64)) .unit)) (.pair (.int .i64) .unit)))]
def et_R22_Resign : List (Nat × Nat) := []
theorem tt_R22_Resign_ok : subT tt tt_R22_Resign = true := by kernel_rfl
theorem et_R22_Resign_ok : subE et et_R22_Resign = true := by kernel_rfl
noncomputable def fns_R22_Resign : List (Nat × (List AV → Option AV)) := [(32, lf_R22_Fine), (73, lf_R21_Resign)]
theorem fns_R22_Resign_ok : FnsOk Go.Proofs.Tryd.prog fns_R22_Resign := FnsOk.cons c_R22_Fine (FnsOk.cons c_R21_Resign (FnsOk.nil _))
def kp_R22_Resign : List (Nat × List Nat) := [(0, [1, 2, 4]), (1, [1, 2, 4, 10]), (2, [4, 5]), (3, [2, 4, 6, 7]), (4, [2, 4, 7]), (5, [4, 5]), (4000000, [2, 4]), (4000001, [2, 4]), (4000002, [4]), (4000003, [2, 4, 6]), (4000004, [2, 4]), (4000005, [4])]
def od_R22_Resign : List (Nat × Ord) := []
noncomputable def E_R22_Resign : Env := ⟨0, 0, et_R22_Resign, tt_R22_Resign, fns_R22_Resign, [], od_R22_Resign, kp_R22_Resign, none, []⟩
set_option maxRecDepth 100000 in
set_option maxHeartbeats 40000000 in
theorem c_R22_Resign : PCon Go.Proofs.Tryd.prog 26 lf_R22_Resign := by
  rw [lq_R22_Resign]
  refine lift_conR (E := E_R22_Resign) (c := bodyOf Tryd.f26) (nt := 23) (rs := [.cell 4 28, .tmp 5]) (ts := [28, 3]) (EnvC.sub (off := 0) (nt := 0) (ords := od_R22_Resign) (keep := kp_R22_Resign) (yl := none) tt_ok et_ok fns_R22_Resign_ok (PrsOk.nil _) (ItsOk.nil _) tt_R22_Resign_ok et_R22_Resign_ok) (PrOk.of mixed_ok) Go.Proofs.Tryd.func26 rfl (by decide) rfl rfl rfl (pureR_many (e := (.pair (.pair (.pair .bool (.pair (.int .i64) .unit)) (.pair (.pair (.sl (.int .i64)) (.pair (.sl (.int .i64)) .unit)) (.pair (.int .i64) .unit))) (.pair (.int .i64) .unit))) rfl) ?_
  intro x r hw hs
  repeat'
    (try (conv => whnf)
     first
       | (with_reducible have hs := letv_out hs)
       | (refine draw_and (by kernel_rfl) ?_)
       | (refine both_mk ?_ ?_)
       | (refine br_bool (fun h => ?_) (fun h => ?_) <;> first | have hs := cT h hs | have hs := cF h hs)
       | (refine bind_elim hs fun v hb hs => ?_; first | refine ck_R22_Fine rfl hb ?_ | refine ck_R21_Resign rfl hb ?_)
       | refine chk_elim hs fun hs => ?_
       | (have hs := letv_out hs)
       | exact fin_some hs rfl
       | (intro b hb; first | have hs := nilq_elim hs b hb | have hs := nilqn_elim hs b hb)
       | (have hs := cT rfl hs)
       | (have hs := cF rfl hs)
       | exact (none_ne hs).elim)
theorem cq_R22_Resign : PCon Go.Proofs.Tryd.prog 26 (liftF (.pair (.pair (.pair .bool (.pair (.int .i64) .unit)) (.pair (.pair (.sl (.int .i64)) (.pair (.sl (.int .i64)) .unit)) (.pair (.int .i64) .unit))) (.pair (.int .i64) .unit)) (unpR (.pair (.pair (.pair .bool (.pair (.int .i64) .unit)) (.pair (.pair (.sl (.int .i64)) (.pair (.sl (.int .i64)) .unit)) (.pair (.int .i64) .unit))) (.pair (.int .i64) .unit))) (fun x => R22_Resign x.1 x.2.1)) := lq_R22_Resign ▸ c_R22_Resign
noncomputable def lf_R22_Offer : List AV → Option AV := liftF (.pair (.pair (.pair .bool (.pair (.int .i64) .unit)) (.pair (.pair (.sl (.int .i64)) (.pair (.sl (.int .i64)) .unit)) (.pair (.int .i64) .unit))) (.pair (.int .i64) (.pair .bool .unit))) (unpR (.pair (.pair (.pair .bool (.pair (.int .i64) .unit)) (.pair (.pair (.sl (.int .i64)) (.pair (.sl (.int .i64)) .unit)) (.pair (.int .i64) .unit))) (.pair (.int .i64) .unit))) (fun x => R22_Offer x.1 x.2.1 x.2.2.1)
theorem lq_R22_Offer : lf_R22_Offer = liftF (.pair (.pair (.pair .bool (.pair (.int .i64) .unit)) (.pair (.pair (.sl (.int .i64)) (.pair (.sl (.int .i64)) .unit)) (.pair (.int .i64) .unit))) (.pair (.int .i64) (.pair .bool .unit))) (unpR (.pair (.pair (.pair .bool (.pair (.int .i64) .unit)) (.pair (.pair (.sl (.int .i64)) (.pair (.sl (.int .i64)) .unit)) (.pair (.int .i64) .unit))) (.pair (.int .i64) .unit))) (fun x => R22_Offer x.1 x.2.1 x.2.2.1) := rfl
attribute [irreducible] lf_R22_Offer
theorem ck_R22_Offer {vs : List AV} {k : AV → Prop} {x : ((.pair (.pair (.pair .bool (.pair (.int .i64) .unit)) (.pair (.pair (.sl (.int .i64)) (.pair (.sl (.int .i64)) .unit)) (.pair (.int .i64) .unit))) (.pair (.int .i64) (.pair .bool .unit))) : Ty).den} {v : ((Bool × Int × Unit) × ((List Int) × (List Int) × Unit) × Int × Unit) × Int × Unit} (h1 : pks (.pair (.pair (.pair .bool (.pair (.int .i64) .unit)) (.pair (.pair (.sl (.int .i64)) (.pair (.sl (.int .i64)) .unit)) (.pair (.int .i64) .unit))) (.pair (.int .i64) (.pair .bool .unit))) vs = some x) (h2 : R22_Offer x.1 x.2.1 x.2.2.1 = some v) (h3 : k ((unpR (.pair (.pair (.pair .bool (.pair (.int .i64) .unit)) (.pair (.pair (.sl (.int .i64)) (.pair (.sl (.int .i64)) .unit)) (.pair (.int .i64) .unit))) (.pair (.int .i64) .unit))) v)) : callK (lf_R22_Offer vs) k := by
  rw [lq_R22_Offer]; exact callK_lift h1 h2 h3
def tt_R22_Offer : List (Nat × Ty) := [(3, .int .i64), (4, .bool), (23, .pair .bool (.pair (.int .i64) .unit)), (26, .pair (.sl (.int .i64)) (.pair (.sl (.int .i64)) .unit)), (28, .pair (.pair .bool (.pair (.int .i64) .unit)) (.pair (.pair (.sl (.int .i64)) (.pair (.sl (.int .i64)) .unit)) (.pair (.int .i64) .unit)))]
def et_R22_Offer : List (Nat × Nat) := []
theorem tt_R22_Offer_ok : subT tt tt_R22_Offer = true := by kernel_rfl
theorem et_R22_Offer_ok : subE et et_R22_Offer = true := by kernel_rfl
noncomputable def fns_R22_Offer : List (Nat × (List AV → Option AV)) := [(32, lf_R22_Fine), (75, lf_R21_Offer)]
theorem fns_R22_Offer_ok : FnsOk Go.Proofs.Tryd.prog fns_R22_Offer := FnsOk.cons c_R22_Fine (FnsOk.cons c_R21_Offer (FnsOk.nil _))
def kp_R22_Offer : List (Nat × List Nat) := [(0, [1, 2, 3, 6]), (1, [1, 2, 3, 6, 12]), (2, [6, 7]), (3, [1, 3, 6, 20]), (4, [6, 7]), (5, [1, 3, 6, 27]), (6, [6, 7]), (7, [3, 6, 8, 9]), (8, [3, 6, 9]), (9, [6, 7]), (4000000, [3, 6]), (4000001, [3, 6]), (4000002, [6]), (4000003, [3, 6]), (4000004, [6]), (4000005, [3, 6]), (4000006, [6]), (4000007, [3, 6, 8]), (4000008, [3, 6]), (4000009, [6])]
def od_R22_Offer : List (Nat × Ord) := []
noncomputable def E_R22_Offer : Env := ⟨0, 0, et_R22_Offer, tt_R22_Offer, fns_R22_Offer, [], od_R22_Offer, kp_R22_Offer, none, []⟩
set_option maxRecDepth 100000 in
set_option maxHeartbeats 40000000 in
theorem c_R22_Offer : PCon Go.Proofs.Tryd.prog 28 lf_R22_Offer := by
  rw [lq_R22_Offer]
  refine lift_conR (E := E_R22_Offer) (c := bodyOf Tryd.f28) (nt := 40) (rs := [.cell 6 28, .tmp 7]) (ts := [28, 3]) (EnvC.sub (off := 0) (nt := 0) (ords := od_R22_Offer) (keep := kp_R22_Offer) (yl := none) tt_ok et_ok fns_R22_Offer_ok (PrsOk.nil _) (ItsOk.nil _) tt_R22_Offer_ok et_R22_Offer_ok) (PrOk.of mixed_ok) Go.Proofs.Tryd.func28 rfl (by decide) rfl rfl rfl (pureR_many (e := (.pair (.pair (.pair .bool (.pair (.int .i64) .unit)) (.pair (.pair (.sl (.int .i64)) (.pair (.sl (.int .i64)) .unit)) (.pair (.int .i64) .unit))) (.pair (.int .i64) .unit))) rfl) ?_
  intro x r hw hs
  repeat'
    (try (conv => whnf)
     first
       | (with_reducible have hs := letv_out hs)
       | (refine draw_and (by kernel_rfl) ?_)
       | (refine both_mk ?_ ?_)
       | (refine br_bool (fun h => ?_) (fun h => ?_) <;> first | have hs := cT h hs | have hs := cF h hs)
       | (refine bind_elim hs fun v hb hs => ?_; first | refine ck_R22_Fine rfl hb ?_ | refine ck_R21_Offer rfl hb ?_)
       | refine chk_elim hs fun hs => ?_
       | (have hs := letv_out hs)
       | exact fin_some hs rfl
       | (intro b hb; first | have hs := nilq_elim hs b hb | have hs := nilqn_elim hs b hb)
       | (have hs := cT rfl hs)
       | (have hs := cF rfl hs)
       | exact (none_ne hs).elim)
theorem cq_R22_Offer : PCon Go.Proofs.Tryd.prog 28 (liftF (.pair (.pair (.pair .bool (.pair (.int .i64) .unit)) (.pair (.pair (.sl (.int .i64)) (.pair (.sl (.int .i64)) .unit)) (.pair (.int .i64) .unit))) (.pair (.int .i64) (.pair .bool .unit))) (unpR (.pair (.pair (.pair .bool (.pair (.int .i64) .unit)) (.pair (.pair (.sl (.int .i64)) (.pair (.sl (.int .i64)) .unit)) (.pair (.int .i64) .unit))) (.pair (.int .i64) .unit))) (fun x => R22_Offer x.1 x.2.1 x.2.2.1)) := lq_R22_Offer ▸ c_R22_Offer
noncomputable def lf_R22_Withdraw : List AV → Option AV := liftF (.pair (.pair (.pair .bool (.pair (.int .i64) .unit)) (.pair (.pair (.sl (.int .i64)) (.pair (.sl (.int .i64)) .unit)) (.pair (.int .i64) .unit))) (.pair (.int .i64) .unit)) (unpack (.pair (.pair .bool (.pair (.int .i64) .unit)) (.pair (.pair (.sl (.int .i64)) (.pair (.sl (.int .i64)) .unit)) (.pair (.int .i64) .unit)))) (fun x => R22_Withdraw x.1 x.2.1)
theorem lq_R22_Withdraw : lf_R22_Withdraw = liftF (.pair (.pair (.pair .bool (.pair (.int .i64) .unit)) (.pair (.pair (.sl (.int .i64)) (.pair (.sl (.int .i64)) .unit)) (.pair (.int .i64) .unit))) (.pair (.int .i64) .unit)) (unpack (.pair (.pair .bool (.pair (.int .i64) .unit)) (.pair (.pair (.sl (.int .i64)) (.pair (.sl (.int .i64)) .unit)) (.pair (.int .i64) .unit)))) (fun x => R22_Withdraw x.1 x.2.1) := rfl
attribute [irreducible] lf_R22_Withdraw
theorem ck_R22_Withdraw {vs : List AV} {k : AV → Prop} {x : ((.pair (.pair (.pair .bool (.pair (.int .i64) .unit)) (.pair (.pair (.sl (.int .i64)) (.pair (.sl (.int .i64)) .unit)) (.pair (.int .i64) .unit))) (.pair (.int .i64) .unit)) : Ty).den} {v : (Bool × Int × Unit) × ((List Int) × (List Int) × Unit) × Int × Unit} (h1 : pks (.pair (.pair (.pair .bool (.pair (.int .i64) .unit)) (.pair (.pair (.sl (.int .i64)) (.pair (.sl (.int .i64)) .unit)) (.pair (.int .i64) .unit))) (.pair (.int .i64) .unit)) vs = some x) (h2 : R22_Withdraw x.1 x.2.1 = some v) (h3 : k ((unpack (.pair (.pair .bool (.pair (.int .i64) .unit)) (.pair (.pair (.sl (.int .i64)) (.pair (.sl (.int .i64)) .unit)) (.pair (.int .i64) .unit)))) v)) : callK (lf_R22_Withdraw vs) k := by
  rw [lq_R22_Withdraw]; exact callK_lift h1 h2 h3
def tt_R22_Withdraw : List (Nat × Ty) := [(3, .int .i64), (4, .bool), (26, .pair (.sl (.int .i64)) (.pair (.sl (.int .i64)) .unit)), (28, .pair (.pair .bool (.pair (.int .i64) .unit)) (.pair (.pair (.sl (.int .i64)) (.pair (.sl (.int .i64)) .unit)) (.pair (.int .i64) .unit)))]
def et_R22_Withdraw : List (Nat × Nat) := []
theorem tt_R22_Withdraw_ok : subT tt tt_R22_Withdraw = true := by kernel_rfl
theorem et_R22_Withdraw_ok : subE et et_R22_Withdraw = true := by kernel_rfl
noncomputable def fns_R22_Withdraw : List (Nat × (List AV → Option AV)) := [(32, lf_R22_Fine), (77, lf_R21_Withdraw)]
theorem fns_R22_Withdraw_ok : FnsOk Go.Proofs.Tryd.prog fns_R22_Withdraw := FnsOk.cons c_R22_Fine (FnsOk.cons c_R21_Withdraw (FnsOk.nil _))
def kp_R22_Withdraw : List (Nat × List Nat) := [(0, [1, 2, 4]), (1, [1, 2, 4, 9]), (2, [4]), (3, [2, 4, 5]), (4, [2, 4]), (5, [4]), (4000000, [2, 4]), (4000001, [2, 4]), (4000002, [4]), (4000003, [2, 4, 5]), (4000004, [2, 4]), (4000005, [4])]
def od_R22_Withdraw : List (Nat × Ord) := []
noncomputable def E_R22_Withdraw : Env := ⟨0, 0, et_R22_Withdraw, tt_R22_Withdraw, fns_R22_Withdraw, [], od_R22_Withdraw, kp_R22_Withdraw, none, []⟩
set_option maxRecDepth 100000 in
set_option maxHeartbeats 40000000 in
theorem c_R22_Withdraw : PCon Go.Proofs.Tryd.prog 30 lf_R22_Withdraw := by
  rw [lq_R22_Withdraw]
  refine lift_conR (E := E_R22_Withdraw) (c := bodyOf Tryd.f30) (nt := 21) (rs := [.cell 4 28]) (ts := [28]) (EnvC.sub (off := 0) (nt := 0) (ords := od_R22_Withdraw) (keep := kp_R22_Withdraw) (yl := none) tt_ok et_ok fns_R22_Withdraw_ok (PrsOk.nil _) (ItsOk.nil _) tt_R22_Withdraw_ok et_R22_Withdraw_ok) (PrOk.of mixed_ok) Go.Proofs.Tryd.func30 rfl (by decide) rfl rfl rfl (pureR_one (e := (.pair (.pair .bool (.pair (.int .i64) .unit)) (.pair (.pair (.sl (.int .i64)) (.pair (.sl (.int .i64)) .unit)) (.pair (.int .i64) .unit)))) rfl) ?_
  intro x r hw hs
  repeat'
    (try (conv => whnf)
     first
       | (with_reducible have hs := letv_out hs)
       | (refine draw_and (by kernel_rfl) ?_)
       | (refine both_mk ?_ ?_)
       | (refine br_bool (fun h => ?_) (fun h => ?_) <;> first | have hs := cT h hs | have hs := cF h hs)
       | (refine bind_elim hs fun v hb hs => ?_; first | refine ck_R22_Fine rfl hb ?_ | refine ck_R21_Withdraw rfl hb ?_)
       | refine chk_elim hs fun hs => ?_
       | (have hs := letv_out hs)
       | exact fin_some hs rfl
       | (intro b hb; first | have hs := nilq_elim hs b hb | have hs := nilqn_elim hs b hb)
       | (have hs := cT rfl hs)
       | (have hs := cF rfl hs)
       | exact (none_ne hs).elim)
theorem cq_R22_Withdraw : PCon Go.Proofs.Tryd.prog 30 (liftF (.pair (.pair (.pair .bool (.pair (.int .i64) .unit)) (.pair (.pair (.sl (.int .i64)) (.pair (.sl (.int .i64)) .unit)) (.pair (.int .i64) .unit))) (.pair (.int .i64) .unit)) (unpack (.pair (.pair .bool (.pair (.int .i64) .unit)) (.pair (.pair (.sl (.int .i64)) (.pair (.sl (.int .i64)) .unit)) (.pair (.int .i64) .unit)))) (fun x => R22_Withdraw x.1 x.2.1)) := lq_R22_Withdraw ▸ c_R22_Withdraw
end Go.Proofs.YtkpobmmabmelfaaDoorV
