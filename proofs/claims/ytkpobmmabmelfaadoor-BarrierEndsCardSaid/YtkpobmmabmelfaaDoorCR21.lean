import Derived.Test.YtkpobmmabmelfaaDoorVcTab
import Derived.Test.YtkpobmmabmelfaaDoorDR21
import Derived.Test.YtkpobmmabmelfaaDoorCR04
namespace Go.Proofs.YtkpobmmabmelfaaDoorV
open Go.Proofs
set_option linter.unusedVariables false
noncomputable def lf_R21_Fine : List AV → Option AV := liftF (.pair (.pair (.sl (.int .i64)) (.pair (.sl (.int .i64)) .unit)) .unit) (unpack .bool) (fun x => R21_Fine x.1)
theorem lq_R21_Fine : lf_R21_Fine = liftF (.pair (.pair (.sl (.int .i64)) (.pair (.sl (.int .i64)) .unit)) .unit) (unpack .bool) (fun x => R21_Fine x.1) := rfl
attribute [irreducible] lf_R21_Fine
theorem ck_R21_Fine {vs : List AV} {k : AV → Prop} {x : ((.pair (.pair (.sl (.int .i64)) (.pair (.sl (.int .i64)) .unit)) .unit) : Ty).den} {v : Bool} (h1 : pks (.pair (.pair (.sl (.int .i64)) (.pair (.sl (.int .i64)) .unit)) .unit) vs = some x) (h2 : R21_Fine x.1 = some v) (h3 : k ((unpack .bool) v)) : callK (lf_R21_Fine vs) k := by
  rw [lq_R21_Fine]; exact callK_lift h1 h2 h3
def tt_R21_Fine : List (Nat × Ty) := [(3, .int .i64), (4, .bool), (24, .sl (.int .i64)), (26, .pair (.sl (.int .i64)) (.pair (.sl (.int .i64)) .unit))]
def et_R21_Fine : List (Nat × Nat) := [(24, 3)]
theorem tt_R21_Fine_ok : subT tt tt_R21_Fine = true := by kernel_rfl
theorem et_R21_Fine_ok : subE et et_R21_Fine = true := by kernel_rfl
noncomputable def fns_R21_Fine : List (Nat × (List AV → Option AV)) := [(103, lf_R04_Less)]
theorem fns_R21_Fine_ok : FnsOk Go.Proofs.Tryd.prog fns_R21_Fine := FnsOk.cons c_R04_Less (FnsOk.nil _)
def R21_Fine_S1 (u0 : AV) (B2 : Blk) (x1 : Int) : St :=
  ⟨[(1, u0), (3, .int .i64 x1)], [(1, B2)], none⟩
def R21_Fine_M1 : Msk := ⟨[1, 3], [1], [], [], [], [], [], [], []⟩
def kp_R21_Fine : List (Nat × List Nat) := [(0, [1]), (1, [1, 3]), (2, [1, 3, 8]), (3, [1, 3]), (4, [1, 3, 24]), (5, [2]), (6, [2]), (4000000, [1]), (4000001, [1]), (4000002, [1]), (4000003, [1]), (4000004, [1]), (4000005, []), (4000006, [])]
def od_R21_Fine : List (Nat × Ord) := []
noncomputable def E_R21_Fine : Env := ⟨0, 0, et_R21_Fine, tt_R21_Fine, fns_R21_Fine, [], od_R21_Fine, kp_R21_Fine, none, []⟩
set_option maxRecDepth 100000 in
set_option maxHeartbeats 40000000 in
theorem c_R21_Fine : PCon Go.Proofs.Tryd.prog 81 lf_R21_Fine := by
  rw [lq_R21_Fine]
  refine lift_conR (E := E_R21_Fine) (c := bodyOf Tryd.f81) (nt := 32) (rs := [.tmp 2]) (ts := [4]) (EnvC.sub (off := 0) (nt := 0) (ords := od_R21_Fine) (keep := kp_R21_Fine) (yl := none) tt_ok et_ok fns_R21_Fine_ok (PrsOk.nil _) (ItsOk.nil _) tt_R21_Fine_ok et_R21_Fine_ok) (PrOk.of mixed_ok) Go.Proofs.Tryd.func81 rfl (by decide) rfl rfl rfl (pureR_one (e := .bool) rfl) ?_
  intro x r hw hs
  repeat'
    (try (conv => whnf)
     first
       | (with_reducible have hs := letv_out hs)
       | (refine draw_and (by kernel_rfl) ?_)
       | (refine both_mk ?_ ?_)
       | (refine br_bool (fun h => ?_) (fun h => ?_) <;> first | have hs := cT h hs | have hs := cF h hs)
       | (refine bind_elim hs fun v hb hs => ?_; first | refine ck_R04_Less rfl hb ?_)
       | refine chk_elim hs fun hs => ?_
       | (have hs := letv_out hs)
       | exact fin_some hs rfl
       | (intro b hb; first | have hs := nilq_elim hs b hb | have hs := nilqn_elim hs b hb)
       | exact hJ1 _ hs
       | (have hs := cT rfl hs)
       | (have hs := cF rfl hs)
       | (refine vc_loopR (R21_Fine_S1 _ _) R21_Fine_M1 hs rfl ?_; intro J1 k1 x1 hJ1 hs)
       | exact (none_ne hs).elim)
theorem cq_R21_Fine : PCon Go.Proofs.Tryd.prog 81 (liftF (.pair (.pair (.sl (.int .i64)) (.pair (.sl (.int .i64)) .unit)) .unit) (unpack .bool) (fun x => R21_Fine x.1)) := lq_R21_Fine ▸ c_R21_Fine
noncomputable def lf_R21_Full : List AV → Option AV := liftF (.pair (.pair (.sl (.int .i64)) (.pair (.sl (.int .i64)) .unit)) .unit) (unpack .bool) (fun x => R21_Full x.1)
theorem lq_R21_Full : lf_R21_Full = liftF (.pair (.pair (.sl (.int .i64)) (.pair (.sl (.int .i64)) .unit)) .unit) (unpack .bool) (fun x => R21_Full x.1) := rfl
attribute [irreducible] lf_R21_Full
theorem ck_R21_Full {vs : List AV} {k : AV → Prop} {x : ((.pair (.pair (.sl (.int .i64)) (.pair (.sl (.int .i64)) .unit)) .unit) : Ty).den} {v : Bool} (h1 : pks (.pair (.pair (.sl (.int .i64)) (.pair (.sl (.int .i64)) .unit)) .unit) vs = some x) (h2 : R21_Full x.1 = some v) (h3 : k ((unpack .bool) v)) : callK (lf_R21_Full vs) k := by
  rw [lq_R21_Full]; exact callK_lift h1 h2 h3
def tt_R21_Full : List (Nat × Ty) := [(3, .int .i64), (4, .bool), (24, .sl (.int .i64)), (26, .pair (.sl (.int .i64)) (.pair (.sl (.int .i64)) .unit))]
def et_R21_Full : List (Nat × Nat) := [(24, 3)]
theorem tt_R21_Full_ok : subT tt tt_R21_Full = true := by kernel_rfl
theorem et_R21_Full_ok : subE et et_R21_Full = true := by kernel_rfl
noncomputable def fns_R21_Full : List (Nat × (List AV → Option AV)) := [(81, lf_R21_Fine)]
theorem fns_R21_Full_ok : FnsOk Go.Proofs.Tryd.prog fns_R21_Full := FnsOk.cons c_R21_Fine (FnsOk.nil _)
def kp_R21_Full : List (Nat × List Nat) := [(0, [1]), (1, [2]), (4000000, [1]), (4000001, [])]
def od_R21_Full : List (Nat × Ord) := []
noncomputable def E_R21_Full : Env := ⟨0, 0, et_R21_Full, tt_R21_Full, fns_R21_Full, [], od_R21_Full, kp_R21_Full, none, []⟩
set_option maxRecDepth 100000 in
set_option maxHeartbeats 40000000 in
theorem c_R21_Full : PCon Go.Proofs.Tryd.prog 66 lf_R21_Full := by
  rw [lq_R21_Full]
  refine lift_conR (E := E_R21_Full) (c := bodyOf Tryd.f66) (nt := 20) (rs := [.tmp 2]) (ts := [4]) (EnvC.sub (off := 0) (nt := 0) (ords := od_R21_Full) (keep := kp_R21_Full) (yl := none) tt_ok et_ok fns_R21_Full_ok (PrsOk.nil _) (ItsOk.nil _) tt_R21_Full_ok et_R21_Full_ok) (PrOk.of mixed_ok) Go.Proofs.Tryd.func66 rfl (by decide) rfl rfl rfl (pureR_one (e := .bool) rfl) ?_
  intro x r hw hs
  repeat'
    (try (conv => whnf)
     first
       | (with_reducible have hs := letv_out hs)
       | (refine draw_and (by kernel_rfl) ?_)
       | (refine both_mk ?_ ?_)
       | (refine br_bool (fun h => ?_) (fun h => ?_) <;> first | have hs := cT h hs | have hs := cF h hs)
       | (refine bind_elim hs fun v hb hs => ?_; first | refine ck_R21_Fine rfl hb ?_)
       | refine chk_elim hs fun hs => ?_
       | (have hs := letv_out hs)
       | exact fin_some hs rfl
       | (intro b hb; first | have hs := nilq_elim hs b hb | have hs := nilqn_elim hs b hb)
       | (have hs := cT rfl hs)
       | (have hs := cF rfl hs)
       | exact (none_ne hs).elim)
theorem cq_R21_Full : PCon Go.Proofs.Tryd.prog 66 (liftF (.pair (.pair (.sl (.int .i64)) (.pair (.sl (.int .i64)) .unit)) .unit) (unpack .bool) (fun x => R21_Full x.1)) := lq_R21_Full ▸ c_R21_Full
noncomputable def lf_R21_Fire : List AV → Option AV := liftF (.pair (.pair (.sl (.int .i64)) (.pair (.sl (.int .i64)) .unit)) .unit) (unpR (.pair (.pair (.sl (.int .i64)) (.pair (.sl (.int .i64)) .unit)) (.pair (.sl (.int .i64)) (.pair (.int .i64) .unit)))) (fun x => R21_Fire x.1)
theorem lq_R21_Fire : lf_R21_Fire = liftF (.pair (.pair (.sl (.int .i64)) (.pair (.sl (.int .i64)) .unit)) .unit) (unpR (.pair (.pair (.sl (.int .i64)) (.pair (.sl (.int .i64)) .unit)) (.pair (.sl (.int .i64)) (.pair (.int .i64) .unit)))) (fun x => R21_Fire x.1) := rfl
attribute [irreducible] lf_R21_Fire
theorem ck_R21_Fire {vs : List AV} {k : AV → Prop} {x : ((.pair (.pair (.sl (.int .i64)) (.pair (.sl (.int .i64)) .unit)) .unit) : Ty).den} {v : ((List Int) × (List Int) × Unit) × (List Int) × Int × Unit} (h1 : pks (.pair (.pair (.sl (.int .i64)) (.pair (.sl (.int .i64)) .unit)) .unit) vs = some x) (h2 : R21_Fire x.1 = some v) (h3 : k ((unpR (.pair (.pair (.sl (.int .i64)) (.pair (.sl (.int .i64)) .unit)) (.pair (.sl (.int .i64)) (.pair (.int .i64) .unit)))) v)) : callK (lf_R21_Fire vs) k := by
  rw [lq_R21_Fire]; exact callK_lift h1 h2 h3
def tt_R21_Fire : List (Nat × Ty) := [(3, .int .i64), (4, .bool), (24, .sl (.int .i64)), (26, .pair (.sl (.int .i64)) (.pair (.sl (.int .i64)) .unit))]
def et_R21_Fire : List (Nat × Nat) := [(24, 3)]
theorem tt_R21_Fire_ok : subT tt tt_R21_Fire = true := by kernel_rfl
theorem et_R21_Fire_ok : subE et et_R21_Fire = true := by kernel_rfl
noncomputable def fns_R21_Fire : List (Nat × (List AV → Option AV)) := [(66, lf_R21_Full), (81, lf_R21_Fine)]
theorem fns_R21_Fire_ok : FnsOk Go.Proofs.Tryd.prog fns_R21_Fire := FnsOk.cons c_R21_Full (FnsOk.cons c_R21_Fine (FnsOk.nil _))
def kp_R21_Fire : List (Nat × List Nat) := [(0, [1, 2]), (1, [1, 2, 7]), (2, [2, 3, 4]), (3, [1, 2, 11]), (4, [2, 3, 4]), (5, [2, 3, 4]), (2000005, [2]), (3000005, []), (4000000, [1, 2]), (4000001, [1, 2]), (4000002, [2]), (4000003, [1, 2]), (4000004, [2]), (4000005, [2])]
def od_R21_Fire : List (Nat × Ord) := [(5, (.one 0 (.one 1 (.one 2 (.one 3 (.one 4 (.alt (.cons 5 (.one 6 (.one 7 .nil)) .nil))))))))]
noncomputable def E_R21_Fire : Env := ⟨0, 0, et_R21_Fire, tt_R21_Fire, fns_R21_Fire, [], od_R21_Fire, kp_R21_Fire, none, []⟩
set_option maxRecDepth 100000 in
set_option maxHeartbeats 40000000 in
theorem c_R21_Fire : PCon Go.Proofs.Tryd.prog 63 lf_R21_Fire := by
  rw [lq_R21_Fire]
  refine lift_conR (E := E_R21_Fire) (c := bodyOf Tryd.f63) (nt := 18) (rs := [.cell 2 26, .tmp 3, .tmp 4]) (ts := [26, 24, 3]) (EnvC.sub (off := 0) (nt := 0) (ords := od_R21_Fire) (keep := kp_R21_Fire) (yl := none) tt_ok et_ok fns_R21_Fire_ok (PrsOk.nil _) (ItsOk.nil _) tt_R21_Fire_ok et_R21_Fire_ok) (PrOk.of mixed_ok) Go.Proofs.Tryd.func63 rfl (by decide) rfl rfl rfl (pureR_many (e := (.pair (.pair (.sl (.int .i64)) (.pair (.sl (.int .i64)) .unit)) (.pair (.sl (.int .i64)) (.pair (.int .i64) .unit)))) rfl) ?_
  intro x r hw hs
  repeat'
    (try (conv => whnf)
     first
       | (with_reducible have hs := letv_out hs)
       | (refine draw_and (by kernel_rfl) ?_)
       | (refine both_mk ?_ ?_)
       | (refine br_bool (fun h => ?_) (fun h => ?_) <;> first | have hs := cT h hs | have hs := cF h hs)
       | (refine bind_elim hs fun v hb hs => ?_; first | refine ck_R21_Full rfl hb ?_ | refine ck_R21_Fine rfl hb ?_)
       | refine chk_elim hs fun hs => ?_
       | (have hs := letv_out hs)
       | exact fin_some hs rfl
       | (intro b hb; first | have hs := nilq_elim hs b hb | have hs := nilqn_elim hs b hb)
       | (have hs := cT rfl hs)
       | (have hs := cF rfl hs)
       | exact (none_ne hs).elim)
theorem cq_R21_Fire : PCon Go.Proofs.Tryd.prog 63 (liftF (.pair (.pair (.sl (.int .i64)) (.pair (.sl (.int .i64)) .unit)) .unit) (unpR (.pair (.pair (.sl (.int .i64)) (.pair (.sl (.int .i64)) .unit)) (.pair (.sl (.int .i64)) (.pair (.int .i64) .unit)))) (fun x => R21_Fire x.1)) := lq_R21_Fire ▸ c_R21_Fire
noncomputable def lf_R21_asked : List AV → Option AV := liftF (.pair (.pair (.sl (.int .i64)) (.pair (.sl (.int .i64)) .unit)) (.pair (.int .i64) .unit)) (unpack (.int .i64)) (fun x => R21_asked x.1 x.2.1)
theorem lq_R21_asked : lf_R21_asked = liftF (.pair (.pair (.sl (.int .i64)) (.pair (.sl (.int .i64)) .unit)) (.pair (.int .i64) .unit)) (unpack (.int .i64)) (fun x => R21_asked x.1 x.2.1) := rfl
attribute [irreducible] lf_R21_asked
theorem ck_R21_asked {vs : List AV} {k : AV → Prop} {x : ((.pair (.pair (.sl (.int .i64)) (.pair (.sl (.int .i64)) .unit)) (.pair (.int .i64) .unit)) : Ty).den} {v : Int} (h1 : pks (.pair (.pair (.sl (.int .i64)) (.pair (.sl (.int .i64)) .unit)) (.pair (.int .i64) .unit)) vs = some x) (h2 : R21_asked x.1 x.2.1 = some v) (h3 : k ((unpack (.int .i64)) v)) : callK (lf_R21_asked vs) k := by
  rw [lq_R21_asked]; exact callK_lift h1 h2 h3
def tt_R21_asked : List (Nat × Ty) := [(3, .int .i64), (4, .bool), (26, .pair (.sl (.int .i64)) (.pair (.sl (.int .i64)) .unit))]
def et_R21_asked : List (Nat × Nat) := []
theorem tt_R21_asked_ok : subT tt tt_R21_asked = true := by kernel_rfl
theorem et_R21_asked_ok : subE et et_R21_asked = true := by kernel_rfl
noncomputable def fns_R21_asked : List (Nat × (List AV → Option AV)) := [(81, lf_R21_Fine)]
theorem fns_R21_asked_ok : FnsOk Go.Proofs.Tryd.prog fns_R21_asked := FnsOk.cons c_R21_Fine (FnsOk.nil _)
def kp_R21_asked : List (Nat × List Nat) := [(0, [1, 2]), (1, [1, 7]), (2, [4]), (3, [13]), (4, [4]), (5, [4]), (4000000, [2]), (4000001, []), (4000002, []), (4000003, []), (4000004, []), (4000005, [])]
def od_R21_asked : List (Nat × Ord) := []
noncomputable def E_R21_asked : Env := ⟨0, 0, et_R21_asked, tt_R21_asked, fns_R21_asked, [], od_R21_asked, kp_R21_asked, none, []⟩
set_option maxRecDepth 100000 in
set_option maxHeartbeats 40000000 in
theorem c_R21_asked : PCon Go.Proofs.Tryd.prog 97 lf_R21_asked := by
  rw [lq_R21_asked]
  refine lift_conR (E := E_R21_asked) (c := bodyOf Tryd.f97) (nt := 14) (rs := [.tmp 4]) (ts := [3]) (EnvC.sub (off := 0) (nt := 0) (ords := od_R21_asked) (keep := kp_R21_asked) (yl := none) tt_ok et_ok fns_R21_asked_ok (PrsOk.nil _) (ItsOk.nil _) tt_R21_asked_ok et_R21_asked_ok) (PrOk.of mixed_ok) Go.Proofs.Tryd.func97 rfl (by decide) rfl rfl rfl (pureR_one (e := (.int .i64)) rfl) ?_
  intro x r hw hs
  repeat'
    (try (conv => whnf)
     first
       | (with_reducible have hs := letv_out hs)
       | (refine draw_and (by kernel_rfl) ?_)
       | (refine both_mk ?_ ?_)
       | (refine br_bool (fun h => ?_) (fun h => ?_) <;> first | have hs := cT h hs | have hs := cF h hs)
       | (refine bind_elim hs fun v hb hs => ?_; first | refine ck_R21_Fine rfl hb ?_)
       | refine chk_elim hs fun hs => ?_
       | (have hs := letv_out hs)
       | exact fin_some hs rfl
       | (intro b hb; first | have hs := nilq_elim hs b hb | have hs := nilqn_elim hs b hb)
       | (have hs := cT rfl hs)
       | (have hs := cF rfl hs)
       | exact (none_ne hs).elim)
theorem cq_R21_asked : PCon Go.Proofs.Tryd.prog 97 (liftF (.pair (.pair (.sl (.int .i64)) (.pair (.sl (.int .i64)) .unit)) (.pair (.int .i64) .unit)) (unpack (.int .i64)) (fun x => R21_asked x.1 x.2.1)) := lq_R21_asked ▸ c_R21_asked
noncomputable def lf_R21_Enrol : List AV → Option AV := liftF (.pair (.pair (.sl (.int .i64)) (.pair (.sl (.int .i64)) .unit)) (.pair (.int .i64) .unit)) (unpR (.pair (.pair (.sl (.int .i64)) (.pair (.sl (.int .i64)) .unit)) (.pair (.int .i64) .unit))) (fun x => R21_Enrol x.1 x.2.1)
theorem lq_R21_Enrol : lf_R21_Enrol = liftF (.pair (.pair (.sl (.int .i64)) (.pair (.sl (.int .i64)) .unit)) (.pair (.int .i64) .unit)) (unpR (.pair (.pair (.sl (.int .i64)) (.pair (.sl (.int .i64)) .unit)) (.pair (.int .i64) .unit))) (fun x => R21_Enrol x.1 x.2.1) := rfl
attribute [irreducible] lf_R21_Enrol
theorem ck_R21_Enrol {vs : List AV} {k : AV → Prop} {x : ((.pair (.pair (.sl (.int .i64)) (.pair (.sl (.int .i64)) .unit)) (.pair (.int .i64) .unit)) : Ty).den} {v : ((List Int) × (List Int) × Unit) × Int × Unit} (h1 : pks (.pair (.pair (.sl (.int .i64)) (.pair (.sl (.int .i64)) .unit)) (.pair (.int .i64) .unit)) vs = some x) (h2 : R21_Enrol x.1 x.2.1 = some v) (h3 : k ((unpR (.pair (.pair (.sl (.int .i64)) (.pair (.sl (.int .i64)) .unit)) (.pair (.int .i64) .unit))) v)) : callK (lf_R21_Enrol vs) k := by
  rw [lq_R21_Enrol]; exact callK_lift h1 h2 h3
def tt_R21_Enrol : List (Nat × Ty) := [(3, .int .i64), (24, .sl (.int .i64)), (26, .pair (.sl (.int .i64)) (.pair (.sl (.int .i64)) .unit))]
def et_R21_Enrol : List (Nat × Nat) := [(24, 3)]
theorem tt_R21_Enrol_ok : subT tt tt_R21_Enrol = true := by kernel_rfl
theorem et_R21_Enrol_ok : subE et et_R21_Enrol = true := by kernel_rfl
noncomputable def fns_R21_Enrol : List (Nat × (List AV → Option AV)) := [(97, lf_R21_asked), (98, lf_R04_Has), (99, lf_R04_Add)]
theorem fns_R21_Enrol_ok : FnsOk Go.Proofs.Tryd.prog fns_R21_Enrol := FnsOk.cons c_R21_asked (FnsOk.cons c_R04_Has (FnsOk.cons c_R04_Add (FnsOk.nil _)))
def kp_R21_Enrol : List (Nat × List Nat) := [(0, [1, 2, 4]), (1, [1, 2, 4, 6]), (2, [1, 2, 4, 6, 11]), (3, [4, 5]), (4, [1, 2, 4, 17]), (5, [4, 5]), (6, [2, 4]), (7, [4, 5]), (4000000, [2, 4]), (4000001, [2, 4]), (4000002, [2, 4]), (4000003, [4]), (4000004, [2, 4]), (4000005, [4]), (4000006, [2, 4]), (4000007, [4])]
def od_R21_Enrol : List (Nat × Ord) := []
noncomputable def E_R21_Enrol : Env := ⟨0, 0, et_R21_Enrol, tt_R21_Enrol, fns_R21_Enrol, [], od_R21_Enrol, kp_R21_Enrol, none, []⟩
set_option maxRecDepth 100000 in
set_option maxHeartbeats 40000000 in
theorem c_R21_Enrol : PCon Go.Proofs.Tryd.prog 71 lf_R21_Enrol := by
  rw [lq_R21_Enrol]
  refine lift_conR (E := E_R21_Enrol) (c := bodyOf Tryd.f71) (nt := 25) (rs := [.cell 4 26, .tmp 5]) (ts := [26, 3]) (EnvC.sub (off := 0) (nt := 0) (ords := od_R21_Enrol) (keep := kp_R21_Enrol) (yl := none) tt_ok et_ok fns_R21_Enrol_ok (PrsOk.nil _) (ItsOk.nil _) tt_R21_Enrol_ok et_R21_Enrol_ok) (PrOk.of mixed_ok) Go.Proofs.Tryd.func71 rfl (by decide) rfl rfl rfl (pureR_many (e := (.pair (.pair (.sl (.int .i64)) (.pair (.sl (.int .i64)) .unit)) (.pair (.int .i64) .unit))) rfl) ?_
  intro x r hw hs
  repeat'
    (try (conv => whnf)
     first
       | (with_reducible have hs := letv_out hs)
       | (refine draw_and (by kernel_rfl) ?_)
       | (refine both_mk ?_ ?_)
       | (refine br_bool (fun h => ?_) (fun h => ?_) <;> first | have hs := cT h hs | have hs := cF h hs)
       | (refine bind_elim hs fun v hb hs => ?_; first | refine ck_R21_asked rfl hb ?_ | refine ck_R04_Has rfl hb ?_ | refine ck_R04_Add rfl hb ?_)
       | refine chk_elim hs fun hs => ?_
       | (have hs := letv_out hs)
       | exact fin_some hs rfl
       | (intro b hb; first | have hs := nilq_elim hs b hb | have hs := nilqn_elim hs b hb)
       | (have hs := cT rfl hs)
       | (have hs := cF rfl hs)
       | exact (none_ne hs).elim)
theorem cq_R21_Enrol : PCon Go.Proofs.Tryd.prog 71 (liftF (.pair (.pair (.sl (.int .i64)) (.pair (.sl (.int .i64)) .unit)) (.pair (.int .i64) .unit)) (unpR (.pair (.pair (.sl (.int .i64)) (.pair (.sl (.int .i64)) .unit)) (.pair (.int .i64) .unit))) (fun x => R21_Enrol x.1 x.2.1)) := lq_R21_Enrol ▸ c_R21_Enrol
noncomputable def lf_R21_Resign : List AV → Option AV := liftF (.pair (.pair (.sl (.int .i64)) (.pair (.sl (.int .i64)) .unit)) (.pair (.int .i64) .unit)) (unpR (.pair (.pair (.sl (.int .i64)) (.pair (.sl (.int .i64)) .unit)) (.pair (.int .i64) .unit))) (fun x => R21_Resign x.1 x.2.1)
theorem lq_R21_Resign : lf_R21_Resign = liftF (.pair (.pair (.sl (.int .i64)) (.pair (.sl (.int .i64)) .unit)) (.pair (.int .i64) .unit)) (unpR (.pair (.pair (.sl (.int .i64)) (.pair (.sl (.int .i64)) .unit)) (.pair (.int .i64) .unit))) (fun x => R21_Resign x.1 x.2.1) := rfl
attribute [irreducible] lf_R21_Resign
theorem ck_R21_Resign {vs : List AV} {k : AV → Prop} {x : ((.pair (.pair (.sl (.int .i64)) (.pair (.sl (.int .i64)) .unit)) (.pair (.int .i64) .unit)) : Ty).den} {v : ((List Int) × (List Int) × Unit) × Int × Unit} (h1 : pks (.pair (.pair (.sl (.int .i64)) (.pair (.sl (.int .i64)) .unit)) (.pair (.int .i64) .unit)) vs = some x) (h2 : R21_Resign x.1 x.2.1 = some v) (h3 : k ((unpR (.pair (.pair (.sl (.int .i64)) (.pair (.sl (.int .i64)) .unit)) (.pair (.int .i64) .unit))) v)) : callK (lf_R21_Resign vs) k := by
  rw [lq_R21_Resign]; exact callK_lift h1 h2 h3
def tt_R21_Resign : List (Nat × Ty) := [(3, .int .i64), (4, .bool), (24, .sl (.int .i64)), (26, .pair (.sl (.int .i64)) (.pair (.sl (.int .i64)) .unit))]
def et_R21_Resign : List (Nat × Nat) := [(24, 3)]
theorem tt_R21_Resign_ok : subT tt tt_R21_Resign = true := by kernel_rfl
theorem et_R21_Resign_ok : subE et et_R21_Resign = true := by kernel_rfl
noncomputable def fns_R21_Resign : List (Nat × (List AV → Option AV)) := [(97, lf_R21_asked), (98, lf_R04_Has), (101, lf_R04_Drop)]
theorem fns_R21_Resign_ok : FnsOk Go.Proofs.Tryd.prog fns_R21_Resign := FnsOk.cons c_R21_asked (FnsOk.cons c_R04_Has (FnsOk.cons c_R04_Drop (FnsOk.nil _)))
def kp_R21_Resign : List (Nat × List Nat) := [(0, [1, 2, 4]), (1, [1, 2, 4, 6]), (2, [1, 2, 4, 6, 11]), (3, [4, 5]), (4, [1, 2, 4, 18]), (5, [4, 5]), (6, [1, 2, 4]), (7, [2, 4]), (8, [4, 5]), (4000000, [2, 4]), (4000001, [2, 4]), (4000002, [2, 4]), (4000003, [4]), (4000004, [2, 4]), (4000005, [4]), (4000006, [2, 4]), (4000007, [2, 4]), (4000008, [4])]
def od_R21_Resign : List (Nat × Ord) := []
noncomputable def E_R21_Resign : Env := ⟨0, 0, et_R21_Resign, tt_R21_Resign, fns_R21_Resign, [], od_R21_Resign, kp_R21_Resign, none, []⟩
set_option maxRecDepth 100000 in
set_option maxHeartbeats 40000000 in
theorem c_R21_Resign : PCon Go.Proofs.Tryd.prog 73 lf_R21_Resign := by
  rw [lq_R21_Resign]
  refine lift_conR (E := E_R21_Resign) (c := bodyOf Tryd.f73) (nt := 31) (rs := [.cell 4 26, .tmp 5]) (ts := [26, 3]) (EnvC.sub (off := 0) (nt := 0) (ords := od_R21_Resign) (keep := kp_R21_Resign) (yl := none) tt_ok et_ok fns_R21_Resign_ok (PrsOk.nil _) (ItsOk.nil _) tt_R21_Resign_ok et_R21_Resign_ok) (PrOk.of mixed_ok) Go.Proofs.Tryd.func73 rfl (by decide) rfl rfl rfl (pureR_many (e := (.pair (.pair (.sl (.int .i64)) (.pair (.sl (.int .i64)) .unit)) (.pair (.int .i64) .unit))) rfl) ?_
  intro x r hw hs
  repeat'
    (try (conv => whnf)
     first
       | (with_reducible have hs := letv_out hs)
       | (refine draw_and (by kernel_rfl) ?_)
       | (refine both_mk ?_ ?_)
       | (refine br_bool (fun h => ?_) (fun h => ?_) <;> first | have hs := cT h hs | have hs := cF h hs)
       | (refine bind_elim hs fun v hb hs => ?_; first | refine ck_R21_asked rfl hb ?_ | refine ck_R04_Has rfl hb ?_ | refine ck_R04_Drop rfl hb ?_)
       | refine chk_elim hs fun hs => ?_
       | (have hs := letv_out hs)
       | exact fin_some hs rfl
       | (intro b hb; first | have hs := nilq_elim hs b hb | have hs := nilqn_elim hs b hb)
       | (have hs := cT rfl hs)
       | (have hs := cF rfl hs)
       | exact (none_ne hs).elim)
theorem cq_R21_Resign : PCon Go.Proofs.Tryd.prog 73 (liftF (.pair (.pair (.sl (.int .i64)) (.pair (.sl (.int .i64)) .unit)) (.pair (.int .i64) .unit)) (unpR (.pair (.pair (.sl (.int .i64)) (.pair (.sl (.int .i64)) .unit)) (.pair (.int .i64) .unit))) (fun x => R21_Resign x.1 x.2.1)) := lq_R21_Resign ▸ c_R21_Resign
noncomputable def lf_R21_Offer : List AV → Option AV := liftF (.pair (.pair (.sl (.int .i64)) (.pair (.sl (.int .i64)) .unit)) (.pair (.int .i64) .unit)) (unpR (.pair (.pair (.sl (.int .i64)) (.pair (.sl (.int .i64)) .unit)) (.pair (.int .i64) .unit))) (fun x => R21_Offer x.1 x.2.1)
theorem lq_R21_Offer : lf_R21_Offer = liftF (.pair (.pair (.sl (.int .i64)) (.pair (.sl (.int .i64)) .unit)) (.pair (.int .i64) .unit)) (unpR (.pair (.pair (.sl (.int .i64)) (.pair (.sl (.int .i64)) .unit)) (.pair (.int .i64) .unit))) (fun x => R21_Offer x.1 x.2.1) := rfl
attribute [irreducible] lf_R21_Offer
theorem ck_R21_Offer {vs : List AV} {k : AV → Prop} {x : ((.pair (.pair (.sl (.int .i64)) (.pair (.sl (.int .i64)) .unit)) (.pair (.int .i64) .unit)) : Ty).den} {v : ((List Int) × (List Int) × Unit) × Int × Unit} (h1 : pks (.pair (.pair (.sl (.int .i64)) (.pair (.sl (.int .i64)) .unit)) (.pair (.int .i64) .unit)) vs = some x) (h2 : R21_Offer x.1 x.2.1 = some v) (h3 : k ((unpR (.pair (.pair (.sl (.int .i64)) (.pair (.sl (.int .i64)) .unit)) (.pair (.int .i64) .unit))) v)) : callK (lf_R21_Offer vs) k := by
  rw [lq_R21_Offer]; exact callK_lift h1 h2 h3
def tt_R21_Offer : List (Nat × Ty) := [(3, .int .i64), (4, .bool), (24, .sl (.int .i64)), (26, .pair (.sl (.int .i64)) (.pair (.sl (.int .i64)) .unit))]
def et_R21_Offer : List (Nat × Nat) := [(24, 3)]
theorem tt_R21_Offer_ok : subT tt tt_R21_Offer = true := by kernel_rfl
theorem et_R21_Offer_ok : subE et et_R21_Offer = true := by kernel_rfl
noncomputable def fns_R21_Offer : List (Nat × (List AV → Option AV)) := [(97, lf_R21_asked), (98, lf_R04_Has), (99, lf_R04_Add)]
theorem fns_R21_Offer_ok : FnsOk Go.Proofs.Tryd.prog fns_R21_Offer := FnsOk.cons c_R21_asked (FnsOk.cons c_R04_Has (FnsOk.cons c_R04_Add (FnsOk.nil _)))
def kp_R21_Offer : List (Nat × List Nat) := [(0, [1, 2, 4]), (1, [1, 2, 4, 6]), (2, [1, 2, 4, 6, 11]), (3, [4, 5]), (4, [1, 2, 4, 18]), (5, [4, 5]), (6, [1, 2, 4, 23]), (7, [4, 5]), (8, [2, 4]), (9, [4, 5]), (4000000, [2, 4]), (4000001, [2, 4]), (4000002, [2, 4]), (4000003, [4]), (4000004, [2, 4]), (4000005, [4]), (4000006, [2, 4]), (4000007, [4]), (4000008, [2, 4]), (4000009, [4])]
def od_R21_Offer : List (Nat × Ord) := []
noncomputable def E_R21_Offer : Env := ⟨0, 0, et_R21_Offer, tt_R21_Offer, fns_R21_Offer, [], od_R21_Offer, kp_R21_Offer, none, []⟩
set_option maxRecDepth 100000 in
set_option maxHeartbeats 40000000 in
theorem c_R21_Offer : PCon Go.Proofs.Tryd.prog 75 lf_R21_Offer := by
  rw [lq_R21_Offer]
  refine lift_conR (E := E_R21_Offer) (c := bodyOf Tryd.f75) (nt := 31) (rs := [.cell 4 26, .tmp 5]) (ts := [26, 3]) (EnvC.sub (off := 0) (nt := 0) (ords := od_R21_Offer) (keep := kp_R21_Offer) (yl := none) tt_ok et_ok fns_R21_Offer_ok (PrsOk.nil _) (ItsOk.nil _) tt_R21_Offer_ok et_R21_Offer_ok) (PrOk.of mixed_ok) Go.Proofs.Tryd.func75 rfl (by decide) rfl rfl rfl (pureR_many (e := (.pair (.pair (.sl (.int .i64)) (.pair (.sl (.int .i64)) .unit)) (.pair (.int .i64) .unit))) rfl) ?_
  intro x r hw hs
  repeat'
    (try (conv => whnf)
     first
       | (with_reducible have hs := letv_out hs)
       | (refine draw_and (by kernel_rfl) ?_)
       | (refine both_mk ?_ ?_)
       | (refine br_bool (fun h => ?_) (fun h => ?_) <;> first | have hs := cT h hs | have hs := cF h hs)
       | (refine bind_elim hs fun v hb hs => ?_; first | refine ck_R21_asked rfl hb ?_ | refine ck_R04_Has rfl hb ?_ | refine ck_R04_Add rfl hb ?_)
       | refine chk_elim hs fun hs => ?_
       | (have hs := letv_out hs)
       | exact fin_some hs rfl
       | (intro b hb; first | have hs := nilq_elim hs b hb | have hs := nilqn_elim hs b hb)
       | (have hs := cT rfl hs)
       | (have hs := cF rfl hs)
       | exact (none_ne hs).elim)
theorem cq_R21_Offer : PCon Go.Proofs.Tryd.prog 75 (liftF (.pair (.pair (.sl (.int .i64)) (.pair (.sl (.int .i64)) .unit)) (.pair (.int .i64) .unit)) (unpR (.pair (.pair (.sl (.int .i64)) (.pair (.sl (.int .i64)) .unit)) (.pair (.int .i64) .unit))) (fun x => R21_Offer x.1 x.2.1)) := lq_R21_Offer ▸ c_R21_Offer
noncomputable def lf_R21_Withdraw : List AV → Option AV := liftF (.pair (.pair (.sl (.int .i64)) (.pair (.sl (.int .i64)) .unit)) (.pair (.int .i64) .unit)) (unpR (.pair (.pair (.sl (.int .i64)) (.pair (.sl (.int .i64)) .unit)) (.pair .bool .unit))) (fun x => R21_Withdraw x.1 x.2.1)
theorem lq_R21_Withdraw : lf_R21_Withdraw = liftF (.pair (.pair (.sl (.int .i64)) (.pair (.sl (.int .i64)) .unit)) (.pair (.int .i64) .unit)) (unpR (.pair (.pair (.sl (.int .i64)) (.pair (.sl (.int .i64)) .unit)) (.pair .bool .unit))) (fun x => R21_Withdraw x.1 x.2.1) := rfl
attribute [irreducible] lf_R21_Withdraw
theorem ck_R21_Withdraw {vs : List AV} {k : AV → Prop} {x : ((.pair (.pair (.sl (.int .i64)) (.pair (.sl (.int .i64)) .unit)) (.pair (.int .i64) .unit)) : Ty).den} {v : ((List Int) × (List Int) × Unit) × Bool × Unit} (h1 : pks (.pair (.pair (.sl (.int .i64)) (.pair (.sl (.int .i64)) .unit)) (.pair (.int .i64) .unit)) vs = some x) (h2 : R21_Withdraw x.1 x.2.1 = some v) (h3 : k ((unpR (.pair (.pair (.sl (.int .i64)) (.pair (.sl (.int .i64)) .unit)) (.pair .bool .unit))) v)) : callK (lf_R21_Withdraw vs) k := by
  rw [lq_R21_Withdraw]; exact callK_lift h1 h2 h3
def tt_R21_Withdraw : List (Nat × Ty) := [(3, .int .i64), (4, .bool), (24, .sl (.int .i64)), (26, .pair (.sl (.int .i64)) (.pair (.sl (.int .i64)) .unit))]
def et_R21_Withdraw : List (Nat × Nat) := [(24, 3)]
theorem tt_R21_Withdraw_ok : subT tt tt_R21_Withdraw = true := by kernel_rfl
theorem et_R21_Withdraw_ok : subE et et_R21_Withdraw = true := by kernel_rfl
noncomputable def fns_R21_Withdraw : List (Nat × (List AV → Option AV)) := [(81, lf_R21_Fine), (98, lf_R04_Has), (101, lf_R04_Drop)]
theorem fns_R21_Withdraw_ok : FnsOk Go.Proofs.Tryd.prog fns_R21_Withdraw := FnsOk.cons c_R21_Fine (FnsOk.cons c_R04_Has (FnsOk.cons c_R04_Drop (FnsOk.nil _)))
def kp_R21_Withdraw : List (Nat × List Nat) := [(0, [1, 2, 4]), (1, [1, 2, 4, 15]), (2, [4, 5]), (3, [2, 4]), (4, [4, 5]), (4000000, [2, 4]), (4000001, [2, 4]), (4000002, [4]), (4000003, [2, 4]), (4000004, [4])]
def od_R21_Withdraw : List (Nat × Ord) := []
noncomputable def E_R21_Withdraw : Env := ⟨0, 0, et_R21_Withdraw, tt_R21_Withdraw, fns_R21_Withdraw, [], od_R21_Withdraw, kp_R21_Withdraw, none, []⟩
set_option maxRecDepth 100000 in
set_option maxHeartbeats 40000000 in
theorem c_R21_Withdraw : PCon Go.Proofs.Tryd.prog 77 lf_R21_Withdraw := by
  rw [lq_R21_Withdraw]
  refine lift_conR (E := E_R21_Withdraw) (c := bodyOf Tryd.f77) (nt := 23) (rs := [.cell 4 26, .tmp 5]) (ts := [26, 4]) (EnvC.sub (off := 0) (nt := 0) (ords := od_R21_Withdraw) (keep := kp_R21_Withdraw) (yl := none) tt_ok et_ok fns_R21_Withdraw_ok (PrsOk.nil _) (ItsOk.nil _) tt_R21_Withdraw_ok et_R21_Withdraw_ok) (PrOk.of mixed_ok) Go.Proofs.Tryd.func77 rfl (by decide) rfl rfl rfl (pureR_many (e := (.pair (.pair (.sl (.int .i64)) (.pair (.sl (.int .i64)) .unit)) (.pair .bool .unit))) rfl) ?_
  intro x r hw hs
  repeat'
    (try (conv => whnf)
     first
       | (with_reducible have hs := letv_out hs)
       | (refine draw_and (by kernel_rfl) ?_)
       | (refine both_mk ?_ ?_)
       | (refine br_bool (fun h => ?_) (fun h => ?_) <;> first | have hs := cT h hs | have hs := cF h hs)
       | (refine bind_elim hs fun v hb hs => ?_; first | refine ck_R21_Fine rfl hb ?_ | refine ck_R04_Has rfl hb ?_ | refine ck_R04_Drop rfl hb ?_)
       | refine chk_elim hs fun hs => ?_
       | (have hs := letv_out hs)
       | exact fin_some hs rfl
       | (intro b hb; first | have hs := nilq_elim hs b hb | have hs := nilqn_elim hs b hb)
       | (have hs := cT rfl hs)
       | (have hs := cF rfl hs)
       | exact (none_ne hs).elim)
theorem cq_R21_Withdraw : PCon Go.Proofs.Tryd.prog 77 (liftF (.pair (.pair (.sl (.int .i64)) (.pair (.sl (.int .i64)) .unit)) (.pair (.int .i64) .unit)) (unpR (.pair (.pair (.sl (.int .i64)) (.pair (.sl (.int .i64)) .unit)) (.pair .bool .unit))) (fun x => R21_Withdraw x.1 x.2.1)) := lq_R21_Withdraw ▸ c_R21_Withdraw
end Go.Proofs.YtkpobmmabmelfaaDoorV
