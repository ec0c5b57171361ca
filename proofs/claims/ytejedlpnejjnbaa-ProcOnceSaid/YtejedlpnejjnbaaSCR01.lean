import Derived.Test.YtejedlpnejjnbaaSVcTab
import Derived.Test.YtejedlpnejjnbaaSDR01
namespace Go.Proofs.YtejedlpnejjnbaaSV
open Go.Proofs
set_option linter.unusedVariables false
noncomputable def lf_R01_Make : List AV → Option AV := liftF (.pair (.int .i64) (.pair (.int .i64) .unit)) (unpR (.pair (.int .i64) (.pair (.int .i64) .unit))) (fun x => R01_Make x.1 x.2.1)
theorem lq_R01_Make : lf_R01_Make = liftF (.pair (.int .i64) (.pair (.int .i64) .unit)) (unpR (.pair (.int .i64) (.pair (.int .i64) .unit))) (fun x => R01_Make x.1 x.2.1) := rfl
attribute [irreducible] lf_R01_Make
theorem ck_R01_Make {vs : List AV} {k : AV → Prop} {x : ((.pair (.int .i64) (.pair (.int .i64) .unit)) : Ty).den} {v : Int × Int × Unit} (h1 : pks (.pair (.int .i64) (.pair (.int .i64) .unit)) vs = some x) (h2 : R01_Make x.1 x.2.1 = some v) (h3 : k ((unpR (.pair (.int .i64) (.pair (.int .i64) .unit))) v)) : callK (lf_R01_Make vs) k := by
  rw [lq_R01_Make]; exact callK_lift h1 h2 h3
def tt_R01_Make : List (Nat × Ty) := [(3, .int .i64)]
def et_R01_Make : List (Nat × Nat) := []
theorem tt_R01_Make_ok : subT tt tt_R01_Make = true := by kernel_rfl
theorem et_R01_Make_ok : subE et et_R01_Make = true := by kernel_rfl
noncomputable def fns_R01_Make : List (Nat × (List AV → Option AV)) := []
theorem fns_R01_Make_ok : FnsOk Go.Proofs.Try.prog fns_R01_Make := FnsOk.nil _
def kp_R01_Make : List (Nat × List Nat) := [(0, [0, 1]), (1, [0, 1, 19]), (2, [4, 5]), (3, [4, 5]), (4000000, []), (4000001, []), (4000002, []), (4000003, [])]
def od_R01_Make : List (Nat × Ord) := []
noncomputable def E_R01_Make : Env := ⟨0, 0, et_R01_Make, tt_R01_Make, fns_R01_Make, [], od_R01_Make, kp_R01_Make, none, []⟩
set_option maxRecDepth 100000 in
set_option maxHeartbeats 40000000 in
theorem c_R01_Make : PCon Go.Proofs.Try.prog 37 lf_R01_Make := by
  rw [lq_R01_Make]
  refine lift_conR (E := E_R01_Make) (c := bodyOf Try.f37) (nt := 24) (rs := [.tmp 4, .tmp 5]) (ts := [3, 3]) (EnvC.sub (off := 0) (nt := 0) (ords := od_R01_Make) (keep := kp_R01_Make) (yl := none) tt_ok et_ok fns_R01_Make_ok (PrsOk.nil _) (ItsOk.nil _) tt_R01_Make_ok et_R01_Make_ok) (PrOk.of mixed_ok) Go.Proofs.Try.func37 rfl (by decide) rfl rfl rfl (pureR_many (e := (.pair (.int .i64) (.pair (.int .i64) .unit))) rfl) ?_
  intro x r hw hs
  repeat'
    (try (conv => whnf)
     first
       | (with_reducible have hs := letv_out hs)
       | (refine draw_and (by kernel_rfl) ?_)
       | (refine both_mk ?_ ?_)
       | (refine br_bool (fun h => ?_) (fun h => ?_) <;> first | have hs := cT h hs | have hs := cF h hs)
       | refine chk_elim hs fun hs => ?_
       | (have hs := letv_out hs)
       | exact fin_some hs rfl
       | (intro b hb; first | have hs := nilq_elim hs b hb | have hs := nilqn_elim hs b hb)
       | (have hs := cT rfl hs)
       | (have hs := cF rfl hs)
       | exact (none_ne hs).elim)
theorem cq_R01_Make : PCon Go.Proofs.Try.prog 37 (liftF (.pair (.int .i64) (.pair (.int .i64) .unit)) (unpR (.pair (.int .i64) (.pair (.int .i64) .unit))) (fun x => R01_Make x.1 x.2.1)) := lq_R01_Make ▸ c_R01_Make
noncomputable def lf_R01_Fine : List AV → Option AV := liftF (.pair (.int .i64) .unit) (unpack .bool) (fun x => R01_Fine x.1)
theorem lq_R01_Fine : lf_R01_Fine = liftF (.pair (.int .i64) .unit) (unpack .bool) (fun x => R01_Fine x.1) := rfl
attribute [irreducible] lf_R01_Fine
theorem ck_R01_Fine {vs : List AV} {k : AV → Prop} {x : ((.pair (.int .i64) .unit) : Ty).den} {v : Bool} (h1 : pks (.pair (.int .i64) .unit) vs = some x) (h2 : R01_Fine x.1 = some v) (h3 : k ((unpack .bool) v)) : callK (lf_R01_Fine vs) k := by
  rw [lq_R01_Fine]; exact callK_lift h1 h2 h3
def tt_R01_Fine : List (Nat × Ty) := [(3, .int .i64), (4, .bool)]
def et_R01_Fine : List (Nat × Nat) := []
theorem tt_R01_Fine_ok : subT tt tt_R01_Fine = true := by kernel_rfl
theorem et_R01_Fine_ok : subE et et_R01_Fine = true := by kernel_rfl
noncomputable def fns_R01_Fine : List (Nat × (List AV → Option AV)) := []
theorem fns_R01_Fine_ok : FnsOk Go.Proofs.Try.prog fns_R01_Fine := FnsOk.nil _
def kp_R01_Fine : List (Nat × List Nat) := [(0, [0]), (1, [2]), (4000000, []), (4000001, [])]
def od_R01_Fine : List (Nat × Ord) := []
noncomputable def E_R01_Fine : Env := ⟨0, 0, et_R01_Fine, tt_R01_Fine, fns_R01_Fine, [], od_R01_Fine, kp_R01_Fine, none, []⟩
set_option maxRecDepth 100000 in
set_option maxHeartbeats 40000000 in
theorem c_R01_Fine : PCon Go.Proofs.Try.prog 48 lf_R01_Fine := by
  rw [lq_R01_Fine]
  refine lift_conR (E := E_R01_Fine) (c := bodyOf Try.f48) (nt := 9) (rs := [.tmp 2]) (ts := [4]) (EnvC.sub (off := 0) (nt := 0) (ords := od_R01_Fine) (keep := kp_R01_Fine) (yl := none) tt_ok et_ok fns_R01_Fine_ok (PrsOk.nil _) (ItsOk.nil _) tt_R01_Fine_ok et_R01_Fine_ok) (PrOk.of mixed_ok) Go.Proofs.Try.func48 rfl (by decide) rfl rfl rfl (pureR_one (e := .bool) rfl) ?_
  intro x r hw hs
  repeat'
    (try (conv => whnf)
     first
       | (with_reducible have hs := letv_out hs)
       | (refine draw_and (by kernel_rfl) ?_)
       | (refine both_mk ?_ ?_)
       | (refine br_bool (fun h => ?_) (fun h => ?_) <;> first | have hs := cT h hs | have hs := cF h hs)
       | refine chk_elim hs fun hs => ?_
       | (have hs := letv_out hs)
       | exact fin_some hs rfl
       | (intro b hb; first | have hs := nilq_elim hs b hb | have hs := nilqn_elim hs b hb)
       | (have hs := cT rfl hs)
       | (have hs := cF rfl hs)
       | exact (none_ne hs).elim)
theorem cq_R01_Fine : PCon Go.Proofs.Try.prog 48 (liftF (.pair (.int .i64) .unit) (unpack .bool) (fun x => R01_Fine x.1)) := lq_R01_Fine ▸ c_R01_Fine
noncomputable def lf_R01_Slot : List AV → Option AV := liftF (.pair (.int .i64) .unit) (unpack (.int .i64)) (fun x => R01_Slot x.1)
theorem lq_R01_Slot : lf_R01_Slot = liftF (.pair (.int .i64) .unit) (unpack (.int .i64)) (fun x => R01_Slot x.1) := rfl
attribute [irreducible] lf_R01_Slot
theorem ck_R01_Slot {vs : List AV} {k : AV → Prop} {x : ((.pair (.int .i64) .unit) : Ty).den} {v : Int} (h1 : pks (.pair (.int .i64) .unit) vs = some x) (h2 : R01_Slot x.1 = some v) (h3 : k ((unpack (.int .i64)) v)) : callK (lf_R01_Slot vs) k := by
  rw [lq_R01_Slot]; exact callK_lift h1 h2 h3
def tt_R01_Slot : List (Nat × Ty) := [(3, .int .i64), (4, .bool)]
def et_R01_Slot : List (Nat × Nat) := []
theorem tt_R01_Slot_ok : subT tt tt_R01_Slot = true := by kernel_rfl
theorem et_R01_Slot_ok : subE et et_R01_Slot = true := by kernel_rfl
noncomputable def fns_R01_Slot : List (Nat × (List AV → Option AV)) := [(48, lf_R01_Fine)]
theorem fns_R01_Slot_ok : FnsOk Go.Proofs.Try.prog fns_R01_Slot := FnsOk.cons c_R01_Fine (FnsOk.nil _)
def kp_R01_Slot : List (Nat × List Nat) := [(0, [0]), (1, [0, 5]), (2, [2]), (3, [2]), (4000000, []), (4000001, []), (4000002, []), (4000003, [])]
def od_R01_Slot : List (Nat × Ord) := []
noncomputable def E_R01_Slot : Env := ⟨0, 0, et_R01_Slot, tt_R01_Slot, fns_R01_Slot, [], od_R01_Slot, kp_R01_Slot, none, []⟩
set_option maxRecDepth 100000 in
set_option maxHeartbeats 40000000 in
theorem c_R01_Slot : PCon Go.Proofs.Try.prog 31 lf_R01_Slot := by
  rw [lq_R01_Slot]
  refine lift_conR (E := E_R01_Slot) (c := bodyOf Try.f31) (nt := 11) (rs := [.tmp 2]) (ts := [3]) (EnvC.sub (off := 0) (nt := 0) (ords := od_R01_Slot) (keep := kp_R01_Slot) (yl := none) tt_ok et_ok fns_R01_Slot_ok (PrsOk.nil _) (ItsOk.nil _) tt_R01_Slot_ok et_R01_Slot_ok) (PrOk.of mixed_ok) Go.Proofs.Try.func31 rfl (by decide) rfl rfl rfl (pureR_one (e := (.int .i64)) rfl) ?_
  intro x r hw hs
  repeat'
    (try (conv => whnf)
     first
       | (with_reducible have hs := letv_out hs)
       | (refine draw_and (by kernel_rfl) ?_)
       | (refine both_mk ?_ ?_)
       | (refine br_bool (fun h => ?_) (fun h => ?_) <;> first | have hs := cT h hs | have hs := cF h hs)
       | (refine bind_elim hs fun v hb hs => ?_; first | refine ck_R01_Fine rfl hb ?_)
       | refine chk_elim hs fun hs => ?_
       | (have hs := letv_out hs)
       | exact fin_some hs rfl
       | (intro b hb; first | have hs := nilq_elim hs b hb | have hs := nilqn_elim hs b hb)
       | (have hs := cT rfl hs)
       | (have hs := cF rfl hs)
       | exact (none_ne hs).elim)
theorem cq_R01_Slot : PCon Go.Proofs.Try.prog 31 (liftF (.pair (.int .i64) .unit) (unpack (.int .i64)) (fun x => R01_Slot x.1)) := lq_R01_Slot ▸ c_R01_Slot
end Go.Proofs.YtejedlpnejjnbaaSV
