import Derived.Test.YtoihmfgkmndjfaaVcTab
import Derived.Test.YtoihmfgkmndjfaaDR07
namespace Go.Proofs.YtoihmfgkmndjfaaV
open Go.Proofs
set_option linter.unusedVariables false
noncomputable def lf_R07_New : List AV → Option AV := liftF (.pair (.int .i64) .unit) (unpR (.pair (.pair (.int .i64) (.pair (.sl (.int .i64)) .unit)) (.pair (.int .i64) .unit))) (fun x => R07_New x.1)
theorem lq_R07_New : lf_R07_New = liftF (.pair (.int .i64) .unit) (unpR (.pair (.pair (.int .i64) (.pair (.sl (.int .i64)) .unit)) (.pair (.int .i64) .unit))) (fun x => R07_New x.1) := rfl
attribute [irreducible] lf_R07_New
theorem ck_R07_New {vs : List AV} {k : AV → Prop} {x : ((.pair (.int .i64) .unit) : Ty).den} {v : (Int × (List Int) × Unit) × Int × Unit} (h1 : pks (.pair (.int .i64) .unit) vs = some x) (h2 : R07_New x.1 = some v) (h3 : k ((unpR (.pair (.pair (.int .i64) (.pair (.sl (.int .i64)) .unit)) (.pair (.int .i64) .unit))) v)) : callK (lf_R07_New vs) k := by
  rw [lq_R07_New]; exact callK_lift h1 h2 h3
def tt_R07_New : List (Nat × Ty) := [(3, .int .i64), (51, .pair (.int .i64) (.pair (.sl (.int .i64)) .unit))]
def et_R07_New : List (Nat × Nat) := []
theorem tt_R07_New_ok : subT tt tt_R07_New = true := by kernel_rfl
theorem et_R07_New_ok : subE et et_R07_New = true := by kernel_rfl
noncomputable def fns_R07_New : List (Nat × (List AV → Option AV)) := []
theorem fns_R07_New_ok : FnsOk Go.Proofs.Try.prog fns_R07_New := FnsOk.nil _
def kp_R07_New : List (Nat × List Nat) := [(0, [0, 2]), (1, [0, 2, 9]), (2, [2, 3]), (3, [2, 3]), (4000000, [2]), (4000001, [2]), (4000002, [2]), (4000003, [2])]
def od_R07_New : List (Nat × Ord) := []
noncomputable def E_R07_New : Env := ⟨0, 0, et_R07_New, tt_R07_New, fns_R07_New, [], od_R07_New, kp_R07_New, none, []⟩
set_option maxRecDepth 100000 in
set_option maxHeartbeats 40000000 in
theorem c_R07_New : PCon Go.Proofs.Try.prog 29 lf_R07_New := by
  rw [lq_R07_New]
  refine lift_conR (E := E_R07_New) (c := bodyOf Try.f29) (nt := 13) (rs := [.cell 2 51, .tmp 3]) (ts := [51, 3]) (EnvC.sub (off := 0) (nt := 0) (ords := od_R07_New) (keep := kp_R07_New) (yl := none) tt_ok et_ok fns_R07_New_ok (PrsOk.nil _) (ItsOk.nil _) tt_R07_New_ok et_R07_New_ok) (PrOk.of mixed_ok) Go.Proofs.Try.func29 rfl (by decide) rfl rfl rfl (pureR_many (e := (.pair (.pair (.int .i64) (.pair (.sl (.int .i64)) .unit)) (.pair (.int .i64) .unit))) rfl) ?_
  intro x r hw hs
  repeat'
    (try (conv => whnf)
     first
       | (with_reducible have hs := letv_out hs)
       | (refine draw_and (by kernel_rfl) ?_)
       | (refine both_mk ?_ ?_)
       | (refine br_bool (fun h => ?_) (fun h => ?_) <;> first | have hs := cT h hs | have hs := cF h hs)
       | refine chk_elimI hs fun hs => ?_
       | (have hs := letv_out hs)
       | exact fin_some hs rfl
       | (intro b hb; first | have hs := nilq_elim hs b hb | have hs := nilqn_elim hs b hb)
       | (have hs := cT rfl hs)
       | (have hs := cF rfl hs)
       | exact (none_ne hs).elim)
theorem cq_R07_New : PCon Go.Proofs.Try.prog 29 (liftF (.pair (.int .i64) .unit) (unpR (.pair (.pair (.int .i64) (.pair (.sl (.int .i64)) .unit)) (.pair (.int .i64) .unit))) (fun x => R07_New x.1)) := lq_R07_New ▸ c_R07_New
noncomputable def lf_R07_Pop : List AV → Option AV := liftF (.pair (.pair (.int .i64) (.pair (.sl (.int .i64)) .unit)) .unit) (unpR (.pair (.pair (.int .i64) (.pair (.sl (.int .i64)) .unit)) (.pair (.int .i64) (.pair (.int .i64) .unit)))) (fun x => R07_Pop x.1)
theorem lq_R07_Pop : lf_R07_Pop = liftF (.pair (.pair (.int .i64) (.pair (.sl (.int .i64)) .unit)) .unit) (unpR (.pair (.pair (.int .i64) (.pair (.sl (.int .i64)) .unit)) (.pair (.int .i64) (.pair (.int .i64) .unit)))) (fun x => R07_Pop x.1) := rfl
attribute [irreducible] lf_R07_Pop
theorem ck_R07_Pop {vs : List AV} {k : AV → Prop} {x : ((.pair (.pair (.int .i64) (.pair (.sl (.int .i64)) .unit)) .unit) : Ty).den} {v : (Int × (List Int) × Unit) × Int × Int × Unit} (h1 : pks (.pair (.pair (.int .i64) (.pair (.sl (.int .i64)) .unit)) .unit) vs = some x) (h2 : R07_Pop x.1 = some v) (h3 : k ((unpR (.pair (.pair (.int .i64) (.pair (.sl (.int .i64)) .unit)) (.pair (.int .i64) (.pair (.int .i64) .unit)))) v)) : callK (lf_R07_Pop vs) k := by
  rw [lq_R07_Pop]; exact callK_lift h1 h2 h3
def tt_R07_Pop : List (Nat × Ty) := [(3, .int .i64), (22, .sl (.int .i64)), (51, .pair (.int .i64) (.pair (.sl (.int .i64)) .unit))]
def et_R07_Pop : List (Nat × Nat) := [(22, 3)]
theorem tt_R07_Pop_ok : subT tt tt_R07_Pop = true := by kernel_rfl
theorem et_R07_Pop_ok : subE et et_R07_Pop = true := by kernel_rfl
noncomputable def fns_R07_Pop : List (Nat × (List AV → Option AV)) := []
theorem fns_R07_Pop_ok : FnsOk Go.Proofs.Try.prog fns_R07_Pop := FnsOk.nil _
def kp_R07_Pop : List (Nat × List Nat) := [(0, [1, 2]), (1, [1, 2, 9]), (2, [2, 3, 4]), (3, [1, 2, 5]), (4, [1, 2, 5]), (5, [2, 3, 4]), (4000000, [1, 2]), (4000001, [1, 2]), (4000002, [2]), (4000003, [1, 2]), (4000004, [1, 2]), (4000005, [2])]
def od_R07_Pop : List (Nat × Ord) := []
noncomputable def E_R07_Pop : Env := ⟨0, 0, et_R07_Pop, tt_R07_Pop, fns_R07_Pop, [], od_R07_Pop, kp_R07_Pop, none, []⟩
set_option maxRecDepth 100000 in
set_option maxHeartbeats 40000000 in
theorem c_R07_Pop : PCon Go.Proofs.Try.prog 31 lf_R07_Pop := by
  rw [lq_R07_Pop]
  refine lift_conR (E := E_R07_Pop) (c := bodyOf Try.f31) (nt := 21) (rs := [.cell 2 51, .tmp 3, .tmp 4]) (ts := [51, 3, 3]) (EnvC.sub (off := 0) (nt := 0) (ords := od_R07_Pop) (keep := kp_R07_Pop) (yl := none) tt_ok et_ok fns_R07_Pop_ok (PrsOk.nil _) (ItsOk.nil _) tt_R07_Pop_ok et_R07_Pop_ok) (PrOk.of mixed_ok) Go.Proofs.Try.func31 rfl (by decide) rfl rfl rfl (pureR_many (e := (.pair (.pair (.int .i64) (.pair (.sl (.int .i64)) .unit)) (.pair (.int .i64) (.pair (.int .i64) .unit)))) rfl) ?_
  intro x r hw hs
  repeat'
    (try (conv => whnf)
     first
       | (with_reducible have hs := letv_out hs)
       | (refine draw_and (by kernel_rfl) ?_)
       | (refine both_mk ?_ ?_)
       | (refine br_bool (fun h => ?_) (fun h => ?_) <;> first | have hs := cT h hs | have hs := cF h hs)
       | refine chk_elimI hs fun hs => ?_
       | (have hs := letv_out hs)
       | exact fin_some hs rfl
       | (intro b hb; first | have hs := nilq_elim hs b hb | have hs := nilqn_elim hs b hb)
       | (have hs := cT rfl hs)
       | (have hs := cF rfl hs)
       | exact (none_ne hs).elim)
theorem cq_R07_Pop : PCon Go.Proofs.Try.prog 31 (liftF (.pair (.pair (.int .i64) (.pair (.sl (.int .i64)) .unit)) .unit) (unpR (.pair (.pair (.int .i64) (.pair (.sl (.int .i64)) .unit)) (.pair (.int .i64) (.pair (.int .i64) .unit)))) (fun x => R07_Pop x.1)) := lq_R07_Pop ▸ c_R07_Pop
noncomputable def lf_R07_Push : List AV → Option AV := liftF (.pair (.pair (.int .i64) (.pair (.sl (.int .i64)) .unit)) (.pair (.int .i64) .unit)) (unpR (.pair (.pair (.int .i64) (.pair (.sl (.int .i64)) .unit)) (.pair (.int .i64) .unit))) (fun x => R07_Push x.1 x.2.1)
theorem lq_R07_Push : lf_R07_Push = liftF (.pair (.pair (.int .i64) (.pair (.sl (.int .i64)) .unit)) (.pair (.int .i64) .unit)) (unpR (.pair (.pair (.int .i64) (.pair (.sl (.int .i64)) .unit)) (.pair (.int .i64) .unit))) (fun x => R07_Push x.1 x.2.1) := rfl
attribute [irreducible] lf_R07_Push
theorem ck_R07_Push {vs : List AV} {k : AV → Prop} {x : ((.pair (.pair (.int .i64) (.pair (.sl (.int .i64)) .unit)) (.pair (.int .i64) .unit)) : Ty).den} {v : (Int × (List Int) × Unit) × Int × Unit} (h1 : pks (.pair (.pair (.int .i64) (.pair (.sl (.int .i64)) .unit)) (.pair (.int .i64) .unit)) vs = some x) (h2 : R07_Push x.1 x.2.1 = some v) (h3 : k ((unpR (.pair (.pair (.int .i64) (.pair (.sl (.int .i64)) .unit)) (.pair (.int .i64) .unit))) v)) : callK (lf_R07_Push vs) k := by
  rw [lq_R07_Push]; exact callK_lift h1 h2 h3
def tt_R07_Push : List (Nat × Ty) := [(3, .int .i64), (22, .sl (.int .i64)), (51, .pair (.int .i64) (.pair (.sl (.int .i64)) .unit))]
def et_R07_Push : List (Nat × Nat) := [(22, 3)]
theorem tt_R07_Push_ok : subT tt tt_R07_Push = true := by kernel_rfl
theorem et_R07_Push_ok : subE et et_R07_Push = true := by kernel_rfl
noncomputable def fns_R07_Push : List (Nat × (List AV → Option AV)) := []
theorem fns_R07_Push_ok : FnsOk Go.Proofs.Try.prog fns_R07_Push := FnsOk.nil _
def kp_R07_Push : List (Nat × List Nat) := [(0, [1, 2, 4]), (1, [1, 2, 4, 11]), (2, [4, 5]), (3, [2, 4]), (4, [4, 5]), (4000000, [2, 4]), (4000001, [2, 4]), (4000002, [4]), (4000003, [2, 4, 15]), (4000004, [4, 15])]
def od_R07_Push : List (Nat × Ord) := []
noncomputable def E_R07_Push : Env := ⟨0, 0, et_R07_Push, tt_R07_Push, fns_R07_Push, [], od_R07_Push, kp_R07_Push, none, []⟩
set_option maxRecDepth 100000 in
set_option maxHeartbeats 40000000 in
theorem c_R07_Push : PCon Go.Proofs.Try.prog 32 lf_R07_Push := by
  rw [lq_R07_Push]
  refine lift_conR (E := E_R07_Push) (c := bodyOf Try.f32) (nt := 21) (rs := [.cell 4 51, .tmp 5]) (ts := [51, 3]) (EnvC.sub (off := 0) (nt := 0) (ords := od_R07_Push) (keep := kp_R07_Push) (yl := none) tt_ok et_ok fns_R07_Push_ok (PrsOk.nil _) (ItsOk.nil _) tt_R07_Push_ok et_R07_Push_ok) (PrOk.of mixed_ok) Go.Proofs.Try.func32 rfl (by decide) rfl rfl rfl (pureR_many (e := (.pair (.pair (.int .i64) (.pair (.sl (.int .i64)) .unit)) (.pair (.int .i64) .unit))) rfl) ?_
  intro x r hw hs
  repeat'
    (try (conv => whnf)
     first
       | (with_reducible have hs := letv_out hs)
       | (refine draw_and (by kernel_rfl) ?_)
       | (refine both_mk ?_ ?_)
       | (refine br_bool (fun h => ?_) (fun h => ?_) <;> first | have hs := cT h hs | have hs := cF h hs)
       | refine chk_elimI hs fun hs => ?_
       | (have hs := letv_out hs)
       | exact fin_some hs rfl
       | (intro b hb; first | have hs := nilq_elim hs b hb | have hs := nilqn_elim hs b hb)
       | (have hs := cT rfl hs)
       | (have hs := cF rfl hs)
       | exact (none_ne hs).elim)
theorem cq_R07_Push : PCon Go.Proofs.Try.prog 32 (liftF (.pair (.pair (.int .i64) (.pair (.sl (.int .i64)) .unit)) (.pair (.int .i64) .unit)) (unpR (.pair (.pair (.int .i64) (.pair (.sl (.int .i64)) .unit)) (.pair (.int .i64) .unit))) (fun x => R07_Push x.1 x.2.1)) := lq_R07_Push ▸ c_R07_Push
noncomputable def lf_R07_At : List AV → Option AV := liftF (.pair (.pair (.int .i64) (.pair (.sl (.int .i64)) .unit)) (.pair (.int .i64) .unit)) (unpR (.pair (.int .i64) (.pair (.int .i64) .unit))) (fun x => R07_At x.1 x.2.1)
theorem lq_R07_At : lf_R07_At = liftF (.pair (.pair (.int .i64) (.pair (.sl (.int .i64)) .unit)) (.pair (.int .i64) .unit)) (unpR (.pair (.int .i64) (.pair (.int .i64) .unit))) (fun x => R07_At x.1 x.2.1) := rfl
attribute [irreducible] lf_R07_At
theorem ck_R07_At {vs : List AV} {k : AV → Prop} {x : ((.pair (.pair (.int .i64) (.pair (.sl (.int .i64)) .unit)) (.pair (.int .i64) .unit)) : Ty).den} {v : Int × Int × Unit} (h1 : pks (.pair (.pair (.int .i64) (.pair (.sl (.int .i64)) .unit)) (.pair (.int .i64) .unit)) vs = some x) (h2 : R07_At x.1 x.2.1 = some v) (h3 : k ((unpR (.pair (.int .i64) (.pair (.int .i64) .unit))) v)) : callK (lf_R07_At vs) k := by
  rw [lq_R07_At]; exact callK_lift h1 h2 h3
def tt_R07_At : List (Nat × Ty) := [(3, .int .i64), (22, .sl (.int .i64)), (51, .pair (.int .i64) (.pair (.sl (.int .i64)) .unit))]
def et_R07_At : List (Nat × Nat) := [(22, 3)]
theorem tt_R07_At_ok : subT tt tt_R07_At = true := by kernel_rfl
theorem et_R07_At_ok : subE et et_R07_At = true := by kernel_rfl
noncomputable def fns_R07_At : List (Nat × (List AV → Option AV)) := []
theorem fns_R07_At_ok : FnsOk Go.Proofs.Try.prog fns_R07_At := FnsOk.nil _
def kp_R07_At : List (Nat × List Nat) := [(0, [1, 2]), (1, [1, 2, 14]), (2, [4, 5]), (3, [4, 5]), (4000000, [2]), (4000001, [2]), (4000002, []), (4000003, [])]
def od_R07_At : List (Nat × Ord) := []
noncomputable def E_R07_At : Env := ⟨0, 0, et_R07_At, tt_R07_At, fns_R07_At, [], od_R07_At, kp_R07_At, none, []⟩
set_option maxRecDepth 100000 in
set_option maxHeartbeats 40000000 in
theorem c_R07_At : PCon Go.Proofs.Try.prog 34 lf_R07_At := by
  rw [lq_R07_At]
  refine lift_conR (E := E_R07_At) (c := bodyOf Try.f34) (nt := 20) (rs := [.tmp 4, .tmp 5]) (ts := [3, 3]) (EnvC.sub (off := 0) (nt := 0) (ords := od_R07_At) (keep := kp_R07_At) (yl := none) tt_ok et_ok fns_R07_At_ok (PrsOk.nil _) (ItsOk.nil _) tt_R07_At_ok et_R07_At_ok) (PrOk.of mixed_ok) Go.Proofs.Try.func34 rfl (by decide) rfl rfl rfl (pureR_many (e := (.pair (.int .i64) (.pair (.int .i64) .unit))) rfl) ?_
  intro x r hw hs
  repeat'
    (try (conv => whnf)
     first
       | (with_reducible have hs := letv_out hs)
       | (refine draw_and (by kernel_rfl) ?_)
       | (refine both_mk ?_ ?_)
       | (refine br_bool (fun h => ?_) (fun h => ?_) <;> first | have hs := cT h hs | have hs := cF h hs)
       | refine chk_elimI hs fun hs => ?_
       | (have hs := letv_out hs)
       | exact fin_some hs rfl
       | (intro b hb; first | have hs := nilq_elim hs b hb | have hs := nilqn_elim hs b hb)
       | (have hs := cT rfl hs)
       | (have hs := cF rfl hs)
       | exact (none_ne hs).elim)
theorem cq_R07_At : PCon Go.Proofs.Try.prog 34 (liftF (.pair (.pair (.int .i64) (.pair (.sl (.int .i64)) .unit)) (.pair (.int .i64) .unit)) (unpR (.pair (.int .i64) (.pair (.int .i64) .unit))) (fun x => R07_At x.1 x.2.1)) := lq_R07_At ▸ c_R07_At
end Go.Proofs.YtoihmfgkmndjfaaV
