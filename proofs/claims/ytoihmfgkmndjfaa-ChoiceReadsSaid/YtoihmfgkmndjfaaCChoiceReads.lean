/- What becket/becketlaw33.ChoiceReads answers. -/
import Derived.Test.YtoihmfgkmndjfaaVcTab
import Derived.Test.YtoihmfgkmndjfaaDChoiceReads
import Derived.Test.YtoihmfgkmndjfaaCL33
import Derived.Test.YtoihmfgkmndjfaaCR33
import Derived.Test.YtoihmfgkmndjfaaCchoice
namespace Go.Proofs.YtoihmfgkmndjfaaV
open Go.Proofs
set_option linter.unusedVariables false
noncomputable def lf_L33_ChoiceReads : List AV → Option AV := liftF (.pair .str (.pair (.int .i64) .unit)) (unpack .bool) (fun x => L33_ChoiceReads x.1 x.2.1)
theorem lq_L33_ChoiceReads : lf_L33_ChoiceReads = liftF (.pair .str (.pair (.int .i64) .unit)) (unpack .bool) (fun x => L33_ChoiceReads x.1 x.2.1) := rfl
attribute [irreducible] lf_L33_ChoiceReads
theorem ck_L33_ChoiceReads {vs : List AV} {k : AV → Prop} {x : ((.pair .str (.pair (.int .i64) .unit)) : Ty).den} {v : Bool} (h1 : pks (.pair .str (.pair (.int .i64) .unit)) vs = some x) (h2 : L33_ChoiceReads x.1 x.2.1 = some v) (h3 : k ((unpack .bool) v)) : callK (lf_L33_ChoiceReads vs) k := by
  rw [lq_L33_ChoiceReads]; exact callK_lift h1 h2 h3
def tt_L33_ChoiceReads : List (Nat × Ty) := [(3, .int .i64), (4, .bool), (9, .str), (102, .sl (.pair (.int .i64) (.pair (.int .i64) (.pair (.int .i64) .unit)))), (106, .sl (.pair (.int .i64) (.pair (.int .i64) (.pair (.int .i64) .unit))))]
def et_L33_ChoiceReads : List (Nat × Nat) := [(102, 104), (106, 112)]
theorem tt_L33_ChoiceReads_ok : subT tt tt_L33_ChoiceReads = true := by kernel_rfl
theorem et_L33_ChoiceReads_ok : subE et et_L33_ChoiceReads = true := by kernel_rfl
noncomputable def fns_L33_ChoiceReads : List (Nat × (List AV → Option AV)) := [(56, lf_L33_alive), (64, lf_choice_Read), (65, lf_R33_Read), (66, lf_R33_Same), (67, lf_L33_Back)]
theorem fns_L33_ChoiceReads_ok : FnsOk Go.Proofs.Try.prog fns_L33_ChoiceReads := FnsOk.cons c_L33_alive (FnsOk.cons c_choice_Read (FnsOk.cons c_R33_Read (FnsOk.cons c_R33_Same (FnsOk.cons c_L33_Back (FnsOk.nil _)))))
def kp_L33_ChoiceReads : List (Nat × List Nat) := [(0, [0, 1]), (1, [0, 1, 13]), (2, [4]), (3, [0, 1, 5, 6, 7]), (4, [5, 6, 7, 8, 9, 10]), (5, [4]), (4000000, []), (4000001, []), (4000002, []), (4000003, []), (4000004, []), (4000005, [])]
def od_L33_ChoiceReads : List (Nat × Ord) := []
noncomputable def E_L33_ChoiceReads : Env := ⟨0, 0, et_L33_ChoiceReads, tt_L33_ChoiceReads, fns_L33_ChoiceReads, [], od_L33_ChoiceReads, kp_L33_ChoiceReads, none, []⟩
set_option maxRecDepth 100000 in
set_option maxHeartbeats 40000000 in
theorem c_L33_ChoiceReads : PCon Go.Proofs.Try.prog 13 lf_L33_ChoiceReads := by
  rw [lq_L33_ChoiceReads]
  refine lift_conR (E := E_L33_ChoiceReads) (c := bodyOf Try.f13) (nt := 46) (rs := [.tmp 4]) (ts := [4]) (EnvC.sub (off := 0) (nt := 0) (ords := od_L33_ChoiceReads) (keep := kp_L33_ChoiceReads) (yl := none) tt_ok et_ok fns_L33_ChoiceReads_ok (PrsOk.nil _) (ItsOk.nil _) tt_L33_ChoiceReads_ok et_L33_ChoiceReads_ok) (PrOk.of mixed_ok) Go.Proofs.Try.func13 rfl (by decide) rfl rfl rfl (pureR_one (e := .bool) rfl) ?_
  intro x r hw hs
  repeat'
    (try (conv => whnf)
     first
       | (with_reducible have hs := letv_out hs)
       | (refine draw_and (by kernel_rfl) ?_)
       | (refine both_mk ?_ ?_)
       | (refine br_bool (fun h => ?_) (fun h => ?_) <;> first | have hs := cT h hs | have hs := cF h hs)
       | (refine bind_elim hs fun v hb hs => ?_; first | ((with_reducible show callK (lf_L33_alive _) _); refine ck_L33_alive rfl hb ?_) | ((with_reducible show callK (lf_choice_Read _) _); refine ck_choice_Read rfl hb ?_) | ((with_reducible show callK (lf_R33_Read _) _); refine ck_R33_Read rfl hb ?_) | ((with_reducible show callK (lf_R33_Same _) _); refine ck_R33_Same rfl hb ?_) | ((with_reducible show callK (lf_L33_Back _) _); refine ck_L33_Back rfl hb ?_))
       | refine chk_elim hs fun hs => ?_
       | (have hs := letv_out hs)
       | exact fin_some hs rfl
       | (intro b hb; first | have hs := nilq_elim hs b hb | have hs := nilqn_elim hs b hb)
       | (have hs := cT rfl hs)
       | (have hs := cF rfl hs)
       | exact (none_ne hs).elim)
theorem cq_L33_ChoiceReads : PCon Go.Proofs.Try.prog 13 (liftF (.pair .str (.pair (.int .i64) .unit)) (unpack .bool) (fun x => L33_ChoiceReads x.1 x.2.1)) := lq_L33_ChoiceReads ▸ c_L33_ChoiceReads
end Go.Proofs.YtoihmfgkmndjfaaV
