/- What becket/becketlaw33.ChoiceBack answers. -/
import Derived.Test.YtoihmfgkmndjfaaVcTab
import Derived.Test.YtoihmfgkmndjfaaDChoiceBack
import Derived.Test.YtoihmfgkmndjfaaCL33
import Derived.Test.YtoihmfgkmndjfaaCR33
import Derived.Test.YtoihmfgkmndjfaaCchoice
namespace Go.Proofs.YtoihmfgkmndjfaaV
open Go.Proofs
set_option linter.unusedVariables false
noncomputable def lf_L33_ChoiceBack : List AV → Option AV := liftF (.pair (.sl (.pair (.int .i64) (.pair (.int .i64) (.pair (.int .i64) .unit)))) (.pair .str (.pair .str .unit))) (unpack .bool) (fun x => L33_ChoiceBack x.1 x.2.1 x.2.2.1)
theorem lq_L33_ChoiceBack : lf_L33_ChoiceBack = liftF (.pair (.sl (.pair (.int .i64) (.pair (.int .i64) (.pair (.int .i64) .unit)))) (.pair .str (.pair .str .unit))) (unpack .bool) (fun x => L33_ChoiceBack x.1 x.2.1 x.2.2.1) := rfl
attribute [irreducible] lf_L33_ChoiceBack
theorem ck_L33_ChoiceBack {vs : List AV} {k : AV → Prop} {x : ((.pair (.sl (.pair (.int .i64) (.pair (.int .i64) (.pair (.int .i64) .unit)))) (.pair .str (.pair .str .unit))) : Ty).den} {v : Bool} (h1 : pks (.pair (.sl (.pair (.int .i64) (.pair (.int .i64) (.pair (.int .i64) .unit)))) (.pair .str (.pair .str .unit))) vs = some x) (h2 : L33_ChoiceBack x.1 x.2.1 x.2.2.1 = some v) (h3 : k ((unpack .bool) v)) : callK (lf_L33_ChoiceBack vs) k := by
  rw [lq_L33_ChoiceBack]; exact callK_lift h1 h2 h3
def tt_L33_ChoiceBack : List (Nat × Ty) := [(3, .int .i64), (4, .bool), (9, .str), (27, .int .i64), (102, .sl (.pair (.int .i64) (.pair (.int .i64) (.pair (.int .i64) .unit)))), (106, .sl (.pair (.int .i64) (.pair (.int .i64) (.pair (.int .i64) .unit))))]
def et_L33_ChoiceBack : List (Nat × Nat) := [(102, 104), (106, 112)]
theorem tt_L33_ChoiceBack_ok : subT tt tt_L33_ChoiceBack = true := by kernel_rfl
theorem et_L33_ChoiceBack_ok : subE et et_L33_ChoiceBack = true := by kernel_rfl
noncomputable def fns_L33_ChoiceBack : List (Nat × (List AV → Option AV)) := [(56, lf_L33_alive), (57, lf_choice_All), (58, lf_L33_To), (60, lf_choice_Bytes), (64, lf_choice_Read), (66, lf_R33_Same), (67, lf_L33_Back)]
theorem fns_L33_ChoiceBack_ok : FnsOk Go.Proofs.Try.prog fns_L33_ChoiceBack := FnsOk.cons c_L33_alive (FnsOk.cons c_choice_All (FnsOk.cons c_L33_To (FnsOk.cons c_choice_Bytes (FnsOk.cons c_choice_Read (FnsOk.cons c_R33_Same (FnsOk.cons c_L33_Back (FnsOk.nil _)))))))
def kp_L33_ChoiceBack : List (Nat × List Nat) := [(0, [0, 1, 2]), (1, [0, 1, 2, 28]), (2, [6]), (3, [0, 1, 2, 7]), (4, [0, 1, 2, 7, 9]), (5, [0, 1, 2, 7, 38]), (6, [0, 1, 2, 10, 11, 12]), (7, [2, 69]), (8, [6]), (9, [2, 13, 14, 15]), (10, [6]), (4000000, []), (4000001, []), (4000002, []), (4000003, []), (4000004, []), (4000005, []), (4000006, []), (4000007, []), (4000008, []), (4000009, []), (4000010, [])]
def od_L33_ChoiceBack : List (Nat × Ord) := [(10, (.one 0 (.one 1 (.one 2 (.one 3 (.one 5 (.one 6 (.one 7 (.one 4 (.one 8 (.one 9 (.one 10 (.one 100011 (.one 12 (.one 13 .nil)))))))))))))))]
noncomputable def E_L33_ChoiceBack : Env := ⟨0, 0, et_L33_ChoiceBack, tt_L33_ChoiceBack, fns_L33_ChoiceBack, [], od_L33_ChoiceBack, kp_L33_ChoiceBack, none, []⟩
set_option maxRecDepth 100000 in
set_option maxHeartbeats 40000000 in
theorem c_L33_ChoiceBack : PCon Go.Proofs.Try.prog 14 lf_L33_ChoiceBack := by
  rw [lq_L33_ChoiceBack]
  refine lift_conR (E := E_L33_ChoiceBack) (c := bodyOf Try.f14) (nt := 89) (rs := [.tmp 6]) (ts := [4]) (EnvC.sub (off := 0) (nt := 0) (ords := od_L33_ChoiceBack) (keep := kp_L33_ChoiceBack) (yl := none) tt_ok et_ok fns_L33_ChoiceBack_ok (PrsOk.nil _) (ItsOk.nil _) tt_L33_ChoiceBack_ok et_L33_ChoiceBack_ok) (PrOk.of mixed_ok) Go.Proofs.Try.func14 rfl (by decide) rfl rfl rfl (pureR_one (e := .bool) rfl) ?_
  intro x r hw hs
  repeat'
    (try (conv => whnf)
     first
       | (with_reducible have hs := letv_out hs)
       | (refine draw_and (by kernel_rfl) ?_)
       | (refine both_mk ?_ ?_)
       | (refine br_bool (fun h => ?_) (fun h => ?_) <;> first | have hs := cT h hs | have hs := cF h hs)
       | (refine bind_elim hs fun v hb hs => ?_; first | ((with_reducible show callK (lf_L33_alive _) _); refine ck_L33_alive rfl hb ?_) | ((with_reducible show callK (lf_choice_All _) _); refine ck_choice_All rfl hb ?_) | ((with_reducible show callK (lf_L33_To _) _); refine ck_L33_To rfl hb ?_) | ((with_reducible show callK (lf_choice_Bytes _) _); refine ck_choice_Bytes rfl hb ?_) | ((with_reducible show callK (lf_choice_Read _) _); refine ck_choice_Read rfl hb ?_) | ((with_reducible show callK (lf_R33_Same _) _); refine ck_R33_Same rfl hb ?_) | ((with_reducible show callK (lf_L33_Back _) _); refine ck_L33_Back rfl hb ?_))
       | refine chk_elim hs fun hs => ?_
       | (have hs := letv_out hs)
       | exact fin_some hs rfl
       | (intro b hb; first | have hs := nilq_elim hs b hb | have hs := nilqn_elim hs b hb)
       | (have hs := cT rfl hs)
       | (have hs := cF rfl hs)
       | exact (none_ne hs).elim)
theorem cq_L33_ChoiceBack : PCon Go.Proofs.Try.prog 14 (liftF (.pair (.sl (.pair (.int .i64) (.pair (.int .i64) (.pair (.int .i64) .unit)))) (.pair .str (.pair .str .unit))) (unpack .bool) (fun x => L33_ChoiceBack x.1 x.2.1 x.2.2.1)) := lq_L33_ChoiceBack ▸ c_L33_ChoiceBack
end Go.Proofs.YtoihmfgkmndjfaaV
