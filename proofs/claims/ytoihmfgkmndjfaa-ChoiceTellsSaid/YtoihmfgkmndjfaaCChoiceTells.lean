/- What becket/becketlaw33.ChoiceTells answers. -/
import Derived.Test.YtoihmfgkmndjfaaVcTab
import Derived.Test.YtoihmfgkmndjfaaDChoiceTells
import Derived.Test.YtoihmfgkmndjfaaCL33
import Derived.Test.YtoihmfgkmndjfaaCR33
import Derived.Test.YtoihmfgkmndjfaaCchoice
namespace Go.Proofs.YtoihmfgkmndjfaaV
open Go.Proofs
set_option linter.unusedVariables false
noncomputable def lf_L33_ChoiceTells : List AV → Option AV := liftF (.pair (.sl (.pair (.int .i64) (.pair (.int .i64) (.pair (.int .i64) .unit)))) (.pair (.pair (.int .i64) (.pair (.int .i64) (.pair (.int .i64) .unit))) .unit)) (unpack .bool) (fun x => L33_ChoiceTells x.1 x.2.1)
theorem lq_L33_ChoiceTells : lf_L33_ChoiceTells = liftF (.pair (.sl (.pair (.int .i64) (.pair (.int .i64) (.pair (.int .i64) .unit)))) (.pair (.pair (.int .i64) (.pair (.int .i64) (.pair (.int .i64) .unit))) .unit)) (unpack .bool) (fun x => L33_ChoiceTells x.1 x.2.1) := rfl
attribute [irreducible] lf_L33_ChoiceTells
theorem ck_L33_ChoiceTells {vs : List AV} {k : AV → Prop} {x : ((.pair (.sl (.pair (.int .i64) (.pair (.int .i64) (.pair (.int .i64) .unit)))) (.pair (.pair (.int .i64) (.pair (.int .i64) (.pair (.int .i64) .unit))) .unit)) : Ty).den} {v : Bool} (h1 : pks (.pair (.sl (.pair (.int .i64) (.pair (.int .i64) (.pair (.int .i64) .unit)))) (.pair (.pair (.int .i64) (.pair (.int .i64) (.pair (.int .i64) .unit))) .unit)) vs = some x) (h2 : L33_ChoiceTells x.1 x.2.1 = some v) (h3 : k ((unpack .bool) v)) : callK (lf_L33_ChoiceTells vs) k := by
  rw [lq_L33_ChoiceTells]; exact callK_lift h1 h2 h3
def tt_L33_ChoiceTells : List (Nat × Ty) := [(3, .int .i64), (4, .bool), (9, .str), (102, .sl (.pair (.int .i64) (.pair (.int .i64) (.pair (.int .i64) .unit)))), (104, .pair (.int .i64) (.pair (.int .i64) (.pair (.int .i64) .unit))), (106, .sl (.pair (.int .i64) (.pair (.int .i64) (.pair (.int .i64) .unit)))), (112, .pair (.int .i64) (.pair (.int .i64) (.pair (.int .i64) .unit)))]
def et_L33_ChoiceTells : List (Nat × Nat) := [(102, 104), (106, 112)]
theorem tt_L33_ChoiceTells_ok : subT tt tt_L33_ChoiceTells = true := by kernel_rfl
theorem et_L33_ChoiceTells_ok : subE et et_L33_ChoiceTells = true := by kernel_rfl
noncomputable def fns_L33_ChoiceTells : List (Nat × (List AV → Option AV)) := [(56, lf_L33_alive), (57, lf_choice_All), (58, lf_L33_To), (59, lf_R33_All), (60, lf_choice_Bytes), (61, lf_R33_Bytes), (62, lf_choice_Check), (63, lf_R33_Check)]
theorem fns_L33_ChoiceTells_ok : FnsOk Go.Proofs.Try.prog fns_L33_ChoiceTells := FnsOk.cons c_L33_alive (FnsOk.cons c_choice_All (FnsOk.cons c_L33_To (FnsOk.cons c_R33_All (FnsOk.cons c_choice_Bytes (FnsOk.cons c_R33_Bytes (FnsOk.cons c_choice_Check (FnsOk.cons c_R33_Check (FnsOk.nil _))))))))
def kp_L33_ChoiceTells : List (Nat × List Nat) := [(0, [0, 3]), (1, [0, 3, 16]), (2, [4]), (3, [0, 3, 5, 6]), (4, [0, 3, 5, 6, 7, 8]), (5, [4]), (4000000, [3]), (4000001, [3]), (4000002, []), (4000003, [3]), (4000004, [3]), (4000005, [])]
def od_L33_ChoiceTells : List (Nat × Ord) := [(5, (.one 0 (.one 1 (.one 2 (.one 3 (.one 4 (.one 5 (.one 6 (.one 7 (.one 8 (.one 9 (.one 12 (.one 10 (.one 11 (.one 100013 (.one 14 (.one 15 (.one 16 (.one 17 (.one 19 (.one 18 (.one 100020 (.one 21 (.one 22 (.one 23 (.one 100024 (.one 25 (.one 26 .nil))))))))))))))))))))))))))))]
noncomputable def E_L33_ChoiceTells : Env := ⟨0, 0, et_L33_ChoiceTells, tt_L33_ChoiceTells, fns_L33_ChoiceTells, [], od_L33_ChoiceTells, kp_L33_ChoiceTells, none, []⟩
set_option maxRecDepth 100000 in
set_option maxHeartbeats 40000000 in
theorem c_L33_ChoiceTells : PCon Go.Proofs.Try.prog 12 lf_L33_ChoiceTells := by
  rw [lq_L33_ChoiceTells]
  refine lift_conR (E := E_L33_ChoiceTells) (c := bodyOf Try.f12) (nt := 55) (rs := [.tmp 4]) (ts := [4]) (EnvC.sub (off := 0) (nt := 0) (ords := od_L33_ChoiceTells) (keep := kp_L33_ChoiceTells) (yl := none) tt_ok et_ok fns_L33_ChoiceTells_ok (PrsOk.nil _) (ItsOk.nil _) tt_L33_ChoiceTells_ok et_L33_ChoiceTells_ok) (PrOk.of mixed_ok) Go.Proofs.Try.func12 rfl (by decide) rfl rfl rfl (pureR_one (e := .bool) rfl) ?_
  intro x r hw hs
  repeat'
    (try (conv => whnf)
     first
       | (with_reducible have hs := letv_out hs)
       | (refine draw_and (by kernel_rfl) ?_)
       | (refine both_mk ?_ ?_)
       | (refine br_bool (fun h => ?_) (fun h => ?_) <;> first | have hs := cT h hs | have hs := cF h hs)
       | (refine bind_elim hs fun v hb hs => ?_; first | ((with_reducible show callK (lf_L33_alive _) _); refine ck_L33_alive rfl hb ?_) | ((with_reducible show callK (lf_choice_All _) _); refine ck_choice_All rfl hb ?_) | ((with_reducible show callK (lf_L33_To _) _); refine ck_L33_To rfl hb ?_) | ((with_reducible show callK (lf_R33_All _) _); refine ck_R33_All rfl hb ?_) | ((with_reducible show callK (lf_choice_Bytes _) _); refine ck_choice_Bytes rfl hb ?_) | ((with_reducible show callK (lf_R33_Bytes _) _); refine ck_R33_Bytes rfl hb ?_) | ((with_reducible show callK (lf_choice_Check _) _); refine ck_choice_Check rfl hb ?_) | ((with_reducible show callK (lf_R33_Check _) _); refine ck_R33_Check rfl hb ?_))
       | refine chk_elim hs fun hs => ?_
       | (have hs := letv_out hs)
       | exact fin_some hs rfl
       | (intro b hb; first | have hs := nilq_elim hs b hb | have hs := nilqn_elim hs b hb)
       | (have hs := cT rfl hs)
       | (have hs := cF rfl hs)
       | exact (none_ne hs).elim)
theorem cq_L33_ChoiceTells : PCon Go.Proofs.Try.prog 12 (liftF (.pair (.sl (.pair (.int .i64) (.pair (.int .i64) (.pair (.int .i64) .unit)))) (.pair (.pair (.int .i64) (.pair (.int .i64) (.pair (.int .i64) .unit))) .unit)) (unpack .bool) (fun x => L33_ChoiceTells x.1 x.2.1)) := lq_L33_ChoiceTells ▸ c_L33_ChoiceTells
end Go.Proofs.YtoihmfgkmndjfaaV
