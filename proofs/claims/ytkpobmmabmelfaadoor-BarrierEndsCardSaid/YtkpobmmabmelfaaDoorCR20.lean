import Derived.Test.YtkpobmmabmelfaaDoorVcTab
import Derived.Test.YtkpobmmabmelfaaDoorDR20
namespace Go.Proofs.YtkpobmmabmelfaaDoorV
open Go.Proofs
set_option linter.unusedVariables false
noncomputable def lf_R20_Fine : List AV → Option AV := liftF (.pair (.int .i64) (.pair (.int .i64) .unit)) (unpack .bool) (fun x => R20_Fine x.1 x.2.1)
theorem lq_R20_Fine : lf_R20_Fine = liftF (.pair (.int .i64) (.pair (.int .i64) .unit)) (unpack .bool) (fun x => R20_Fine x.1 x.2.1) := rfl
attribute [irreducible] lf_R20_Fine
theorem ck_R20_Fine {vs : List AV} {k : AV → Prop} {x : ((.pair (.int .i64) (.pair (.int .i64) .unit)) : Ty).den} {v : Bool} (h1 : pks (.pair (.int .i64) (.pair (.int .i64) .unit)) vs = some x) (h2 : R20_Fine x.1 x.2.1 = some v) (h3 : k ((unpack .bool) v)) : callK (lf_R20_Fine vs) k := by
  rw [lq_R20_Fine]; exact callK_lift h1 h2 h3
def tt_R20_Fine : List (Nat × Ty) := [(3, .int .i64), (4, .bool)]
def et_R20_Fine : List (Nat × Nat) := []
theorem tt_R20_Fine_ok : subT tt tt_R20_Fine = true := by kernel_rfl
theorem et_R20_Fine_ok : subE et et_R20_Fine = true := by kernel_rfl
noncomputable def fns_R20_Fine : List (Nat × (List AV → Option AV)) := []
theorem fns_R20_Fine_ok : FnsOk Go.Proofs.Tryd.prog fns_R20_Fine := FnsOk.nil _
def kp_R20_Fine : List (Nat × List Nat) := [(0, [0, 1]), (1, [4]), (4000000, []), (4000001, [])]
def od_R20_Fine : List (Nat × Ord) := []
noncomputable def E_R20_Fine : Env := ⟨0, 0, et_R20_Fine, tt_R20_Fine, fns_R20_Fine, [], od_R20_Fine, kp_R20_Fine, none, []⟩
set_option maxRecDepth 100000 in
set_option maxHeartbeats 40000000 in
theorem c_R20_Fine : PCon Go.Proofs.Tryd.prog 80 lf_R20_Fine := by
  rw [lq_R20_Fine]
  refine lift_conR (E := E_R20_Fine) (c := bodyOf Tryd.f80) (nt := 20) (rs := [.tmp 4]) (ts := [4]) (EnvC.sub (off := 0) (nt := 0) (ords := od_R20_Fine) (keep := kp_R20_Fine) (yl := none) tt_ok et_ok fns_R20_Fine_ok (PrsOk.nil _) (ItsOk.nil _) tt_R20_Fine_ok et_R20_Fine_ok) (PrOk.of mixed_ok) Go.Proofs.Tryd.func80 rfl (by decide) rfl rfl rfl (pureR_one (e := .bool) rfl) ?_
  intro x r hw hs
  repeat'
    (try (conv => whnf)
     first
       | (with_reducible have hs := letv_out hs)
       | (refine draw_and (by kernel_rfl) ?_)
       | (refine both_mk ?_ ?_)
       | (refine br_bool (fun h => ?_) (fun h => ?_) <;> first | have hs := cT h hs | have hs := cF h hs)
       | refine chk_elim hs fun hs => ?_
       | (have hs := letv_out hs)
       | exact fin_some hs rfl
       | (intro b hb; first | have hs := nilq_elim hs b hb | have hs := nilqn_elim hs b hb)
       | (have hs := cT rfl hs)
       | (have hs := cF rfl hs)
       | exact (none_ne hs).elim)
theorem cq_R20_Fine : PCon Go.Proofs.Tryd.prog 80 (liftF (.pair (.int .i64) (.pair (.int .i64) .unit)) (unpack .bool) (fun x => R20_Fine x.1 x.2.1)) := lq_R20_Fine ▸ c_R20_Fine
end Go.Proofs.YtkpobmmabmelfaaDoorV
