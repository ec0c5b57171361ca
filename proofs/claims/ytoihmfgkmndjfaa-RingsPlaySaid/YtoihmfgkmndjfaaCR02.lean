import Derived.Test.YtoihmfgkmndjfaaVcTab
import Derived.Test.YtoihmfgkmndjfaaDR02
namespace Go.Proofs.YtoihmfgkmndjfaaV
open Go.Proofs
set_option linter.unusedVariables false
noncomputable def lf_R02_Same : List AV → Option AV := liftF (.pair (.sl (.int .i64)) (.pair (.sl (.int .i64)) .unit)) (unpack .bool) (fun x => R02_Same x.1 x.2.1)
theorem lq_R02_Same : lf_R02_Same = liftF (.pair (.sl (.int .i64)) (.pair (.sl (.int .i64)) .unit)) (unpack .bool) (fun x => R02_Same x.1 x.2.1) := rfl
attribute [irreducible] lf_R02_Same
theorem ck_R02_Same {vs : List AV} {k : AV → Prop} {x : ((.pair (.sl (.int .i64)) (.pair (.sl (.int .i64)) .unit)) : Ty).den} {v : Bool} (h1 : pks (.pair (.sl (.int .i64)) (.pair (.sl (.int .i64)) .unit)) vs = some x) (h2 : R02_Same x.1 x.2.1 = some v) (h3 : k ((unpack .bool) v)) : callK (lf_R02_Same vs) k := by
  rw [lq_R02_Same]; exact callK_lift h1 h2 h3
def tt_R02_Same : List (Nat × Ty) := [(3, .int .i64), (4, .bool), (22, .sl (.int .i64))]
def et_R02_Same : List (Nat × Nat) := [(22, 3)]
theorem tt_R02_Same_ok : subT tt tt_R02_Same = true := by kernel_rfl
theorem et_R02_Same_ok : subE et et_R02_Same = true := by kernel_rfl
noncomputable def fns_R02_Same : List (Nat × (List AV → Option AV)) := []
theorem fns_R02_Same_ok : FnsOk Go.Proofs.Try.prog fns_R02_Same := FnsOk.nil _
def R02_Same_S1 (u0 : AV) (u1 : AV) (x1 : Int) : St :=
  ⟨[(0, u0), (1, u1), (5, .int .i64 x1)], [], none⟩
def R02_Same_M1 : Msk := ⟨[0, 1, 5], [], [], [], [], [], [], [], [], [], []⟩
def kp_R02_Same : List (Nat × List Nat) := [(0, [0, 1]), (1, [0, 1, 10]), (2, [4]), (3, [0, 1, 5]), (4, [0, 1, 5, 14]), (5, [0, 1, 5]), (6, [0, 1, 5, 25]), (7, [4]), (8, [4]), (4000000, []), (4000001, []), (4000002, []), (4000003, []), (4000004, []), (4000005, []), (4000006, []), (4000007, []), (4000008, [])]
def od_R02_Same : List (Nat × Ord) := [(6, (.one 0 (.one 1 (.one 2 (.one 3 (.one 4 (.one 5 (.one 6 (.one 7 (.one 8 .nil))))))))))]
noncomputable def E_R02_Same : Env := ⟨0, 0, et_R02_Same, tt_R02_Same, fns_R02_Same, [], od_R02_Same, kp_R02_Same, none, []⟩
set_option maxRecDepth 100000 in
set_option maxHeartbeats 40000000 in
theorem c_R02_Same : PCon Go.Proofs.Try.prog 35 lf_R02_Same := by
  rw [lq_R02_Same]
  refine lift_conR (E := E_R02_Same) (c := bodyOf Try.f35) (nt := 26) (rs := [.tmp 4]) (ts := [4]) (EnvC.sub (off := 0) (nt := 0) (ords := od_R02_Same) (keep := kp_R02_Same) (yl := none) tt_ok et_ok fns_R02_Same_ok (PrsOk.nil _) (ItsOk.nil _) tt_R02_Same_ok et_R02_Same_ok) (PrOk.of mixed_ok) Go.Proofs.Try.func35 rfl (by decide) rfl rfl rfl (pureR_one (e := .bool) rfl) ?_
  intro x r hw hs
  repeat'
    (try (conv => whnf)
     first
       | (with_reducible have hs := letv_out hs)
       | (refine draw_and (by kernel_rfl) ?_)
       | (refine both_mk ?_ ?_)
       | (refine br_bool (fun h => ?_) (fun h => ?_) <;> first | have hs := cT h hs | have hs := cF h hs)
       | refine chk_elimI hs fun hs => ?_
       | (have hs := letv_out hs)
       | exact fin_some hs rfl
       | (intro b hb; first | have hs := nilq_elim hs b hb | have hs := nilqn_elim hs b hb)
       | exact hJ1 _ hs
       | (have hs := cT rfl hs)
       | (have hs := cF rfl hs)
       | ((with_reducible have hs : loop (R02_Same_L1 _ _) _ = some _ := hs); refine vc_loopR (R02_Same_S1 _ _) R02_Same_M1 hs rfl ?_; intro J1 k1 x1 hJ1 hs)
       | (refine vc_loopR (R02_Same_S1 _ _) R02_Same_M1 hs rfl ?_; intro J1 k1 x1 hJ1 hs)
       | exact (none_ne hs).elim)
theorem cq_R02_Same : PCon Go.Proofs.Try.prog 35 (liftF (.pair (.sl (.int .i64)) (.pair (.sl (.int .i64)) .unit)) (unpack .bool) (fun x => R02_Same x.1 x.2.1)) := lq_R02_Same ▸ c_R02_Same
end Go.Proofs.YtoihmfgkmndjfaaV
