/- What becket/becketlaw21.RollFires answers. -/
import Derived.Test.YtejedlpnejjnbaaDoorVcTab
import Derived.Test.YtejedlpnejjnbaaDoorDRollFires
import Derived.Test.YtejedlpnejjnbaaDoorCL21
import Derived.Test.YtejedlpnejjnbaaDoorCR02
import Derived.Test.YtejedlpnejjnbaaDoorCR21
import Derived.Test.YtejedlpnejjnbaaDoorCroll
namespace Go.Proofs.YtejedlpnejjnbaaDoorV
open Go.Proofs
set_option linter.unusedVariables false
noncomputable def lf_L21_RollFires : List AV → Option AV := liftF (.pair (.pair (.sl (.int .i64)) (.pair (.sl (.int .i64)) .unit)) .unit) (unpack .bool) (fun x => L21_RollFires x.1)
def tt_L21_RollFires : List (Nat × Ty) := [(3, .int .i64), (4, .bool), (22, .sl (.int .i64)), (49, .pair (.sl (.int .i64)) (.pair (.sl (.int .i64)) .unit)), (52, .pair (.arr 4 (.int .u64)) (.pair (.arr 4 (.int .u64)) .unit))]
def et_L21_RollFires : List (Nat × Nat) := [(22, 3)]
theorem tt_L21_RollFires_ok : subT tt tt_L21_RollFires = true := by kernel_rfl
theorem et_L21_RollFires_ok : subE et et_L21_RollFires = true := by kernel_rfl
def kp_L21_RollFires : List (Nat × List Nat) := [(0, [1]), (1, [1, 20]), (2, [2]), (3, [3]), (4, [3, 4]), (5, [3, 4, 5, 6, 7]), (6, [3, 4, 5, 6, 7, 8, 9, 10]), (7, [2]), (4000000, [1]), (4000001, [1]), (4000002, []), (4000003, [3]), (4000004, [3, 4]), (4000005, [3, 4, 5]), (4000006, [3, 4, 5, 8]), (4000007, [])]
def od_L21_RollFires : List (Nat × Ord) := [(7, (.one 0 (.one 2 (.one 1 (.one 100003 (.one 4 (.one 5 (.one 6 (.one 8 (.one 7 (.one 100009 (.one 10 (.one 11 (.one 12 (.one 13 (.one 100014 (.one 15 (.one 16 (.one 17 (.one 18 (.one 19 (.one 20 (.one 21 (.one 100022 (.one 23 (.one 24 .nil))))))))))))))))))))))))))]
noncomputable def E_L21_RollFires (fns : List (Nat × (List AV → Option AV))) : Env := ⟨0, 0, et_L21_RollFires, tt_L21_RollFires, fns, [], od_L21_RollFires, kp_L21_RollFires, none, []⟩
set_option maxRecDepth 100000 in
set_option maxHeartbeats 40000000 in
theorem c_L21_RollFires : PCon Go.Proofs.Tryd.prog 8 lf_L21_RollFires := by
  obtain ⟨G16, hG16, cG16⟩ : ∃ G : ((.pair (.sl (.int .i64)) (.pair (.sl (.int .i64)) .unit)) : Ty).den → Option Bool, (∀ x, G x = R02_Same x.1 x.2.1) ∧ PCon Go.Proofs.Tryd.prog 16 (liftF (.pair (.sl (.int .i64)) (.pair (.sl (.int .i64)) .unit)) (unpack .bool) G) := ⟨_, fun _ => rfl, c_R02_Same⟩
  obtain ⟨G33, hG33, cG33⟩ : ∃ G : (.unit : Ty).den → Option Bool, (∀ x, G x = L21_alive) ∧ PCon Go.Proofs.Tryd.prog 33 (liftF .unit (unpack .bool) G) := ⟨_, fun _ => rfl, c_L21_alive⟩
  obtain ⟨G34, hG34, cG34⟩ : ∃ G : ((.pair (.pair (.sl (.int .i64)) (.pair (.sl (.int .i64)) .unit)) .unit) : Ty).den → Option ((List Int) × (List Int) × Unit), (∀ x, G x = L21_Plain x.1) ∧ PCon Go.Proofs.Tryd.prog 34 (liftF (.pair (.pair (.sl (.int .i64)) (.pair (.sl (.int .i64)) .unit)) .unit) (unpack (.pair (.sl (.int .i64)) (.pair (.sl (.int .i64)) .unit))) G) := ⟨_, fun _ => rfl, c_L21_Plain⟩
  obtain ⟨G35, hG35, cG35⟩ : ∃ G : ((.pair (.pair (.sl (.int .i64)) (.pair (.sl (.int .i64)) .unit)) .unit) : Ty).den → Option ((List Int) × (List Int) × Unit), (∀ x, G x = L21_To x.1) ∧ PCon Go.Proofs.Tryd.prog 35 (liftF (.pair (.pair (.sl (.int .i64)) (.pair (.sl (.int .i64)) .unit)) .unit) (unpack (.pair (.arr 4 (.int .u64)) (.pair (.arr 4 (.int .u64)) .unit))) G) := ⟨_, fun _ => rfl, c_L21_To⟩
  obtain ⟨G44, hG44, cG44⟩ : ∃ G : ((.pair (.pair (.sl (.int .i64)) (.pair (.sl (.int .i64)) .unit)) (.pair (.pair (.sl (.int .i64)) (.pair (.sl (.int .i64)) .unit)) .unit)) : Ty).den → Option Bool, (∀ x, G x = L21_Same x.1 x.2.1) ∧ PCon Go.Proofs.Tryd.prog 44 (liftF (.pair (.pair (.sl (.int .i64)) (.pair (.sl (.int .i64)) .unit)) (.pair (.pair (.sl (.int .i64)) (.pair (.sl (.int .i64)) .unit)) .unit)) (unpack .bool) G) := ⟨_, fun _ => rfl, c_L21_Same⟩
  obtain ⟨G45, hG45, cG45⟩ : ∃ G : ((.pair (.pair (.arr 4 (.int .u64)) (.pair (.arr 4 (.int .u64)) .unit)) .unit) : Ty).den → Option ((List Int) × (List Int) × Unit), (∀ x, G x = L21_From x.1) ∧ PCon Go.Proofs.Tryd.prog 45 (liftF (.pair (.pair (.arr 4 (.int .u64)) (.pair (.arr 4 (.int .u64)) .unit)) .unit) (unpack (.pair (.sl (.int .i64)) (.pair (.sl (.int .i64)) .unit))) G) := ⟨_, fun _ => rfl, c_L21_From⟩
  obtain ⟨G48, hG48, cG48⟩ : ∃ G : ((.pair (.pair (.arr 4 (.int .u64)) (.pair (.arr 4 (.int .u64)) .unit)) .unit) : Ty).den → Option (((List Int) × (List Int) × Unit) × (List Int) × Int × Unit), (∀ x, G x = roll_Fire x.1) ∧ PCon Go.Proofs.Tryd.prog 48 (liftF (.pair (.pair (.arr 4 (.int .u64)) (.pair (.arr 4 (.int .u64)) .unit)) .unit) (unpR (.pair (.pair (.arr 4 (.int .u64)) (.pair (.arr 4 (.int .u64)) .unit)) (.pair (.sl (.int .i64)) (.pair (.int .i64) .unit)))) G) := ⟨_, fun _ => rfl, c_roll_Fire⟩
  obtain ⟨G49, hG49, cG49⟩ : ∃ G : ((.pair (.pair (.sl (.int .i64)) (.pair (.sl (.int .i64)) .unit)) .unit) : Ty).den → Option (((List Int) × (List Int) × Unit) × (List Int) × Int × Unit), (∀ x, G x = R21_Fire x.1) ∧ PCon Go.Proofs.Tryd.prog 49 (liftF (.pair (.pair (.sl (.int .i64)) (.pair (.sl (.int .i64)) .unit)) .unit) (unpR (.pair (.pair (.sl (.int .i64)) (.pair (.sl (.int .i64)) .unit)) (.pair (.sl (.int .i64)) (.pair (.int .i64) .unit)))) G) := ⟨_, fun _ => rfl, c_R21_Fire⟩
  obtain ⟨G50, hG50, cG50⟩ : ∃ G : ((.pair (.pair (.arr 4 (.int .u64)) (.pair (.arr 4 (.int .u64)) .unit)) .unit) : Ty).den → Option Bool, (∀ x, G x = roll_Full x.1) ∧ PCon Go.Proofs.Tryd.prog 50 (liftF (.pair (.pair (.arr 4 (.int .u64)) (.pair (.arr 4 (.int .u64)) .unit)) .unit) (unpack .bool) G) := ⟨_, fun _ => rfl, c_roll_Full⟩
  obtain ⟨G51, hG51, cG51⟩ : ∃ G : ((.pair (.pair (.sl (.int .i64)) (.pair (.sl (.int .i64)) .unit)) .unit) : Ty).den → Option Bool, (∀ x, G x = R21_Full x.1) ∧ PCon Go.Proofs.Tryd.prog 51 (liftF (.pair (.pair (.sl (.int .i64)) (.pair (.sl (.int .i64)) .unit)) .unit) (unpack .bool) G) := ⟨_, fun _ => rfl, c_R21_Full⟩
  obtain ⟨fns, hfns, hf⟩ : ∃ fns, fns = [(16, liftF (.pair (.sl (.int .i64)) (.pair (.sl (.int .i64)) .unit)) (unpack .bool) G16), (33, liftF .unit (unpack .bool) G33), (34, liftF (.pair (.pair (.sl (.int .i64)) (.pair (.sl (.int .i64)) .unit)) .unit) (unpack (.pair (.sl (.int .i64)) (.pair (.sl (.int .i64)) .unit))) G34), (35, liftF (.pair (.pair (.sl (.int .i64)) (.pair (.sl (.int .i64)) .unit)) .unit) (unpack (.pair (.arr 4 (.int .u64)) (.pair (.arr 4 (.int .u64)) .unit))) G35), (44, liftF (.pair (.pair (.sl (.int .i64)) (.pair (.sl (.int .i64)) .unit)) (.pair (.pair (.sl (.int .i64)) (.pair (.sl (.int .i64)) .unit)) .unit)) (unpack .bool) G44), (45, liftF (.pair (.pair (.arr 4 (.int .u64)) (.pair (.arr 4 (.int .u64)) .unit)) .unit) (unpack (.pair (.sl (.int .i64)) (.pair (.sl (.int .i64)) .unit))) G45), (48, liftF (.pair (.pair (.arr 4 (.int .u64)) (.pair (.arr 4 (.int .u64)) .unit)) .unit) (unpR (.pair (.pair (.arr 4 (.int .u64)) (.pair (.arr 4 (.int .u64)) .unit)) (.pair (.sl (.int .i64)) (.pair (.int .i64) .unit)))) G48), (49, liftF (.pair (.pair (.sl (.int .i64)) (.pair (.sl (.int .i64)) .unit)) .unit) (unpR (.pair (.pair (.sl (.int .i64)) (.pair (.sl (.int .i64)) .unit)) (.pair (.sl (.int .i64)) (.pair (.int .i64) .unit)))) G49), (50, liftF (.pair (.pair (.arr 4 (.int .u64)) (.pair (.arr 4 (.int .u64)) .unit)) .unit) (unpack .bool) G50), (51, liftF (.pair (.pair (.sl (.int .i64)) (.pair (.sl (.int .i64)) .unit)) .unit) (unpack .bool) G51)] ∧ FnsOk Go.Proofs.Tryd.prog fns := ⟨_, rfl, FnsOk.cons cG16 (FnsOk.cons cG33 (FnsOk.cons cG34 (FnsOk.cons cG35 (FnsOk.cons cG44 (FnsOk.cons cG45 (FnsOk.cons cG48 (FnsOk.cons cG49 (FnsOk.cons cG50 (FnsOk.cons cG51 (FnsOk.nil _))))))))))⟩
  refine lift_con (E := E_L21_RollFires fns) (c := bodyOf Tryd.f8) (nt := 62) (rs := [.tmp 2]) (ts := [4]) (EnvC.sub tt_ok et_ok hf (PrsOk.nil _) (ItsOk.nil _) tt_L21_RollFires_ok et_L21_RollFires_ok) (PrOk.of mixed_ok) Go.Proofs.Tryd.func8 rfl (by decide) rfl rfl rfl (pureR_one (e := .bool) rfl) ?_
  subst hfns
  intro x r hw hs
  repeat'
    (try (conv => whnf)
     first
       | (with_reducible have hs := letv_out hs)
       | (refine draw_and (by kernel_rfl) ?_)
       | (refine both_mk ?_ ?_)
       | (refine br_bool (fun h => ?_) (fun h => ?_) <;> first | have hs := cT h hs | have hs := cF h hs)
       | (refine bind_elim hs fun v hb hs => ?_; first | refine callK_liftG hG16 rfl hb ?_ | refine callK_liftG hG33 rfl hb ?_ | refine callK_liftG hG34 rfl hb ?_ | refine callK_liftG hG35 rfl hb ?_ | refine callK_liftG hG44 rfl hb ?_ | refine callK_liftG hG45 rfl hb ?_ | refine callK_liftG hG48 rfl hb ?_ | refine callK_liftG hG49 rfl hb ?_ | refine callK_liftG hG50 rfl hb ?_ | refine callK_liftG hG51 rfl hb ?_)
       | refine chk_elim hs fun hs => ?_
       | (have hs := letv_out hs)
       | exact fin_some hs rfl
       | (intro b hb; first | have hs := nilq_elim hs b hb | have hs := nilqn_elim hs b hb)
       | (have hs := cT rfl hs)
       | (have hs := cF rfl hs)
       | exact (none_ne hs).elim)
end Go.Proofs.YtejedlpnejjnbaaDoorV
