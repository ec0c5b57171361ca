/- What becket/becketlaw04.BitsetTwo answers. -/
import Derived.Test.YtejedlpnejjnbaaDoorBVcTab
import Derived.Test.YtejedlpnejjnbaaDoorBDBitsetTwo
import Derived.Test.YtejedlpnejjnbaaDoorBCL04
import Derived.Test.YtejedlpnejjnbaaDoorBCR02
import Derived.Test.YtejedlpnejjnbaaDoorBCR04
import Derived.Test.YtejedlpnejjnbaaDoorBCbitset
namespace Go.Proofs.YtejedlpnejjnbaaDoorBV
open Go.Proofs
set_option linter.unusedVariables false
noncomputable def lf_L04_BitsetTwo : List AV → Option AV := liftF (.pair (.sl (.int .i64)) (.pair (.sl (.int .i64)) .unit)) (unpack .bool) (fun x => L04_BitsetTwo x.1 x.2.1)
def tt_L04_BitsetTwo : List (Nat × Ty) := [(3, .int .i64), (4, .bool), (22, .sl (.int .i64)), (26, .arr 4 (.int .u64))]
def et_L04_BitsetTwo : List (Nat × Nat) := [(22, 3)]
theorem tt_L04_BitsetTwo_ok : subT tt tt_L04_BitsetTwo = true := by kernel_rfl
theorem et_L04_BitsetTwo_ok : subE et et_L04_BitsetTwo = true := by kernel_rfl
def kp_L04_BitsetTwo : List (Nat × List Nat) := [(0, [0, 1]), (1, [0, 1, 16]), (2, [4]), (3, [0, 1, 5, 6]), (4, [5, 6, 7, 8]), (5, [4]), (4000000, []), (4000001, []), (4000002, []), (4000003, [5, 6]), (4000004, [5, 6]), (4000005, [])]
def od_L04_BitsetTwo : List (Nat × Ord) := []
noncomputable def E_L04_BitsetTwo (fns : List (Nat × (List AV → Option AV))) : Env := ⟨0, 0, et_L04_BitsetTwo, tt_L04_BitsetTwo, fns, [], od_L04_BitsetTwo, kp_L04_BitsetTwo, none, []⟩
set_option maxRecDepth 100000 in
set_option maxHeartbeats 40000000 in
theorem c_L04_BitsetTwo : PCon Go.Proofs.Tryd.prog 5 lf_L04_BitsetTwo := by
  obtain ⟨G10, hG10, cG10⟩ : ∃ G : (.unit : Ty).den → Option Bool, (∀ x, G x = L04_alive) ∧ PCon Go.Proofs.Tryd.prog 10 (liftF .unit (unpack .bool) G) := ⟨_, fun _ => rfl, c_L04_alive⟩
  obtain ⟨G11, hG11, cG11⟩ : ∃ G : ((.pair (.sl (.int .i64)) .unit) : Ty).den → Option (List Int), (∀ x, G x = bitset_Of x.1) ∧ PCon Go.Proofs.Tryd.prog 11 (liftF (.pair (.sl (.int .i64)) .unit) (unpack (.arr 4 (.int .u64))) G) := ⟨_, fun _ => rfl, c_bitset_Of⟩
  obtain ⟨G12, hG12, cG12⟩ : ∃ G : ((.pair (.sl (.int .i64)) .unit) : Ty).den → Option (List Int), (∀ x, G x = R04_Of x.1) ∧ PCon Go.Proofs.Tryd.prog 12 (liftF (.pair (.sl (.int .i64)) .unit) (unpack (.sl (.int .i64))) G) := ⟨_, fun _ => rfl, c_R04_Of⟩
  obtain ⟨G16, hG16, cG16⟩ : ∃ G : ((.pair (.sl (.int .i64)) (.pair (.sl (.int .i64)) .unit)) : Ty).den → Option Bool, (∀ x, G x = R02_Same x.1 x.2.1) ∧ PCon Go.Proofs.Tryd.prog 16 (liftF (.pair (.sl (.int .i64)) (.pair (.sl (.int .i64)) .unit)) (unpack .bool) G) := ⟨_, fun _ => rfl, c_R02_Same⟩
  obtain ⟨G17, hG17, cG17⟩ : ∃ G : ((.pair (.arr 4 (.int .u64)) .unit) : Ty).den → Option (List Int), (∀ x, G x = bitset_List x.1) ∧ PCon Go.Proofs.Tryd.prog 17 (liftF (.pair (.arr 4 (.int .u64)) .unit) (unpack (.sl (.int .i64))) G) := ⟨_, fun _ => rfl, c_bitset_List⟩
  obtain ⟨G26, hG26, cG26⟩ : ∃ G : ((.pair (.arr 4 (.int .u64)) (.pair (.arr 4 (.int .u64)) .unit)) : Ty).den → Option (List Int), (∀ x, G x = bitset_Union x.1 x.2.1) ∧ PCon Go.Proofs.Tryd.prog 26 (liftF (.pair (.arr 4 (.int .u64)) (.pair (.arr 4 (.int .u64)) .unit)) (unpack (.arr 4 (.int .u64))) G) := ⟨_, fun _ => rfl, c_bitset_Union⟩
  obtain ⟨G27, hG27, cG27⟩ : ∃ G : ((.pair (.sl (.int .i64)) (.pair (.sl (.int .i64)) .unit)) : Ty).den → Option (List Int), (∀ x, G x = R04_Union x.1 x.2.1) ∧ PCon Go.Proofs.Tryd.prog 27 (liftF (.pair (.sl (.int .i64)) (.pair (.sl (.int .i64)) .unit)) (unpack (.sl (.int .i64))) G) := ⟨_, fun _ => rfl, c_R04_Union⟩
  obtain ⟨G28, hG28, cG28⟩ : ∃ G : ((.pair (.arr 4 (.int .u64)) (.pair (.arr 4 (.int .u64)) .unit)) : Ty).den → Option (List Int), (∀ x, G x = bitset_Inter x.1 x.2.1) ∧ PCon Go.Proofs.Tryd.prog 28 (liftF (.pair (.arr 4 (.int .u64)) (.pair (.arr 4 (.int .u64)) .unit)) (unpack (.arr 4 (.int .u64))) G) := ⟨_, fun _ => rfl, c_bitset_Inter⟩
  obtain ⟨G29, hG29, cG29⟩ : ∃ G : ((.pair (.sl (.int .i64)) (.pair (.sl (.int .i64)) .unit)) : Ty).den → Option (List Int), (∀ x, G x = R04_Inter x.1 x.2.1) ∧ PCon Go.Proofs.Tryd.prog 29 (liftF (.pair (.sl (.int .i64)) (.pair (.sl (.int .i64)) .unit)) (unpack (.sl (.int .i64))) G) := ⟨_, fun _ => rfl, c_R04_Inter⟩
  obtain ⟨G30, hG30, cG30⟩ : ∃ G : ((.pair (.arr 4 (.int .u64)) (.pair (.arr 4 (.int .u64)) .unit)) : Ty).den → Option (List Int), (∀ x, G x = bitset_Less x.1 x.2.1) ∧ PCon Go.Proofs.Tryd.prog 30 (liftF (.pair (.arr 4 (.int .u64)) (.pair (.arr 4 (.int .u64)) .unit)) (unpack (.arr 4 (.int .u64))) G) := ⟨_, fun _ => rfl, c_bitset_Less⟩
  obtain ⟨G31, hG31, cG31⟩ : ∃ G : ((.pair (.sl (.int .i64)) (.pair (.sl (.int .i64)) .unit)) : Ty).den → Option (List Int), (∀ x, G x = R04_Less x.1 x.2.1) ∧ PCon Go.Proofs.Tryd.prog 31 (liftF (.pair (.sl (.int .i64)) (.pair (.sl (.int .i64)) .unit)) (unpack (.sl (.int .i64))) G) := ⟨_, fun _ => rfl, c_R04_Less⟩
  obtain ⟨G32, hG32, cG32⟩ : ∃ G : ((.pair (.arr 4 (.int .u64)) (.pair (.arr 4 (.int .u64)) .unit)) : Ty).den → Option Bool, (∀ x, G x = bitset_Sub x.1 x.2.1) ∧ PCon Go.Proofs.Tryd.prog 32 (liftF (.pair (.arr 4 (.int .u64)) (.pair (.arr 4 (.int .u64)) .unit)) (unpack .bool) G) := ⟨_, fun _ => rfl, c_bitset_Sub⟩
  obtain ⟨fns, hfns, hf⟩ : ∃ fns, fns = [(10, liftF .unit (unpack .bool) G10), (11, liftF (.pair (.sl (.int .i64)) .unit) (unpack (.arr 4 (.int .u64))) G11), (12, liftF (.pair (.sl (.int .i64)) .unit) (unpack (.sl (.int .i64))) G12), (16, liftF (.pair (.sl (.int .i64)) (.pair (.sl (.int .i64)) .unit)) (unpack .bool) G16), (17, liftF (.pair (.arr 4 (.int .u64)) .unit) (unpack (.sl (.int .i64))) G17), (26, liftF (.pair (.arr 4 (.int .u64)) (.pair (.arr 4 (.int .u64)) .unit)) (unpack (.arr 4 (.int .u64))) G26), (27, liftF (.pair (.sl (.int .i64)) (.pair (.sl (.int .i64)) .unit)) (unpack (.sl (.int .i64))) G27), (28, liftF (.pair (.arr 4 (.int .u64)) (.pair (.arr 4 (.int .u64)) .unit)) (unpack (.arr 4 (.int .u64))) G28), (29, liftF (.pair (.sl (.int .i64)) (.pair (.sl (.int .i64)) .unit)) (unpack (.sl (.int .i64))) G29), (30, liftF (.pair (.arr 4 (.int .u64)) (.pair (.arr 4 (.int .u64)) .unit)) (unpack (.arr 4 (.int .u64))) G30), (31, liftF (.pair (.sl (.int .i64)) (.pair (.sl (.int .i64)) .unit)) (unpack (.sl (.int .i64))) G31), (32, liftF (.pair (.arr 4 (.int .u64)) (.pair (.arr 4 (.int .u64)) .unit)) (unpack .bool) G32)] ∧ FnsOk Go.Proofs.Tryd.prog fns := ⟨_, rfl, FnsOk.cons cG10 (FnsOk.cons cG11 (FnsOk.cons cG12 (FnsOk.cons cG16 (FnsOk.cons cG17 (FnsOk.cons cG26 (FnsOk.cons cG27 (FnsOk.cons cG28 (FnsOk.cons cG29 (FnsOk.cons cG30 (FnsOk.cons cG31 (FnsOk.cons cG32 (FnsOk.nil _))))))))))))⟩
  refine lift_con (E := E_L04_BitsetTwo fns) (c := bodyOf Tryd.f5) (nt := 68) (rs := [.tmp 4]) (ts := [4]) (EnvC.sub tt_ok et_ok hf (PrsOk.nil _) (ItsOk.nil _) tt_L04_BitsetTwo_ok et_L04_BitsetTwo_ok) (PrOk.of mixed_ok) Go.Proofs.Tryd.func5 rfl (by decide) rfl rfl rfl (pureR_one (e := .bool) rfl) ?_
  subst hfns
  intro x r hw hs
  repeat'
    (try (conv => whnf)
     first
       | (with_reducible have hs := letv_out hs)
       | (refine draw_and (by kernel_rfl) ?_)
       | (refine both_mk ?_ ?_)
       | (refine br_bool (fun h => ?_) (fun h => ?_) <;> first | have hs := cT h hs | have hs := cF h hs)
       | (refine bind_elim hs fun v hb hs => ?_; first | refine callK_liftG hG10 rfl hb ?_ | refine callK_liftG hG11 rfl hb ?_ | refine callK_liftG hG12 rfl hb ?_ | refine callK_liftG hG16 rfl hb ?_ | refine callK_liftG hG17 rfl hb ?_ | refine callK_liftG hG26 rfl hb ?_ | refine callK_liftG hG27 rfl hb ?_ | refine callK_liftG hG28 rfl hb ?_ | refine callK_liftG hG29 rfl hb ?_ | refine callK_liftG hG30 rfl hb ?_ | refine callK_liftG hG31 rfl hb ?_ | refine callK_liftG hG32 rfl hb ?_)
       | refine chk_elim hs fun hs => ?_
       | (have hs := letv_out hs)
       | exact fin_some hs rfl
       | (intro b hb; first | have hs := nilq_elim hs b hb | have hs := nilqn_elim hs b hb)
       | (have hs := cT rfl hs)
       | (have hs := cF rfl hs)
       | exact (none_ne hs).elim)
end Go.Proofs.YtejedlpnejjnbaaDoorBV
