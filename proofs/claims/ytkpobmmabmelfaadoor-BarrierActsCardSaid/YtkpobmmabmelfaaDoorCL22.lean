import Derived.Test.YtkpobmmabmelfaaDoorVcTab
import Derived.Test.YtkpobmmabmelfaaDoorDDBar
import Derived.Test.YtkpobmmabmelfaaDoorCL21
import Derived.Test.YtkpobmmabmelfaaDoorCR02
import Derived.Test.YtkpobmmabmelfaaDoorCR22
import Derived.Test.YtkpobmmabmelfaaDoorCbarrier
import Derived.Test.YtkpobmmabmelfaaDoorCbitset
namespace Go.Proofs.YtkpobmmabmelfaaDoorV
open Go.Proofs
set_option linter.unusedVariables false
noncomputable def lf_L22_Small : List AV → Option AV := liftF (.pair (.pair (.pair .bool (.pair (.int .i64) .unit)) (.pair (.pair (.sl (.int .i64)) (.pair (.sl (.int .i64)) .unit)) (.pair (.int .i64) .unit))) .unit) (unpack .bool) (fun x => L22_Small x.1)
def tt_L22_Small : List (Nat × Ty) := [(3, .int .i64), (4, .bool), (24, .sl (.int .i64)), (26, .pair (.sl (.int .i64)) (.pair (.sl (.int .i64)) .unit)), (28, .pair (.pair .bool (.pair (.int .i64) .unit)) (.pair (.pair (.sl (.int .i64)) (.pair (.sl (.int .i64)) .unit)) (.pair (.int .i64) .unit)))]
def et_L22_Small : List (Nat × Nat) := [(24, 3)]
theorem tt_L22_Small_ok : subT tt tt_L22_Small = true := by kernel_rfl
theorem et_L22_Small_ok : subE et et_L22_Small = true := by kernel_rfl
def kp_L22_Small : List (Nat × List Nat) := [(0, [1]), (1, [2]), (4000000, [1]), (4000001, [])]
def od_L22_Small : List (Nat × Ord) := []
noncomputable def E_L22_Small (fns : List (Nat × (List AV → Option AV))) : Env := ⟨0, 0, et_L22_Small, tt_L22_Small, fns, [], od_L22_Small, kp_L22_Small, none, []⟩
set_option maxRecDepth 100000 in
set_option maxHeartbeats 40000000 in
theorem c_L22_Small : PCon Go.Proofs.Tryd.prog 10 lf_L22_Small := by
  obtain ⟨fns, hfns, hf⟩ : ∃ fns, fns = [] ∧ FnsOk Go.Proofs.Tryd.prog fns := ⟨_, rfl, FnsOk.nil _⟩
  refine lift_con (E := E_L22_Small fns) (c := bodyOf Tryd.f10) (nt := 15) (rs := [.tmp 2]) (ts := [4]) (EnvC.sub tt_ok et_ok hf (PrsOk.nil _) (ItsOk.nil _) tt_L22_Small_ok et_L22_Small_ok) (PrOk.of mixed_ok) Go.Proofs.Tryd.func10 rfl (by decide) rfl rfl rfl (pureR_one (e := .bool) rfl) ?_
  subst hfns
  intro x r hw hs
  repeat'
    (try (conv => whnf)
     first
       | (with_reducible have hs := letv_out hs)
       | (refine draw_and (by kernel_rfl) ?_)
       | (refine both_mk ?_ ?_)
       | (refine br_bool (fun h => ?_) (fun h => ?_) <;> first | have hs := cT h hs | have hs := cF h hs)
       | refine chk_elim hs fun hs => ?_
       | (have hs := letv_out hs)
       | exact fin_some hs rfl
       | (intro b hb; first | have hs := nilq_elim hs b hb | have hs := nilqn_elim hs b hb)
       | (have hs := cT rfl hs)
       | (have hs := cF rfl hs)
       | exact (none_ne hs).elim)
noncomputable def lf_L22_alive : List AV → Option AV := liftF .unit (unpack .bool) (fun x => L22_alive)
def tt_L22_alive : List (Nat × Ty) := [(3, .int .i64), (4, .bool), (23, .pair .bool (.pair (.int .i64) .unit)), (24, .sl (.int .i64)), (38, .pair (.pair .bool (.pair (.int .i64) .unit)) (.pair (.pair (.arr 4 (.int .u64)) (.pair (.arr 4 (.int .u64)) .unit)) (.pair (.int .i64) .unit))), (40, .int .i64)]
def et_L22_alive : List (Nat × Nat) := [(24, 3)]
theorem tt_L22_alive_ok : subT tt tt_L22_alive = true := by kernel_rfl
theorem et_L22_alive_ok : subE et et_L22_alive = true := by kernel_rfl
def kp_L22_alive : List (Nat × List Nat) := [(0, []), (1, [1, 2]), (2, [2, 3, 4]), (3, [2, 3, 4, 6]), (4, [2, 4, 6, 7, 8]), (5, [2, 4, 6, 7, 8, 9, 10, 11]), (6, [2, 4, 6, 7, 8, 9, 10, 11, 13]), (7, [0]), (4000000, []), (4000001, [1]), (4000002, [3]), (4000003, [3]), (4000004, [7]), (4000005, [7, 9]), (4000006, [7, 9]), (4000007, [])]
def od_L22_alive : List (Nat × Ord) := []
noncomputable def E_L22_alive (fns : List (Nat × (List AV → Option AV))) : Env := ⟨0, 0, et_L22_alive, tt_L22_alive, fns, [], od_L22_alive, kp_L22_alive, none, []⟩
set_option maxRecDepth 100000 in
set_option maxHeartbeats 40000000 in
theorem c_L22_alive : PCon Go.Proofs.Tryd.prog 11 lf_L22_alive := by
  obtain ⟨G14, hG14, cG14⟩ : ∃ G : ((.pair (.pair (.pair .bool (.pair (.int .i64) .unit)) (.pair (.pair (.arr 4 (.int .u64)) (.pair (.arr 4 (.int .u64)) .unit)) (.pair (.int .i64) .unit))) .unit) : Ty).den → Option (((Bool × Int × Unit) × ((List Int) × (List Int) × Unit) × Int × Unit) × (List Int) × Int × Unit), (∀ x, G x = barrier_Fire x.1) ∧ PCon Go.Proofs.Tryd.prog 14 (liftF (.pair (.pair (.pair .bool (.pair (.int .i64) .unit)) (.pair (.pair (.arr 4 (.int .u64)) (.pair (.arr 4 (.int .u64)) .unit)) (.pair (.int .i64) .unit))) .unit) (unpR (.pair (.pair (.pair .bool (.pair (.int .i64) .unit)) (.pair (.pair (.arr 4 (.int .u64)) (.pair (.arr 4 (.int .u64)) .unit)) (.pair (.int .i64) .unit))) (.pair (.sl (.int .i64)) (.pair (.int .i64) .unit)))) G) := ⟨_, fun _ => rfl, c_barrier_Fire⟩
  obtain ⟨G16, hG16, cG16⟩ : ∃ G : ((.pair (.pair (.pair .bool (.pair (.int .i64) .unit)) (.pair (.pair (.arr 4 (.int .u64)) (.pair (.arr 4 (.int .u64)) .unit)) (.pair (.int .i64) .unit))) .unit) : Ty).den → Option Bool, (∀ x, G x = barrier_Ready x.1) ∧ PCon Go.Proofs.Tryd.prog 16 (liftF (.pair (.pair (.pair .bool (.pair (.int .i64) .unit)) (.pair (.pair (.arr 4 (.int .u64)) (.pair (.arr 4 (.int .u64)) .unit)) (.pair (.int .i64) .unit))) .unit) (unpack .bool) G) := ⟨_, fun _ => rfl, c_barrier_Ready⟩
  obtain ⟨G20, hG20, cG20⟩ : ∃ G : ((.pair (.sl (.int .i64)) (.pair (.sl (.int .i64)) .unit)) : Ty).den → Option Bool, (∀ x, G x = R02_Same x.1 x.2.1) ∧ PCon Go.Proofs.Tryd.prog 20 (liftF (.pair (.sl (.int .i64)) (.pair (.sl (.int .i64)) .unit)) (unpack .bool) G) := ⟨_, fun _ => rfl, c_R02_Same⟩
  obtain ⟨G21, hG21, cG21⟩ : ∃ G : ((.pair (.pair .bool (.pair (.int .i64) .unit)) .unit) : Ty).den → Option (((Bool × Int × Unit) × ((List Int) × (List Int) × Unit) × Int × Unit) × Int × Unit), (∀ x, G x = barrier_New x.1) ∧ PCon Go.Proofs.Tryd.prog 21 (liftF (.pair (.pair .bool (.pair (.int .i64) .unit)) .unit) (unpR (.pair (.pair (.pair .bool (.pair (.int .i64) .unit)) (.pair (.pair (.arr 4 (.int .u64)) (.pair (.arr 4 (.int .u64)) .unit)) (.pair (.int .i64) .unit))) (.pair (.int .i64) .unit))) G) := ⟨_, fun _ => rfl, c_barrier_New⟩
  obtain ⟨G23, hG23, cG23⟩ : ∃ G : ((.pair (.pair (.pair .bool (.pair (.int .i64) .unit)) (.pair (.pair (.arr 4 (.int .u64)) (.pair (.arr 4 (.int .u64)) .unit)) (.pair (.int .i64) .unit))) (.pair (.int .i64) .unit)) : Ty).den → Option (((Bool × Int × Unit) × ((List Int) × (List Int) × Unit) × Int × Unit) × Int × Unit), (∀ x, G x = barrier_Enrol x.1 x.2.1) ∧ PCon Go.Proofs.Tryd.prog 23 (liftF (.pair (.pair (.pair .bool (.pair (.int .i64) .unit)) (.pair (.pair (.arr 4 (.int .u64)) (.pair (.arr 4 (.int .u64)) .unit)) (.pair (.int .i64) .unit))) (.pair (.int .i64) .unit)) (unpR (.pair (.pair (.pair .bool (.pair (.int .i64) .unit)) (.pair (.pair (.arr 4 (.int .u64)) (.pair (.arr 4 (.int .u64)) .unit)) (.pair (.int .i64) .unit))) (.pair (.int .i64) .unit))) G) := ⟨_, fun _ => rfl, c_barrier_Enrol⟩
  obtain ⟨G27, hG27, cG27⟩ : ∃ G : ((.pair (.pair (.pair .bool (.pair (.int .i64) .unit)) (.pair (.pair (.arr 4 (.int .u64)) (.pair (.arr 4 (.int .u64)) .unit)) (.pair (.int .i64) .unit))) (.pair (.int .i64) (.pair .bool .unit))) : Ty).den → Option (((Bool × Int × Unit) × ((List Int) × (List Int) × Unit) × Int × Unit) × Int × Unit), (∀ x, G x = barrier_Offer x.1 x.2.1 x.2.2.1) ∧ PCon Go.Proofs.Tryd.prog 27 (liftF (.pair (.pair (.pair .bool (.pair (.int .i64) .unit)) (.pair (.pair (.arr 4 (.int .u64)) (.pair (.arr 4 (.int .u64)) .unit)) (.pair (.int .i64) .unit))) (.pair (.int .i64) (.pair .bool .unit))) (unpR (.pair (.pair (.pair .bool (.pair (.int .i64) .unit)) (.pair (.pair (.arr 4 (.int .u64)) (.pair (.arr 4 (.int .u64)) .unit)) (.pair (.int .i64) .unit))) (.pair (.int .i64) .unit))) G) := ⟨_, fun _ => rfl, c_barrier_Offer⟩
  obtain ⟨G29, hG29, cG29⟩ : ∃ G : ((.pair (.pair (.pair .bool (.pair (.int .i64) .unit)) (.pair (.pair (.arr 4 (.int .u64)) (.pair (.arr 4 (.int .u64)) .unit)) (.pair (.int .i64) .unit))) (.pair (.int .i64) .unit)) : Ty).den → Option ((Bool × Int × Unit) × ((List Int) × (List Int) × Unit) × Int × Unit), (∀ x, G x = barrier_Withdraw x.1 x.2.1) ∧ PCon Go.Proofs.Tryd.prog 29 (liftF (.pair (.pair (.pair .bool (.pair (.int .i64) .unit)) (.pair (.pair (.arr 4 (.int .u64)) (.pair (.arr 4 (.int .u64)) .unit)) (.pair (.int .i64) .unit))) (.pair (.int .i64) .unit)) (unpack (.pair (.pair .bool (.pair (.int .i64) .unit)) (.pair (.pair (.arr 4 (.int .u64)) (.pair (.arr 4 (.int .u64)) .unit)) (.pair (.int .i64) .unit)))) G) := ⟨_, fun _ => rfl, c_barrier_Withdraw⟩
  obtain ⟨G31, hG31, cG31⟩ : ∃ G : ((.pair (.pair (.pair .bool (.pair (.int .i64) .unit)) (.pair (.pair (.arr 4 (.int .u64)) (.pair (.arr 4 (.int .u64)) .unit)) (.pair (.int .i64) .unit))) .unit) : Ty).den → Option Bool, (∀ x, G x = barrier_Fine x.1) ∧ PCon Go.Proofs.Tryd.prog 31 (liftF (.pair (.pair (.pair .bool (.pair (.int .i64) .unit)) (.pair (.pair (.arr 4 (.int .u64)) (.pair (.arr 4 (.int .u64)) .unit)) (.pair (.int .i64) .unit))) .unit) (unpack .bool) G) := ⟨_, fun _ => rfl, c_barrier_Fine⟩
  obtain ⟨G33, hG33, cG33⟩ : ∃ G : ((.pair (.pair .bool (.pair (.int .i64) .unit)) .unit) : Ty).den → Option Int, (∀ x, G x = barrier_Check x.1) ∧ PCon Go.Proofs.Tryd.prog 33 (liftF (.pair (.pair .bool (.pair (.int .i64) .unit)) .unit) (unpack (.int .i64)) G) := ⟨_, fun _ => rfl, c_barrier_Check⟩
  obtain ⟨fns, hfns, hf⟩ : ∃ fns, fns = [(14, liftF (.pair (.pair (.pair .bool (.pair (.int .i64) .unit)) (.pair (.pair (.arr 4 (.int .u64)) (.pair (.arr 4 (.int .u64)) .unit)) (.pair (.int .i64) .unit))) .unit) (unpR (.pair (.pair (.pair .bool (.pair (.int .i64) .unit)) (.pair (.pair (.arr 4 (.int .u64)) (.pair (.arr 4 (.int .u64)) .unit)) (.pair (.int .i64) .unit))) (.pair (.sl (.int .i64)) (.pair (.int .i64) .unit)))) G14), (16, liftF (.pair (.pair (.pair .bool (.pair (.int .i64) .unit)) (.pair (.pair (.arr 4 (.int .u64)) (.pair (.arr 4 (.int .u64)) .unit)) (.pair (.int .i64) .unit))) .unit) (unpack .bool) G16), (20, liftF (.pair (.sl (.int .i64)) (.pair (.sl (.int .i64)) .unit)) (unpack .bool) G20), (21, liftF (.pair (.pair .bool (.pair (.int .i64) .unit)) .unit) (unpR (.pair (.pair (.pair .bool (.pair (.int .i64) .unit)) (.pair (.pair (.arr 4 (.int .u64)) (.pair (.arr 4 (.int .u64)) .unit)) (.pair (.int .i64) .unit))) (.pair (.int .i64) .unit))) G21), (23, liftF (.pair (.pair (.pair .bool (.pair (.int .i64) .unit)) (.pair (.pair (.arr 4 (.int .u64)) (.pair (.arr 4 (.int .u64)) .unit)) (.pair (.int .i64) .unit))) (.pair (.int .i64) .unit)) (unpR (.pair (.pair (.pair .bool (.pair (.int .i64) .unit)) (.pair (.pair (.arr 4 (.int .u64)) (.pair (.arr 4 (.int .u64)) .unit)) (.pair (.int .i64) .unit))) (.pair (.int .i64) .unit))) G23), (27, liftF (.pair (.pair (.pair .bool (.pair (.int .i64) .unit)) (.pair (.pair (.arr 4 (.int .u64)) (.pair (.arr 4 (.int .u64)) .unit)) (.pair (.int .i64) .unit))) (.pair (.int .i64) (.pair .bool .unit))) (unpR (.pair (.pair (.pair .bool (.pair (.int .i64) .unit)) (.pair (.pair (.arr 4 (.int .u64)) (.pair (.arr 4 (.int .u64)) .unit)) (.pair (.int .i64) .unit))) (.pair (.int .i64) .unit))) G27), (29, liftF (.pair (.pair (.pair .bool (.pair (.int .i64) .unit)) (.pair (.pair (.arr 4 (.int .u64)) (.pair (.arr 4 (.int .u64)) .unit)) (.pair (.int .i64) .unit))) (.pair (.int .i64) .unit)) (unpack (.pair (.pair .bool (.pair (.int .i64) .unit)) (.pair (.pair (.arr 4 (.int .u64)) (.pair (.arr 4 (.int .u64)) .unit)) (.pair (.int .i64) .unit)))) G29), (31, liftF (.pair (.pair (.pair .bool (.pair (.int .i64) .unit)) (.pair (.pair (.arr 4 (.int .u64)) (.pair (.arr 4 (.int .u64)) .unit)) (.pair (.int .i64) .unit))) .unit) (unpack .bool) G31), (33, liftF (.pair (.pair .bool (.pair (.int .i64) .unit)) .unit) (unpack (.int .i64)) G33)] ∧ FnsOk Go.Proofs.Tryd.prog fns := ⟨_, rfl, FnsOk.cons cG14 (FnsOk.cons cG16 (FnsOk.cons cG20 (FnsOk.cons cG21 (FnsOk.cons cG23 (FnsOk.cons cG27 (FnsOk.cons cG29 (FnsOk.cons cG31 (FnsOk.cons cG33 (FnsOk.nil _)))))))))⟩
  refine lift_con (E := E_L22_alive fns) (c := bodyOf Tryd.f11) (nt := 96) (rs := [.tmp 0]) (ts := [4]) (EnvC.sub tt_ok et_ok hf (PrsOk.nil _) (ItsOk.nil _) tt_L22_alive_ok et_L22_alive_ok) (PrOk.of mixed_ok) Go.Proofs.Tryd.func11 rfl (by decide) rfl rfl rfl (pureR_one (e := .bool) rfl) ?_
  subst hfns
  intro x r hw hs
  repeat'
    (try (conv => whnf)
     first
       | (with_reducible have hs := letv_out hs)
       | (refine draw_and (by kernel_rfl) ?_)
       | (refine both_mk ?_ ?_)
       | (refine br_bool (fun h => ?_) (fun h => ?_) <;> first | have hs := cT h hs | have hs := cF h hs)
       | (refine bind_elim hs fun v hb hs => ?_; first | refine callK_liftG hG14 rfl hb ?_ | refine callK_liftG hG16 rfl hb ?_ | refine callK_liftG hG20 rfl hb ?_ | refine callK_liftG hG21 rfl hb ?_ | refine callK_liftG hG23 rfl hb ?_ | refine callK_liftG hG27 rfl hb ?_ | refine callK_liftG hG29 rfl hb ?_ | refine callK_liftG hG31 rfl hb ?_ | refine callK_liftG hG33 rfl hb ?_)
       | refine chk_elim hs fun hs => ?_
       | (have hs := letv_out hs)
       | exact fin_some hs rfl
       | (intro b hb; first | have hs := nilq_elim hs b hb | have hs := nilqn_elim hs b hb)
       | (have hs := cT rfl hs)
       | (have hs := cF rfl hs)
       | exact (none_ne hs).elim)
noncomputable def lf_L22_Plain : List AV → Option AV := liftF (.pair (.pair (.pair .bool (.pair (.int .i64) .unit)) (.pair (.pair (.sl (.int .i64)) (.pair (.sl (.int .i64)) .unit)) (.pair (.int .i64) .unit))) .unit) (unpack (.pair (.pair .bool (.pair (.int .i64) .unit)) (.pair (.pair (.sl (.int .i64)) (.pair (.sl (.int .i64)) .unit)) (.pair (.int .i64) .unit)))) (fun x => L22_Plain x.1)
def tt_L22_Plain : List (Nat × Ty) := [(3, .int .i64), (23, .pair .bool (.pair (.int .i64) .unit)), (26, .pair (.sl (.int .i64)) (.pair (.sl (.int .i64)) .unit)), (28, .pair (.pair .bool (.pair (.int .i64) .unit)) (.pair (.pair (.sl (.int .i64)) (.pair (.sl (.int .i64)) .unit)) (.pair (.int .i64) .unit)))]
def et_L22_Plain : List (Nat × Nat) := []
theorem tt_L22_Plain_ok : subT tt tt_L22_Plain = true := by kernel_rfl
theorem et_L22_Plain_ok : subE et et_L22_Plain = true := by kernel_rfl
def kp_L22_Plain : List (Nat × List Nat) := [(0, [1, 2]), (1, [2]), (4000000, [1, 2]), (4000001, [2])]
def od_L22_Plain : List (Nat × Ord) := [(1, (.one 0 (.one 1 (.one 2 (.one 3 (.one 5 (.one 6 (.one 4 (.one 7 (.one 100008 .nil))))))))))]
noncomputable def E_L22_Plain (fns : List (Nat × (List AV → Option AV))) : Env := ⟨0, 0, et_L22_Plain, tt_L22_Plain, fns, [], od_L22_Plain, kp_L22_Plain, none, []⟩
set_option maxRecDepth 100000 in
set_option maxHeartbeats 40000000 in
theorem c_L22_Plain : PCon Go.Proofs.Tryd.prog 12 lf_L22_Plain := by
  obtain ⟨G59, hG59, cG59⟩ : ∃ G : ((.pair (.pair (.sl (.int .i64)) (.pair (.sl (.int .i64)) .unit)) .unit) : Ty).den → Option ((List Int) × (List Int) × Unit), (∀ x, G x = L21_Plain x.1) ∧ PCon Go.Proofs.Tryd.prog 59 (liftF (.pair (.pair (.sl (.int .i64)) (.pair (.sl (.int .i64)) .unit)) .unit) (unpack (.pair (.sl (.int .i64)) (.pair (.sl (.int .i64)) .unit))) G) := ⟨_, fun _ => rfl, c_L21_Plain⟩
  obtain ⟨fns, hfns, hf⟩ : ∃ fns, fns = [(59, liftF (.pair (.pair (.sl (.int .i64)) (.pair (.sl (.int .i64)) .unit)) .unit) (unpack (.pair (.sl (.int .i64)) (.pair (.sl (.int .i64)) .unit))) G59)] ∧ FnsOk Go.Proofs.Tryd.prog fns := ⟨_, rfl, FnsOk.cons cG59 (FnsOk.nil _)⟩
  refine lift_con (E := E_L22_Plain fns) (c := bodyOf Tryd.f12) (nt := 11) (rs := [.cell 2 28]) (ts := [28]) (EnvC.sub tt_ok et_ok hf (PrsOk.nil _) (ItsOk.nil _) tt_L22_Plain_ok et_L22_Plain_ok) (PrOk.of mixed_ok) Go.Proofs.Tryd.func12 rfl (by decide) rfl rfl rfl (pureR_one (e := (.pair (.pair .bool (.pair (.int .i64) .unit)) (.pair (.pair (.sl (.int .i64)) (.pair (.sl (.int .i64)) .unit)) (.pair (.int .i64) .unit)))) rfl) ?_
  subst hfns
  intro x r hw hs
  repeat'
    (try (conv => whnf)
     first
       | (with_reducible have hs := letv_out hs)
       | (refine draw_and (by kernel_rfl) ?_)
       | (refine both_mk ?_ ?_)
       | (refine br_bool (fun h => ?_) (fun h => ?_) <;> first | have hs := cT h hs | have hs := cF h hs)
       | (refine bind_elim hs fun v hb hs => ?_; first | refine callK_liftG hG59 rfl hb ?_)
       | refine chk_elim hs fun hs => ?_
       | (have hs := letv_out hs)
       | exact fin_some hs rfl
       | (intro b hb; first | have hs := nilq_elim hs b hb | have hs := nilqn_elim hs b hb)
       | (have hs := cT rfl hs)
       | (have hs := cF rfl hs)
       | exact (none_ne hs).elim)
noncomputable def lf_L22_To : List AV → Option AV := liftF (.pair (.pair (.pair .bool (.pair (.int .i64) .unit)) (.pair (.pair (.sl (.int .i64)) (.pair (.sl (.int .i64)) .unit)) (.pair (.int .i64) .unit))) .unit) (unpack (.pair (.pair .bool (.pair (.int .i64) .unit)) (.pair (.pair (.arr 4 (.int .u64)) (.pair (.arr 4 (.int .u64)) .unit)) (.pair (.int .i64) .unit)))) (fun x => L22_To x.1)
def tt_L22_To : List (Nat × Ty) := [(3, .int .i64), (23, .pair .bool (.pair (.int .i64) .unit)), (26, .pair (.sl (.int .i64)) (.pair (.sl (.int .i64)) .unit)), (28, .pair (.pair .bool (.pair (.int .i64) .unit)) (.pair (.pair (.sl (.int .i64)) (.pair (.sl (.int .i64)) .unit)) (.pair (.int .i64) .unit))), (38, .pair (.pair .bool (.pair (.int .i64) .unit)) (.pair (.pair (.arr 4 (.int .u64)) (.pair (.arr 4 (.int .u64)) .unit)) (.pair (.int .i64) .unit)))]
def et_L22_To : List (Nat × Nat) := []
theorem tt_L22_To_ok : subT tt tt_L22_To = true := by kernel_rfl
theorem et_L22_To_ok : subE et et_L22_To = true := by kernel_rfl
def kp_L22_To : List (Nat × List Nat) := [(0, [1, 2]), (1, [2]), (4000000, [1, 2]), (4000001, [2])]
def od_L22_To : List (Nat × Ord) := [(1, (.one 0 (.one 1 (.one 2 (.one 3 (.one 6 (.one 7 (.one 4 (.one 5 (.one 8 (.one 100009 .nil)))))))))))]
noncomputable def E_L22_To (fns : List (Nat × (List AV → Option AV))) : Env := ⟨0, 0, et_L22_To, tt_L22_To, fns, [], od_L22_To, kp_L22_To, none, []⟩
set_option maxRecDepth 100000 in
set_option maxHeartbeats 40000000 in
theorem c_L22_To : PCon Go.Proofs.Tryd.prog 13 lf_L22_To := by
  obtain ⟨G59, hG59, cG59⟩ : ∃ G : ((.pair (.pair (.sl (.int .i64)) (.pair (.sl (.int .i64)) .unit)) .unit) : Ty).den → Option ((List Int) × (List Int) × Unit), (∀ x, G x = L21_Plain x.1) ∧ PCon Go.Proofs.Tryd.prog 59 (liftF (.pair (.pair (.sl (.int .i64)) (.pair (.sl (.int .i64)) .unit)) .unit) (unpack (.pair (.sl (.int .i64)) (.pair (.sl (.int .i64)) .unit))) G) := ⟨_, fun _ => rfl, c_L21_Plain⟩
  obtain ⟨G60, hG60, cG60⟩ : ∃ G : ((.pair (.pair (.sl (.int .i64)) (.pair (.sl (.int .i64)) .unit)) .unit) : Ty).den → Option ((List Int) × (List Int) × Unit), (∀ x, G x = L21_To x.1) ∧ PCon Go.Proofs.Tryd.prog 60 (liftF (.pair (.pair (.sl (.int .i64)) (.pair (.sl (.int .i64)) .unit)) .unit) (unpack (.pair (.arr 4 (.int .u64)) (.pair (.arr 4 (.int .u64)) .unit))) G) := ⟨_, fun _ => rfl, c_L21_To⟩
  obtain ⟨fns, hfns, hf⟩ : ∃ fns, fns = [(59, liftF (.pair (.pair (.sl (.int .i64)) (.pair (.sl (.int .i64)) .unit)) .unit) (unpack (.pair (.sl (.int .i64)) (.pair (.sl (.int .i64)) .unit))) G59), (60, liftF (.pair (.pair (.sl (.int .i64)) (.pair (.sl (.int .i64)) .unit)) .unit) (unpack (.pair (.arr 4 (.int .u64)) (.pair (.arr 4 (.int .u64)) .unit))) G60)] ∧ FnsOk Go.Proofs.Tryd.prog fns := ⟨_, rfl, FnsOk.cons cG59 (FnsOk.cons cG60 (FnsOk.nil _))⟩
  refine lift_con (E := E_L22_To fns) (c := bodyOf Tryd.f13) (nt := 12) (rs := [.cell 2 38]) (ts := [38]) (EnvC.sub tt_ok et_ok hf (PrsOk.nil _) (ItsOk.nil _) tt_L22_To_ok et_L22_To_ok) (PrOk.of mixed_ok) Go.Proofs.Tryd.func13 rfl (by decide) rfl rfl rfl (pureR_one (e := (.pair (.pair .bool (.pair (.int .i64) .unit)) (.pair (.pair (.arr 4 (.int .u64)) (.pair (.arr 4 (.int .u64)) .unit)) (.pair (.int .i64) .unit)))) rfl) ?_
  subst hfns
  intro x r hw hs
  repeat'
    (try (conv => whnf)
     first
       | (with_reducible have hs := letv_out hs)
       | (refine draw_and (by kernel_rfl) ?_)
       | (refine both_mk ?_ ?_)
       | (refine br_bool (fun h => ?_) (fun h => ?_) <;> first | have hs := cT h hs | have hs := cF h hs)
       | (refine bind_elim hs fun v hb hs => ?_; first | refine callK_liftG hG59 rfl hb ?_ | refine callK_liftG hG60 rfl hb ?_)
       | refine chk_elim hs fun hs => ?_
       | (have hs := letv_out hs)
       | exact fin_some hs rfl
       | (intro b hb; first | have hs := nilq_elim hs b hb | have hs := nilqn_elim hs b hb)
       | (have hs := cT rfl hs)
       | (have hs := cF rfl hs)
       | exact (none_ne hs).elim)
noncomputable def lf_L22_Same : List AV → Option AV := liftF (.pair (.pair (.pair .bool (.pair (.int .i64) .unit)) (.pair (.pair (.sl (.int .i64)) (.pair (.sl (.int .i64)) .unit)) (.pair (.int .i64) .unit))) (.pair (.pair (.pair .bool (.pair (.int .i64) .unit)) (.pair (.pair (.sl (.int .i64)) (.pair (.sl (.int .i64)) .unit)) (.pair (.int .i64) .unit))) .unit)) (unpack .bool) (fun x => L22_Same x.1 x.2.1)
def tt_L22_Same : List (Nat × Ty) := [(3, .int .i64), (4, .bool), (23, .pair .bool (.pair (.int .i64) .unit)), (26, .pair (.sl (.int .i64)) (.pair (.sl (.int .i64)) .unit)), (28, .pair (.pair .bool (.pair (.int .i64) .unit)) (.pair (.pair (.sl (.int .i64)) (.pair (.sl (.int .i64)) .unit)) (.pair (.int .i64) .unit)))]
def et_L22_Same : List (Nat × Nat) := []
theorem tt_L22_Same_ok : subT tt tt_L22_Same = true := by kernel_rfl
theorem et_L22_Same_ok : subE et et_L22_Same = true := by kernel_rfl
def kp_L22_Same : List (Nat × List Nat) := [(0, [2, 3]), (1, [4]), (4000000, [2, 3]), (4000001, [])]
def od_L22_Same : List (Nat × Ord) := []
noncomputable def E_L22_Same (fns : List (Nat × (List AV → Option AV))) : Env := ⟨0, 0, et_L22_Same, tt_L22_Same, fns, [], od_L22_Same, kp_L22_Same, none, []⟩
set_option maxRecDepth 100000 in
set_option maxHeartbeats 40000000 in
theorem c_L22_Same : PCon Go.Proofs.Tryd.prog 18 lf_L22_Same := by
  obtain ⟨G67, hG67, cG67⟩ : ∃ G : ((.pair (.pair (.sl (.int .i64)) (.pair (.sl (.int .i64)) .unit)) (.pair (.pair (.sl (.int .i64)) (.pair (.sl (.int .i64)) .unit)) .unit)) : Ty).den → Option Bool, (∀ x, G x = L21_Same x.1 x.2.1) ∧ PCon Go.Proofs.Tryd.prog 67 (liftF (.pair (.pair (.sl (.int .i64)) (.pair (.sl (.int .i64)) .unit)) (.pair (.pair (.sl (.int .i64)) (.pair (.sl (.int .i64)) .unit)) .unit)) (unpack .bool) G) := ⟨_, fun _ => rfl, c_L21_Same⟩
  obtain ⟨fns, hfns, hf⟩ : ∃ fns, fns = [(67, liftF (.pair (.pair (.sl (.int .i64)) (.pair (.sl (.int .i64)) .unit)) (.pair (.pair (.sl (.int .i64)) (.pair (.sl (.int .i64)) .unit)) .unit)) (unpack .bool) G67)] ∧ FnsOk Go.Proofs.Tryd.prog fns := ⟨_, rfl, FnsOk.cons cG67 (FnsOk.nil _)⟩
  refine lift_con (E := E_L22_Same fns) (c := bodyOf Tryd.f18) (nt := 24) (rs := [.tmp 4]) (ts := [4]) (EnvC.sub tt_ok et_ok hf (PrsOk.nil _) (ItsOk.nil _) tt_L22_Same_ok et_L22_Same_ok) (PrOk.of mixed_ok) Go.Proofs.Tryd.func18 rfl (by decide) rfl rfl rfl (pureR_one (e := .bool) rfl) ?_
  subst hfns
  intro x r hw hs
  repeat'
    (try (conv => whnf)
     first
       | (with_reducible have hs := letv_out hs)
       | (refine draw_and (by kernel_rfl) ?_)
       | (refine both_mk ?_ ?_)
       | (refine br_bool (fun h => ?_) (fun h => ?_) <;> first | have hs := cT h hs | have hs := cF h hs)
       | (refine bind_elim hs fun v hb hs => ?_; first | refine callK_liftG hG67 rfl hb ?_)
       | refine chk_elim hs fun hs => ?_
       | (have hs := letv_out hs)
       | exact fin_some hs rfl
       | (intro b hb; first | have hs := nilq_elim hs b hb | have hs := nilqn_elim hs b hb)
       | (have hs := cT rfl hs)
       | (have hs := cF rfl hs)
       | exact (none_ne hs).elim)
noncomputable def lf_L22_From : List AV → Option AV := liftF (.pair (.pair (.pair .bool (.pair (.int .i64) .unit)) (.pair (.pair (.arr 4 (.int .u64)) (.pair (.arr 4 (.int .u64)) .unit)) (.pair (.int .i64) .unit))) .unit) (unpack (.pair (.pair .bool (.pair (.int .i64) .unit)) (.pair (.pair (.sl (.int .i64)) (.pair (.sl (.int .i64)) .unit)) (.pair (.int .i64) .unit)))) (fun x => L22_From x.1)
def tt_L22_From : List (Nat × Ty) := [(3, .int .i64), (23, .pair .bool (.pair (.int .i64) .unit)), (28, .pair (.pair .bool (.pair (.int .i64) .unit)) (.pair (.pair (.sl (.int .i64)) (.pair (.sl (.int .i64)) .unit)) (.pair (.int .i64) .unit))), (36, .pair (.arr 4 (.int .u64)) (.pair (.arr 4 (.int .u64)) .unit)), (38, .pair (.pair .bool (.pair (.int .i64) .unit)) (.pair (.pair (.arr 4 (.int .u64)) (.pair (.arr 4 (.int .u64)) .unit)) (.pair (.int .i64) .unit)))]
def et_L22_From : List (Nat × Nat) := []
theorem tt_L22_From_ok : subT tt tt_L22_From = true := by kernel_rfl
theorem et_L22_From_ok : subE et et_L22_From = true := by kernel_rfl
def kp_L22_From : List (Nat × List Nat) := [(0, [1, 2]), (1, [2]), (4000000, [1, 2]), (4000001, [2])]
def od_L22_From : List (Nat × Ord) := [(1, (.one 0 (.one 1 (.one 2 (.one 3 (.one 5 (.one 6 (.one 4 (.one 7 (.one 100008 .nil))))))))))]
noncomputable def E_L22_From (fns : List (Nat × (List AV → Option AV))) : Env := ⟨0, 0, et_L22_From, tt_L22_From, fns, [], od_L22_From, kp_L22_From, none, []⟩
set_option maxRecDepth 100000 in
set_option maxHeartbeats 40000000 in
theorem c_L22_From : PCon Go.Proofs.Tryd.prog 19 lf_L22_From := by
  obtain ⟨G68, hG68, cG68⟩ : ∃ G : ((.pair (.pair (.arr 4 (.int .u64)) (.pair (.arr 4 (.int .u64)) .unit)) .unit) : Ty).den → Option ((List Int) × (List Int) × Unit), (∀ x, G x = L21_From x.1) ∧ PCon Go.Proofs.Tryd.prog 68 (liftF (.pair (.pair (.arr 4 (.int .u64)) (.pair (.arr 4 (.int .u64)) .unit)) .unit) (unpack (.pair (.sl (.int .i64)) (.pair (.sl (.int .i64)) .unit))) G) := ⟨_, fun _ => rfl, c_L21_From⟩
  obtain ⟨fns, hfns, hf⟩ : ∃ fns, fns = [(68, liftF (.pair (.pair (.arr 4 (.int .u64)) (.pair (.arr 4 (.int .u64)) .unit)) .unit) (unpack (.pair (.sl (.int .i64)) (.pair (.sl (.int .i64)) .unit))) G68)] ∧ FnsOk Go.Proofs.Tryd.prog fns := ⟨_, rfl, FnsOk.cons cG68 (FnsOk.nil _)⟩
  refine lift_con (E := E_L22_From fns) (c := bodyOf Tryd.f19) (nt := 11) (rs := [.cell 2 28]) (ts := [28]) (EnvC.sub tt_ok et_ok hf (PrsOk.nil _) (ItsOk.nil _) tt_L22_From_ok et_L22_From_ok) (PrOk.of mixed_ok) Go.Proofs.Tryd.func19 rfl (by decide) rfl rfl rfl (pureR_one (e := (.pair (.pair .bool (.pair (.int .i64) .unit)) (.pair (.pair (.sl (.int .i64)) (.pair (.sl (.int .i64)) .unit)) (.pair (.int .i64) .unit)))) rfl) ?_
  subst hfns
  intro x r hw hs
  repeat'
    (try (conv => whnf)
     first
       | (with_reducible have hs := letv_out hs)
       | (refine draw_and (by kernel_rfl) ?_)
       | (refine both_mk ?_ ?_)
       | (refine br_bool (fun h => ?_) (fun h => ?_) <;> first | have hs := cT h hs | have hs := cF h hs)
       | (refine bind_elim hs fun v hb hs => ?_; first | refine callK_liftG hG68 rfl hb ?_)
       | refine chk_elim hs fun hs => ?_
       | (have hs := letv_out hs)
       | exact fin_some hs rfl
       | (intro b hb; first | have hs := nilq_elim hs b hb | have hs := nilqn_elim hs b hb)
       | (have hs := cT rfl hs)
       | (have hs := cF rfl hs)
       | exact (none_ne hs).elim)
end Go.Proofs.YtkpobmmabmelfaaDoorV
