import Derived.Test.YtbkccpddkpclaaaVcTab
import Derived.Test.YtbkccpddkpclaaaDL18
import Derived.Test.YtbkccpddkpclaaaCR02
import Derived.Test.YtbkccpddkpclaaaCR18
import Derived.Test.YtbkccpddkpclaaaCchannel
namespace Go.Proofs.YtbkccpddkpclaaaV
open Go.Proofs
set_option linter.unusedVariables false
noncomputable def lf_L18_small : List AV → Option AV := liftF (.pair (.pair (.pair (.int .i64) (.pair (.int .i64) (.pair (.int .i64) (.pair (.int .i64) .unit)))) (.pair (.int .i64) (.pair (.sl (.int .i64)) (.pair (.pair .bool (.pair (.sl (.int .i64)) .unit)) (.pair (.sl (.int .i64)) (.pair (.pair .bool (.pair (.sl (.int .i64)) .unit)) .unit)))))) .unit) (unpack .bool) (fun x => L18_small x.1)
def tt_L18_small : List (Nat × Ty) := [(3, .int .i64), (4, .bool), (24, .sl (.int .i64)), (26, .pair .bool (.pair (.sl (.int .i64)) .unit)), (28, .pair (.pair (.int .i64) (.pair (.int .i64) (.pair (.int .i64) (.pair (.int .i64) .unit)))) (.pair (.int .i64) (.pair (.sl (.int .i64)) (.pair (.pair .bool (.pair (.sl (.int .i64)) .unit)) (.pair (.sl (.int .i64)) (.pair (.pair .bool (.pair (.sl (.int .i64)) .unit)) .unit))))))]
def et_L18_small : List (Nat × Nat) := [(24, 3)]
theorem tt_L18_small_ok : subT tt tt_L18_small = true := by kernel_rfl
theorem et_L18_small_ok : subE et et_L18_small = true := by kernel_rfl
noncomputable def E_L18_small (fns : List (Nat × (List AV → Option AV))) : Env := ⟨0, 0, et_L18_small, tt_L18_small, fns, [], [], [(0, [1]), (1, [2]), (4000000, [1]), (4000001, [])]⟩
set_option maxRecDepth 100000 in
set_option maxHeartbeats 40000000 in
theorem c_L18_small : PCon Go.Proofs.Try.prog 9 lf_L18_small := by
  obtain ⟨fns, hfns, hf⟩ : ∃ fns, fns = [] ∧ FnsOk Go.Proofs.Try.prog fns := ⟨_, rfl, FnsOk.nil _⟩
  refine lift_con (E := E_L18_small fns) (c := bodyOf Try.f9) (nt := 27) (rs := [.tmp 2]) (ts := [4]) (EnvC.sub tt_ok et_ok hf (PrsOk.nil _) tt_L18_small_ok et_L18_small_ok) (PrOk.of mixed_ok) Go.Proofs.Try.func9 rfl (by decide) rfl rfl rfl (pureR_one (e := .bool) rfl) ?_
  subst hfns
  intro x r hw hs
  repeat'
    (try (conv => whnf)
     first
       | (have hs := letv_out hs)
       | (refine draw_and (by kernel_rfl) ?_)
       | (refine both_mk ?_ ?_)
       | (refine br_bool (fun h => ?_) (fun h => ?_) <;> first | have hs := cT h hs | have hs := cF h hs)
       | refine chk_elim hs fun hs => ?_
       | exact fin_some hs rfl
       | (intro b hb; first | have hs := nilq_elim hs b hb | have hs := nilqn_elim hs b hb)
       | (have hs := cT rfl hs)
       | (have hs := cF rfl hs)
       | exact (none_ne hs).elim)
noncomputable def lf_L18_alive : List AV → Option AV := liftF .unit (unpack .bool) (fun x => L18_alive)
def tt_L18_alive : List (Nat × Ty) := [(3, .int .i64), (4, .bool), (23, .pair (.int .i64) (.pair (.int .i64) (.pair (.int .i64) (.pair (.int .i64) .unit)))), (24, .sl (.int .i64)), (31, .pair .bool (.pair (.sl (.int .i64)) .unit)), (33, .pair (.pair (.int .i64) (.pair (.int .i64) (.pair (.int .i64) (.pair (.int .i64) .unit)))) (.pair (.int .i64) (.pair (.sl (.int .i64)) (.pair (.pair .bool (.pair (.sl (.int .i64)) .unit)) (.pair (.sl (.int .i64)) (.pair (.pair .bool (.pair (.sl (.int .i64)) .unit)) .unit)))))), (35, .int .i64), (45, .pair (.int .i64) (.pair (.int .i64) (.pair (.int .i64) .unit)))]
def et_L18_alive : List (Nat × Nat) := [(24, 3)]
theorem tt_L18_alive_ok : subT tt tt_L18_alive = true := by kernel_rfl
theorem et_L18_alive_ok : subE et et_L18_alive = true := by kernel_rfl
noncomputable def E_L18_alive (fns : List (Nat × (List AV → Option AV))) : Env := ⟨0, 0, et_L18_alive, tt_L18_alive, fns, [], [], [(0, []), (1, [1, 2]), (2, [2, 3, 4]), (3, [2, 4, 5, 6]), (4, [2, 4, 5, 6, 8]), (5, [2, 4, 5, 6, 8, 9, 10, 11]), (6, [2, 4, 5, 6, 8, 9, 10, 11, 12, 13]), (7, [0]), (4000000, []), (4000001, [1]), (4000002, [3]), (4000003, [5]), (4000004, [5]), (4000005, [5, 9, 10]), (4000006, [5, 9, 10, 12]), (4000007, [])]⟩
set_option maxRecDepth 100000 in
set_option maxHeartbeats 40000000 in
theorem c_L18_alive : PCon Go.Proofs.Try.prog 10 lf_L18_alive := by
  obtain ⟨G12, hG12, cG12⟩ : ∃ G : ((.pair (.pair (.pair (.int .i64) (.pair (.int .i64) (.pair (.int .i64) (.pair (.int .i64) .unit)))) (.pair (.int .i64) (.pair (.sl (.int .i64)) (.pair (.pair .bool (.pair (.sl (.int .i64)) .unit)) (.pair (.sl (.int .i64)) (.pair (.pair .bool (.pair (.sl (.int .i64)) .unit)) .unit)))))) (.pair (.int .i64) (.pair (.int .i64) .unit))) : Ty).den → Option (((Int × Int × Int × Int × Unit) × Int × (List Int) × (Bool × (List Int) × Unit) × (List Int) × (Bool × (List Int) × Unit) × Unit) × Int × Unit), (∀ x, G x = channel_Send x.1 x.2.1 x.2.2.1) ∧ PCon Go.Proofs.Try.prog 12 (liftF (.pair (.pair (.pair (.int .i64) (.pair (.int .i64) (.pair (.int .i64) (.pair (.int .i64) .unit)))) (.pair (.int .i64) (.pair (.sl (.int .i64)) (.pair (.pair .bool (.pair (.sl (.int .i64)) .unit)) (.pair (.sl (.int .i64)) (.pair (.pair .bool (.pair (.sl (.int .i64)) .unit)) .unit)))))) (.pair (.int .i64) (.pair (.int .i64) .unit))) (unpR (.pair (.pair (.pair (.int .i64) (.pair (.int .i64) (.pair (.int .i64) (.pair (.int .i64) .unit)))) (.pair (.int .i64) (.pair (.sl (.int .i64)) (.pair (.pair .bool (.pair (.sl (.int .i64)) .unit)) (.pair (.sl (.int .i64)) (.pair (.pair .bool (.pair (.sl (.int .i64)) .unit)) .unit)))))) (.pair (.int .i64) .unit))) G) := ⟨_, fun _ => rfl, c_channel_Send⟩
  obtain ⟨G14, hG14, cG14⟩ : ∃ G : ((.pair (.pair (.pair (.int .i64) (.pair (.int .i64) (.pair (.int .i64) (.pair (.int .i64) .unit)))) (.pair (.int .i64) (.pair (.sl (.int .i64)) (.pair (.pair .bool (.pair (.sl (.int .i64)) .unit)) (.pair (.sl (.int .i64)) (.pair (.pair .bool (.pair (.sl (.int .i64)) .unit)) .unit)))))) (.pair (.int .i64) .unit)) : Ty).den → Option (((Int × Int × Int × Int × Unit) × Int × (List Int) × (Bool × (List Int) × Unit) × (List Int) × (Bool × (List Int) × Unit) × Unit) × Int × Unit), (∀ x, G x = channel_Recv x.1 x.2.1) ∧ PCon Go.Proofs.Try.prog 14 (liftF (.pair (.pair (.pair (.int .i64) (.pair (.int .i64) (.pair (.int .i64) (.pair (.int .i64) .unit)))) (.pair (.int .i64) (.pair (.sl (.int .i64)) (.pair (.pair .bool (.pair (.sl (.int .i64)) .unit)) (.pair (.sl (.int .i64)) (.pair (.pair .bool (.pair (.sl (.int .i64)) .unit)) .unit)))))) (.pair (.int .i64) .unit)) (unpR (.pair (.pair (.pair (.int .i64) (.pair (.int .i64) (.pair (.int .i64) (.pair (.int .i64) .unit)))) (.pair (.int .i64) (.pair (.sl (.int .i64)) (.pair (.pair .bool (.pair (.sl (.int .i64)) .unit)) (.pair (.sl (.int .i64)) (.pair (.pair .bool (.pair (.sl (.int .i64)) .unit)) .unit)))))) (.pair (.int .i64) .unit))) G) := ⟨_, fun _ => rfl, c_channel_Recv⟩
  obtain ⟨G16, hG16, cG16⟩ : ∃ G : ((.pair (.pair (.pair (.int .i64) (.pair (.int .i64) (.pair (.int .i64) (.pair (.int .i64) .unit)))) (.pair (.int .i64) (.pair (.sl (.int .i64)) (.pair (.pair .bool (.pair (.sl (.int .i64)) .unit)) (.pair (.sl (.int .i64)) (.pair (.pair .bool (.pair (.sl (.int .i64)) .unit)) .unit)))))) (.pair (.int .i64) .unit)) : Ty).den → Option (((Int × Int × Int × Int × Unit) × Int × (List Int) × (Bool × (List Int) × Unit) × (List Int) × (Bool × (List Int) × Unit) × Unit) × Int × Unit), (∀ x, G x = channel_Poison x.1 x.2.1) ∧ PCon Go.Proofs.Try.prog 16 (liftF (.pair (.pair (.pair (.int .i64) (.pair (.int .i64) (.pair (.int .i64) (.pair (.int .i64) .unit)))) (.pair (.int .i64) (.pair (.sl (.int .i64)) (.pair (.pair .bool (.pair (.sl (.int .i64)) .unit)) (.pair (.sl (.int .i64)) (.pair (.pair .bool (.pair (.sl (.int .i64)) .unit)) .unit)))))) (.pair (.int .i64) .unit)) (unpR (.pair (.pair (.pair (.int .i64) (.pair (.int .i64) (.pair (.int .i64) (.pair (.int .i64) .unit)))) (.pair (.int .i64) (.pair (.sl (.int .i64)) (.pair (.pair .bool (.pair (.sl (.int .i64)) .unit)) (.pair (.sl (.int .i64)) (.pair (.pair .bool (.pair (.sl (.int .i64)) .unit)) .unit)))))) (.pair (.int .i64) .unit))) G) := ⟨_, fun _ => rfl, c_channel_Poison⟩
  obtain ⟨G20, hG20, cG20⟩ : ∃ G : ((.pair (.pair (.pair (.int .i64) (.pair (.int .i64) (.pair (.int .i64) (.pair (.int .i64) .unit)))) (.pair (.int .i64) (.pair (.sl (.int .i64)) (.pair (.pair .bool (.pair (.sl (.int .i64)) .unit)) (.pair (.sl (.int .i64)) (.pair (.pair .bool (.pair (.sl (.int .i64)) .unit)) .unit)))))) (.pair (.int .i64) .unit)) : Ty).den → Option (((Int × Int × Int × Int × Unit) × Int × (List Int) × (Bool × (List Int) × Unit) × (List Int) × (Bool × (List Int) × Unit) × Unit) × (Int × Int × Int × Unit) × Int × Unit), (∀ x, G x = channel_Do x.1 x.2.1) ∧ PCon Go.Proofs.Try.prog 20 (liftF (.pair (.pair (.pair (.int .i64) (.pair (.int .i64) (.pair (.int .i64) (.pair (.int .i64) .unit)))) (.pair (.int .i64) (.pair (.sl (.int .i64)) (.pair (.pair .bool (.pair (.sl (.int .i64)) .unit)) (.pair (.sl (.int .i64)) (.pair (.pair .bool (.pair (.sl (.int .i64)) .unit)) .unit)))))) (.pair (.int .i64) .unit)) (unpR (.pair (.pair (.pair (.int .i64) (.pair (.int .i64) (.pair (.int .i64) (.pair (.int .i64) .unit)))) (.pair (.int .i64) (.pair (.sl (.int .i64)) (.pair (.pair .bool (.pair (.sl (.int .i64)) .unit)) (.pair (.sl (.int .i64)) (.pair (.pair .bool (.pair (.sl (.int .i64)) .unit)) .unit)))))) (.pair (.pair (.int .i64) (.pair (.int .i64) (.pair (.int .i64) .unit))) (.pair (.int .i64) .unit)))) G) := ⟨_, fun _ => rfl, c_channel_Do⟩
  obtain ⟨G22, hG22, cG22⟩ : ∃ G : ((.pair (.pair (.int .i64) (.pair (.int .i64) (.pair (.int .i64) (.pair (.int .i64) .unit)))) .unit) : Ty).den → Option (((Int × Int × Int × Int × Unit) × Int × (List Int) × (Bool × (List Int) × Unit) × (List Int) × (Bool × (List Int) × Unit) × Unit) × Int × Unit), (∀ x, G x = channel_New x.1) ∧ PCon Go.Proofs.Try.prog 22 (liftF (.pair (.pair (.int .i64) (.pair (.int .i64) (.pair (.int .i64) (.pair (.int .i64) .unit)))) .unit) (unpR (.pair (.pair (.pair (.int .i64) (.pair (.int .i64) (.pair (.int .i64) (.pair (.int .i64) .unit)))) (.pair (.int .i64) (.pair (.sl (.int .i64)) (.pair (.pair .bool (.pair (.sl (.int .i64)) .unit)) (.pair (.sl (.int .i64)) (.pair (.pair .bool (.pair (.sl (.int .i64)) .unit)) .unit)))))) (.pair (.int .i64) .unit))) G) := ⟨_, fun _ => rfl, c_channel_New⟩
  obtain ⟨G23, hG23, cG23⟩ : ∃ G : ((.pair (.pair (.pair (.int .i64) (.pair (.int .i64) (.pair (.int .i64) (.pair (.int .i64) .unit)))) (.pair (.int .i64) (.pair (.sl (.int .i64)) (.pair (.pair .bool (.pair (.sl (.int .i64)) .unit)) (.pair (.sl (.int .i64)) (.pair (.pair .bool (.pair (.sl (.int .i64)) .unit)) .unit)))))) .unit) : Ty).den → Option Bool, (∀ x, G x = channel_Fine x.1) ∧ PCon Go.Proofs.Try.prog 23 (liftF (.pair (.pair (.pair (.int .i64) (.pair (.int .i64) (.pair (.int .i64) (.pair (.int .i64) .unit)))) (.pair (.int .i64) (.pair (.sl (.int .i64)) (.pair (.pair .bool (.pair (.sl (.int .i64)) .unit)) (.pair (.sl (.int .i64)) (.pair (.pair .bool (.pair (.sl (.int .i64)) .unit)) .unit)))))) .unit) (unpack .bool) G) := ⟨_, fun _ => rfl, c_channel_Fine⟩
  obtain ⟨G26, hG26, cG26⟩ : ∃ G : ((.pair (.pair (.int .i64) (.pair (.int .i64) (.pair (.int .i64) (.pair (.int .i64) .unit)))) .unit) : Ty).den → Option Int, (∀ x, G x = channel_Check x.1) ∧ PCon Go.Proofs.Try.prog 26 (liftF (.pair (.pair (.int .i64) (.pair (.int .i64) (.pair (.int .i64) (.pair (.int .i64) .unit)))) .unit) (unpack (.int .i64)) G) := ⟨_, fun _ => rfl, c_channel_Check⟩
  obtain ⟨G29, hG29, cG29⟩ : ∃ G : ((.pair (.pair (.pair (.int .i64) (.pair (.int .i64) (.pair (.int .i64) (.pair (.int .i64) .unit)))) (.pair (.int .i64) (.pair (.sl (.int .i64)) (.pair (.pair .bool (.pair (.sl (.int .i64)) .unit)) (.pair (.sl (.int .i64)) (.pair (.pair .bool (.pair (.sl (.int .i64)) .unit)) .unit)))))) (.pair (.int .i64) .unit)) : Ty).den → Option Bool, (∀ x, G x = channel_Hit x.1 x.2.1) ∧ PCon Go.Proofs.Try.prog 29 (liftF (.pair (.pair (.pair (.int .i64) (.pair (.int .i64) (.pair (.int .i64) (.pair (.int .i64) .unit)))) (.pair (.int .i64) (.pair (.sl (.int .i64)) (.pair (.pair .bool (.pair (.sl (.int .i64)) .unit)) (.pair (.sl (.int .i64)) (.pair (.pair .bool (.pair (.sl (.int .i64)) .unit)) .unit)))))) (.pair (.int .i64) .unit)) (unpack .bool) G) := ⟨_, fun _ => rfl, c_channel_Hit⟩
  obtain ⟨G31, hG31, cG31⟩ : ∃ G : ((.pair (.pair (.pair (.int .i64) (.pair (.int .i64) (.pair (.int .i64) (.pair (.int .i64) .unit)))) (.pair (.int .i64) (.pair (.sl (.int .i64)) (.pair (.pair .bool (.pair (.sl (.int .i64)) .unit)) (.pair (.sl (.int .i64)) (.pair (.pair .bool (.pair (.sl (.int .i64)) .unit)) .unit)))))) .unit) : Ty).den → Option (List Int), (∀ x, G x = channel_What x.1) ∧ PCon Go.Proofs.Try.prog 31 (liftF (.pair (.pair (.pair (.int .i64) (.pair (.int .i64) (.pair (.int .i64) (.pair (.int .i64) .unit)))) (.pair (.int .i64) (.pair (.sl (.int .i64)) (.pair (.pair .bool (.pair (.sl (.int .i64)) .unit)) (.pair (.sl (.int .i64)) (.pair (.pair .bool (.pair (.sl (.int .i64)) .unit)) .unit)))))) .unit) (unpack (.sl (.int .i64))) G) := ⟨_, fun _ => rfl, c_channel_What⟩
  obtain ⟨fns, hfns, hf⟩ : ∃ fns, fns = [(12, liftF (.pair (.pair (.pair (.int .i64) (.pair (.int .i64) (.pair (.int .i64) (.pair (.int .i64) .unit)))) (.pair (.int .i64) (.pair (.sl (.int .i64)) (.pair (.pair .bool (.pair (.sl (.int .i64)) .unit)) (.pair (.sl (.int .i64)) (.pair (.pair .bool (.pair (.sl (.int .i64)) .unit)) .unit)))))) (.pair (.int .i64) (.pair (.int .i64) .unit))) (unpR (.pair (.pair (.pair (.int .i64) (.pair (.int .i64) (.pair (.int .i64) (.pair (.int .i64) .unit)))) (.pair (.int .i64) (.pair (.sl (.int .i64)) (.pair (.pair .bool (.pair (.sl (.int .i64)) .unit)) (.pair (.sl (.int .i64)) (.pair (.pair .bool (.pair (.sl (.int .i64)) .unit)) .unit)))))) (.pair (.int .i64) .unit))) G12), (14, liftF (.pair (.pair (.pair (.int .i64) (.pair (.int .i64) (.pair (.int .i64) (.pair (.int .i64) .unit)))) (.pair (.int .i64) (.pair (.sl (.int .i64)) (.pair (.pair .bool (.pair (.sl (.int .i64)) .unit)) (.pair (.sl (.int .i64)) (.pair (.pair .bool (.pair (.sl (.int .i64)) .unit)) .unit)))))) (.pair (.int .i64) .unit)) (unpR (.pair (.pair (.pair (.int .i64) (.pair (.int .i64) (.pair (.int .i64) (.pair (.int .i64) .unit)))) (.pair (.int .i64) (.pair (.sl (.int .i64)) (.pair (.pair .bool (.pair (.sl (.int .i64)) .unit)) (.pair (.sl (.int .i64)) (.pair (.pair .bool (.pair (.sl (.int .i64)) .unit)) .unit)))))) (.pair (.int .i64) .unit))) G14), (16, liftF (.pair (.pair (.pair (.int .i64) (.pair (.int .i64) (.pair (.int .i64) (.pair (.int .i64) .unit)))) (.pair (.int .i64) (.pair (.sl (.int .i64)) (.pair (.pair .bool (.pair (.sl (.int .i64)) .unit)) (.pair (.sl (.int .i64)) (.pair (.pair .bool (.pair (.sl (.int .i64)) .unit)) .unit)))))) (.pair (.int .i64) .unit)) (unpR (.pair (.pair (.pair (.int .i64) (.pair (.int .i64) (.pair (.int .i64) (.pair (.int .i64) .unit)))) (.pair (.int .i64) (.pair (.sl (.int .i64)) (.pair (.pair .bool (.pair (.sl (.int .i64)) .unit)) (.pair (.sl (.int .i64)) (.pair (.pair .bool (.pair (.sl (.int .i64)) .unit)) .unit)))))) (.pair (.int .i64) .unit))) G16), (20, liftF (.pair (.pair (.pair (.int .i64) (.pair (.int .i64) (.pair (.int .i64) (.pair (.int .i64) .unit)))) (.pair (.int .i64) (.pair (.sl (.int .i64)) (.pair (.pair .bool (.pair (.sl (.int .i64)) .unit)) (.pair (.sl (.int .i64)) (.pair (.pair .bool (.pair (.sl (.int .i64)) .unit)) .unit)))))) (.pair (.int .i64) .unit)) (unpR (.pair (.pair (.pair (.int .i64) (.pair (.int .i64) (.pair (.int .i64) (.pair (.int .i64) .unit)))) (.pair (.int .i64) (.pair (.sl (.int .i64)) (.pair (.pair .bool (.pair (.sl (.int .i64)) .unit)) (.pair (.sl (.int .i64)) (.pair (.pair .bool (.pair (.sl (.int .i64)) .unit)) .unit)))))) (.pair (.pair (.int .i64) (.pair (.int .i64) (.pair (.int .i64) .unit))) (.pair (.int .i64) .unit)))) G20), (22, liftF (.pair (.pair (.int .i64) (.pair (.int .i64) (.pair (.int .i64) (.pair (.int .i64) .unit)))) .unit) (unpR (.pair (.pair (.pair (.int .i64) (.pair (.int .i64) (.pair (.int .i64) (.pair (.int .i64) .unit)))) (.pair (.int .i64) (.pair (.sl (.int .i64)) (.pair (.pair .bool (.pair (.sl (.int .i64)) .unit)) (.pair (.sl (.int .i64)) (.pair (.pair .bool (.pair (.sl (.int .i64)) .unit)) .unit)))))) (.pair (.int .i64) .unit))) G22), (23, liftF (.pair (.pair (.pair (.int .i64) (.pair (.int .i64) (.pair (.int .i64) (.pair (.int .i64) .unit)))) (.pair (.int .i64) (.pair (.sl (.int .i64)) (.pair (.pair .bool (.pair (.sl (.int .i64)) .unit)) (.pair (.sl (.int .i64)) (.pair (.pair .bool (.pair (.sl (.int .i64)) .unit)) .unit)))))) .unit) (unpack .bool) G23), (26, liftF (.pair (.pair (.int .i64) (.pair (.int .i64) (.pair (.int .i64) (.pair (.int .i64) .unit)))) .unit) (unpack (.int .i64)) G26), (29, liftF (.pair (.pair (.pair (.int .i64) (.pair (.int .i64) (.pair (.int .i64) (.pair (.int .i64) .unit)))) (.pair (.int .i64) (.pair (.sl (.int .i64)) (.pair (.pair .bool (.pair (.sl (.int .i64)) .unit)) (.pair (.sl (.int .i64)) (.pair (.pair .bool (.pair (.sl (.int .i64)) .unit)) .unit)))))) (.pair (.int .i64) .unit)) (unpack .bool) G29), (31, liftF (.pair (.pair (.pair (.int .i64) (.pair (.int .i64) (.pair (.int .i64) (.pair (.int .i64) .unit)))) (.pair (.int .i64) (.pair (.sl (.int .i64)) (.pair (.pair .bool (.pair (.sl (.int .i64)) .unit)) (.pair (.sl (.int .i64)) (.pair (.pair .bool (.pair (.sl (.int .i64)) .unit)) .unit)))))) .unit) (unpack (.sl (.int .i64))) G31)] ∧ FnsOk Go.Proofs.Try.prog fns := ⟨_, rfl, FnsOk.cons cG12 (FnsOk.cons cG14 (FnsOk.cons cG16 (FnsOk.cons cG20 (FnsOk.cons cG22 (FnsOk.cons cG23 (FnsOk.cons cG26 (FnsOk.cons cG29 (FnsOk.cons cG31 (FnsOk.nil _)))))))))⟩
  refine lift_con (E := E_L18_alive fns) (c := bodyOf Try.f10) (nt := 122) (rs := [.tmp 0]) (ts := [4]) (EnvC.sub tt_ok et_ok hf (PrsOk.nil _) tt_L18_alive_ok et_L18_alive_ok) (PrOk.of mixed_ok) Go.Proofs.Try.func10 rfl (by decide) rfl rfl rfl (pureR_one (e := .bool) rfl) ?_
  subst hfns
  intro x r hw hs
  repeat'
    (try (conv => whnf)
     first
       | (have hs := letv_out hs)
       | (refine draw_and (by kernel_rfl) ?_)
       | (refine both_mk ?_ ?_)
       | (refine br_bool (fun h => ?_) (fun h => ?_) <;> first | have hs := cT h hs | have hs := cF h hs)
       | (refine bind_elim hs fun v hb hs => ?_; first | refine callK_liftG hG12 rfl hb ?_ | refine callK_liftG hG14 rfl hb ?_ | refine callK_liftG hG16 rfl hb ?_ | refine callK_liftG hG20 rfl hb ?_ | refine callK_liftG hG22 rfl hb ?_ | refine callK_liftG hG23 rfl hb ?_ | refine callK_liftG hG26 rfl hb ?_ | refine callK_liftG hG29 rfl hb ?_ | refine callK_liftG hG31 rfl hb ?_)
       | refine chk_elim hs fun hs => ?_
       | exact fin_some hs rfl
       | (intro b hb; first | have hs := nilq_elim hs b hb | have hs := nilqn_elim hs b hb)
       | (have hs := cT rfl hs)
       | (have hs := cF rfl hs)
       | exact (none_ne hs).elim)
noncomputable def lf_L18_To : List AV → Option AV := liftF (.pair (.pair (.pair (.int .i64) (.pair (.int .i64) (.pair (.int .i64) (.pair (.int .i64) .unit)))) (.pair (.int .i64) (.pair (.sl (.int .i64)) (.pair (.pair .bool (.pair (.sl (.int .i64)) .unit)) (.pair (.sl (.int .i64)) (.pair (.pair .bool (.pair (.sl (.int .i64)) .unit)) .unit)))))) .unit) (unpack (.pair (.pair (.int .i64) (.pair (.int .i64) (.pair (.int .i64) (.pair (.int .i64) .unit)))) (.pair (.int .i64) (.pair (.sl (.int .i64)) (.pair (.pair .bool (.pair (.sl (.int .i64)) .unit)) (.pair (.sl (.int .i64)) (.pair (.pair .bool (.pair (.sl (.int .i64)) .unit)) .unit))))))) (fun x => L18_To x.1)
def tt_L18_To : List (Nat × Ty) := [(3, .int .i64), (23, .pair (.int .i64) (.pair (.int .i64) (.pair (.int .i64) (.pair (.int .i64) .unit)))), (24, .sl (.int .i64)), (26, .pair .bool (.pair (.sl (.int .i64)) .unit)), (28, .pair (.pair (.int .i64) (.pair (.int .i64) (.pair (.int .i64) (.pair (.int .i64) .unit)))) (.pair (.int .i64) (.pair (.sl (.int .i64)) (.pair (.pair .bool (.pair (.sl (.int .i64)) .unit)) (.pair (.sl (.int .i64)) (.pair (.pair .bool (.pair (.sl (.int .i64)) .unit)) .unit)))))), (33, .pair (.pair (.int .i64) (.pair (.int .i64) (.pair (.int .i64) (.pair (.int .i64) .unit)))) (.pair (.int .i64) (.pair (.sl (.int .i64)) (.pair (.pair .bool (.pair (.sl (.int .i64)) .unit)) (.pair (.sl (.int .i64)) (.pair (.pair .bool (.pair (.sl (.int .i64)) .unit)) .unit))))))]
def et_L18_To : List (Nat × Nat) := [(24, 3)]
theorem tt_L18_To_ok : subT tt tt_L18_To = true := by kernel_rfl
theorem et_L18_To_ok : subE et et_L18_To = true := by kernel_rfl
noncomputable def E_L18_To (fns : List (Nat × (List AV → Option AV))) : Env := ⟨0, 0, et_L18_To, tt_L18_To, fns, [], [], [(0, [1, 2]), (1, [2]), (4000000, [1, 2]), (4000001, [2])]⟩
set_option maxRecDepth 100000 in
set_option maxHeartbeats 40000000 in
theorem c_L18_To : PCon Go.Proofs.Try.prog 11 lf_L18_To := by
  obtain ⟨fns, hfns, hf⟩ : ∃ fns, fns = [] ∧ FnsOk Go.Proofs.Try.prog fns := ⟨_, rfl, FnsOk.nil _⟩
  refine lift_con (E := E_L18_To fns) (c := bodyOf Try.f11) (nt := 16) (rs := [.cell 2 33]) (ts := [33]) (EnvC.sub tt_ok et_ok hf (PrsOk.nil _) tt_L18_To_ok et_L18_To_ok) (PrOk.of mixed_ok) Go.Proofs.Try.func11 rfl (by decide) rfl rfl rfl (pureR_one (e := (.pair (.pair (.int .i64) (.pair (.int .i64) (.pair (.int .i64) (.pair (.int .i64) .unit)))) (.pair (.int .i64) (.pair (.sl (.int .i64)) (.pair (.pair .bool (.pair (.sl (.int .i64)) .unit)) (.pair (.sl (.int .i64)) (.pair (.pair .bool (.pair (.sl (.int .i64)) .unit)) .unit))))))) rfl) ?_
  subst hfns
  intro x r hw hs
  repeat'
    (try (conv => whnf)
     first
       | (have hs := letv_out hs)
       | (refine draw_and (by kernel_rfl) ?_)
       | (refine both_mk ?_ ?_)
       | (refine br_bool (fun h => ?_) (fun h => ?_) <;> first | have hs := cT h hs | have hs := cF h hs)
       | refine chk_elim hs fun hs => ?_
       | exact fin_some hs rfl
       | (intro b hb; first | have hs := nilq_elim hs b hb | have hs := nilqn_elim hs b hb)
       | (have hs := cT rfl hs)
       | (have hs := cF rfl hs)
       | exact (none_ne hs).elim)
noncomputable def lf_L18_Same : List AV → Option AV := liftF (.pair (.pair (.pair (.int .i64) (.pair (.int .i64) (.pair (.int .i64) (.pair (.int .i64) .unit)))) (.pair (.int .i64) (.pair (.sl (.int .i64)) (.pair (.pair .bool (.pair (.sl (.int .i64)) .unit)) (.pair (.sl (.int .i64)) (.pair (.pair .bool (.pair (.sl (.int .i64)) .unit)) .unit)))))) (.pair (.pair (.pair (.int .i64) (.pair (.int .i64) (.pair (.int .i64) (.pair (.int .i64) .unit)))) (.pair (.int .i64) (.pair (.sl (.int .i64)) (.pair (.pair .bool (.pair (.sl (.int .i64)) .unit)) (.pair (.sl (.int .i64)) (.pair (.pair .bool (.pair (.sl (.int .i64)) .unit)) .unit)))))) .unit)) (unpack .bool) (fun x => L18_Same x.1 x.2.1)
def tt_L18_Same : List (Nat × Ty) := [(3, .int .i64), (4, .bool), (23, .pair (.int .i64) (.pair (.int .i64) (.pair (.int .i64) (.pair (.int .i64) .unit)))), (24, .sl (.int .i64)), (26, .pair .bool (.pair (.sl (.int .i64)) .unit)), (28, .pair (.pair (.int .i64) (.pair (.int .i64) (.pair (.int .i64) (.pair (.int .i64) .unit)))) (.pair (.int .i64) (.pair (.sl (.int .i64)) (.pair (.pair .bool (.pair (.sl (.int .i64)) .unit)) (.pair (.sl (.int .i64)) (.pair (.pair .bool (.pair (.sl (.int .i64)) .unit)) .unit))))))]
def et_L18_Same : List (Nat × Nat) := [(24, 3)]
theorem tt_L18_Same_ok : subT tt tt_L18_Same = true := by kernel_rfl
theorem et_L18_Same_ok : subE et et_L18_Same = true := by kernel_rfl
noncomputable def E_L18_Same (fns : List (Nat × (List AV → Option AV))) : Env := ⟨0, 0, et_L18_Same, tt_L18_Same, fns, [], [], [(0, [2, 3]), (1, [4]), (4000000, [2, 3]), (4000001, [])]⟩
set_option maxRecDepth 100000 in
set_option maxHeartbeats 40000000 in
theorem c_L18_Same : PCon Go.Proofs.Try.prog 18 lf_L18_Same := by
  obtain ⟨G24, hG24, cG24⟩ : ∃ G : ((.pair (.sl (.int .i64)) (.pair (.sl (.int .i64)) .unit)) : Ty).den → Option Bool, (∀ x, G x = R02_Same x.1 x.2.1) ∧ PCon Go.Proofs.Try.prog 24 (liftF (.pair (.sl (.int .i64)) (.pair (.sl (.int .i64)) .unit)) (unpack .bool) G) := ⟨_, fun _ => rfl, c_R02_Same⟩
  obtain ⟨fns, hfns, hf⟩ : ∃ fns, fns = [(24, liftF (.pair (.sl (.int .i64)) (.pair (.sl (.int .i64)) .unit)) (unpack .bool) G24)] ∧ FnsOk Go.Proofs.Try.prog fns := ⟨_, rfl, FnsOk.cons cG24 (FnsOk.nil _)⟩
  refine lift_con (E := E_L18_Same fns) (c := bodyOf Try.f18) (nt := 67) (rs := [.tmp 4]) (ts := [4]) (EnvC.sub tt_ok et_ok hf (PrsOk.nil _) tt_L18_Same_ok et_L18_Same_ok) (PrOk.of mixed_ok) Go.Proofs.Try.func18 rfl (by decide) rfl rfl rfl (pureR_one (e := .bool) rfl) ?_
  subst hfns
  intro x r hw hs
  repeat'
    (try (conv => whnf)
     first
       | (have hs := letv_out hs)
       | (refine draw_and (by kernel_rfl) ?_)
       | (refine both_mk ?_ ?_)
       | (refine br_bool (fun h => ?_) (fun h => ?_) <;> first | have hs := cT h hs | have hs := cF h hs)
       | (refine bind_elim hs fun v hb hs => ?_; first | refine callK_liftG hG24 rfl hb ?_)
       | refine chk_elim hs fun hs => ?_
       | exact fin_some hs rfl
       | (intro b hb; first | have hs := nilq_elim hs b hb | have hs := nilqn_elim hs b hb)
       | (have hs := cT rfl hs)
       | (have hs := cF rfl hs)
       | exact (none_ne hs).elim)
noncomputable def lf_L18_From : List AV → Option AV := liftF (.pair (.pair (.pair (.int .i64) (.pair (.int .i64) (.pair (.int .i64) (.pair (.int .i64) .unit)))) (.pair (.int .i64) (.pair (.sl (.int .i64)) (.pair (.pair .bool (.pair (.sl (.int .i64)) .unit)) (.pair (.sl (.int .i64)) (.pair (.pair .bool (.pair (.sl (.int .i64)) .unit)) .unit)))))) .unit) (unpack (.pair (.pair (.int .i64) (.pair (.int .i64) (.pair (.int .i64) (.pair (.int .i64) .unit)))) (.pair (.int .i64) (.pair (.sl (.int .i64)) (.pair (.pair .bool (.pair (.sl (.int .i64)) .unit)) (.pair (.sl (.int .i64)) (.pair (.pair .bool (.pair (.sl (.int .i64)) .unit)) .unit))))))) (fun x => L18_From x.1)
def tt_L18_From : List (Nat × Ty) := [(3, .int .i64), (23, .pair (.int .i64) (.pair (.int .i64) (.pair (.int .i64) (.pair (.int .i64) .unit)))), (24, .sl (.int .i64)), (28, .pair (.pair (.int .i64) (.pair (.int .i64) (.pair (.int .i64) (.pair (.int .i64) .unit)))) (.pair (.int .i64) (.pair (.sl (.int .i64)) (.pair (.pair .bool (.pair (.sl (.int .i64)) .unit)) (.pair (.sl (.int .i64)) (.pair (.pair .bool (.pair (.sl (.int .i64)) .unit)) .unit)))))), (31, .pair .bool (.pair (.sl (.int .i64)) .unit)), (33, .pair (.pair (.int .i64) (.pair (.int .i64) (.pair (.int .i64) (.pair (.int .i64) .unit)))) (.pair (.int .i64) (.pair (.sl (.int .i64)) (.pair (.pair .bool (.pair (.sl (.int .i64)) .unit)) (.pair (.sl (.int .i64)) (.pair (.pair .bool (.pair (.sl (.int .i64)) .unit)) .unit))))))]
def et_L18_From : List (Nat × Nat) := [(24, 3)]
theorem tt_L18_From_ok : subT tt tt_L18_From = true := by kernel_rfl
theorem et_L18_From_ok : subE et et_L18_From = true := by kernel_rfl
noncomputable def E_L18_From (fns : List (Nat × (List AV → Option AV))) : Env := ⟨0, 0, et_L18_From, tt_L18_From, fns, [], [], [(0, [1, 2]), (1, [2]), (4000000, [1, 2]), (4000001, [2])]⟩
set_option maxRecDepth 100000 in
set_option maxHeartbeats 40000000 in
theorem c_L18_From : PCon Go.Proofs.Try.prog 19 lf_L18_From := by
  obtain ⟨fns, hfns, hf⟩ : ∃ fns, fns = [] ∧ FnsOk Go.Proofs.Try.prog fns := ⟨_, rfl, FnsOk.nil _⟩
  refine lift_con (E := E_L18_From fns) (c := bodyOf Try.f19) (nt := 16) (rs := [.cell 2 28]) (ts := [28]) (EnvC.sub tt_ok et_ok hf (PrsOk.nil _) tt_L18_From_ok et_L18_From_ok) (PrOk.of mixed_ok) Go.Proofs.Try.func19 rfl (by decide) rfl rfl rfl (pureR_one (e := (.pair (.pair (.int .i64) (.pair (.int .i64) (.pair (.int .i64) (.pair (.int .i64) .unit)))) (.pair (.int .i64) (.pair (.sl (.int .i64)) (.pair (.pair .bool (.pair (.sl (.int .i64)) .unit)) (.pair (.sl (.int .i64)) (.pair (.pair .bool (.pair (.sl (.int .i64)) .unit)) .unit))))))) rfl) ?_
  subst hfns
  intro x r hw hs
  repeat'
    (try (conv => whnf)
     first
       | (have hs := letv_out hs)
       | (refine draw_and (by kernel_rfl) ?_)
       | (refine both_mk ?_ ?_)
       | (refine br_bool (fun h => ?_) (fun h => ?_) <;> first | have hs := cT h hs | have hs := cF h hs)
       | refine chk_elim hs fun hs => ?_
       | exact fin_some hs rfl
       | (intro b hb; first | have hs := nilq_elim hs b hb | have hs := nilqn_elim hs b hb)
       | (have hs := cT rfl hs)
       | (have hs := cF rfl hs)
       | exact (none_ne hs).elim)
end Go.Proofs.YtbkccpddkpclaaaV
