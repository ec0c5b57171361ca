import Derived.Test.YtkpobmmabmelfaaDoorVcTab
import Derived.Test.YtkpobmmabmelfaaDoorDDBar
import Derived.Test.YtkpobmmabmelfaaDoorCphase
import Derived.Test.YtkpobmmabmelfaaDoorCroll
namespace Go.Proofs.YtkpobmmabmelfaaDoorV
open Go.Proofs
set_option linter.unusedVariables false
noncomputable def lf_barrier_Fine : List AV → Option AV := liftF (.pair (.pair (.pair .bool (.pair (.int .i64) .unit)) (.pair (.pair (.arr 4 (.int .u64)) (.pair (.arr 4 (.int .u64)) .unit)) (.pair (.int .i64) .unit))) .unit) (unpack .bool) (fun x => barrier_Fine x.1)
def tt_barrier_Fine : List (Nat × Ty) := [(3, .int .i64), (4, .bool), (23, .pair .bool (.pair (.int .i64) .unit)), (36, .pair (.arr 4 (.int .u64)) (.pair (.arr 4 (.int .u64)) .unit)), (38, .pair (.pair .bool (.pair (.int .i64) .unit)) (.pair (.pair (.arr 4 (.int .u64)) (.pair (.arr 4 (.int .u64)) .unit)) (.pair (.int .i64) .unit)))]
def et_barrier_Fine : List (Nat × Nat) := []
theorem tt_barrier_Fine_ok : subT tt tt_barrier_Fine = true := by kernel_rfl
theorem et_barrier_Fine_ok : subE et et_barrier_Fine = true := by kernel_rfl
def kp_barrier_Fine : List (Nat × List Nat) := [(0, [1]), (1, [2]), (4000000, [1]), (4000001, [])]
def od_barrier_Fine : List (Nat × Ord) := []
noncomputable def E_barrier_Fine (fns : List (Nat × (List AV → Option AV))) : Env := ⟨0, 0, et_barrier_Fine, tt_barrier_Fine, fns, [], od_barrier_Fine, kp_barrier_Fine, none, []⟩
set_option maxRecDepth 100000 in
set_option maxHeartbeats 40000000 in
theorem c_barrier_Fine : PCon Go.Proofs.Tryd.prog 31 lf_barrier_Fine := by
  obtain ⟨G78, hG78, cG78⟩ : ∃ G : ((.pair (.int .i64) (.pair (.int .i64) .unit)) : Ty).den → Option Bool, (∀ x, G x = phase_Fine x.1 x.2.1) ∧ PCon Go.Proofs.Tryd.prog 78 (liftF (.pair (.int .i64) (.pair (.int .i64) .unit)) (unpack .bool) G) := ⟨_, fun _ => rfl, c_phase_Fine⟩
  obtain ⟨G79, hG79, cG79⟩ : ∃ G : ((.pair (.pair (.arr 4 (.int .u64)) (.pair (.arr 4 (.int .u64)) .unit)) .unit) : Ty).den → Option Bool, (∀ x, G x = roll_Fine x.1) ∧ PCon Go.Proofs.Tryd.prog 79 (liftF (.pair (.pair (.arr 4 (.int .u64)) (.pair (.arr 4 (.int .u64)) .unit)) .unit) (unpack .bool) G) := ⟨_, fun _ => rfl, c_roll_Fine⟩
  obtain ⟨fns, hfns, hf⟩ : ∃ fns, fns = [(78, liftF (.pair (.int .i64) (.pair (.int .i64) .unit)) (unpack .bool) G78), (79, liftF (.pair (.pair (.arr 4 (.int .u64)) (.pair (.arr 4 (.int .u64)) .unit)) .unit) (unpack .bool) G79)] ∧ FnsOk Go.Proofs.Tryd.prog fns := ⟨_, rfl, FnsOk.cons cG78 (FnsOk.cons cG79 (FnsOk.nil _))⟩
  refine lift_con (E := E_barrier_Fine fns) (c := bodyOf Tryd.f31) (nt := 14) (rs := [.tmp 2]) (ts := [4]) (EnvC.sub tt_ok et_ok hf (PrsOk.nil _) (ItsOk.nil _) tt_barrier_Fine_ok et_barrier_Fine_ok) (PrOk.of mixed_ok) Go.Proofs.Tryd.func31 rfl (by decide) rfl rfl rfl (pureR_one (e := .bool) rfl) ?_
  subst hfns
  intro x r hw hs
  repeat'
    (try (conv => whnf)
     first
       | (with_reducible have hs := letv_out hs)
       | (refine draw_and (by kernel_rfl) ?_)
       | (refine both_mk ?_ ?_)
       | (refine br_bool (fun h => ?_) (fun h => ?_) <;> first | have hs := cT h hs | have hs := cF h hs)
       | (refine bind_elim hs fun v hb hs => ?_; first | refine callK_liftG hG78 rfl hb ?_ | refine callK_liftG hG79 rfl hb ?_)
       | refine chk_elim hs fun hs => ?_
       | (have hs := letv_out hs)
       | exact fin_some hs rfl
       | (intro b hb; first | have hs := nilq_elim hs b hb | have hs := nilqn_elim hs b hb)
       | (have hs := cT rfl hs)
       | (have hs := cF rfl hs)
       | exact (none_ne hs).elim)
noncomputable def lf_barrier_Ready : List AV → Option AV := liftF (.pair (.pair (.pair .bool (.pair (.int .i64) .unit)) (.pair (.pair (.arr 4 (.int .u64)) (.pair (.arr 4 (.int .u64)) .unit)) (.pair (.int .i64) .unit))) .unit) (unpack .bool) (fun x => barrier_Ready x.1)
def tt_barrier_Ready : List (Nat × Ty) := [(3, .int .i64), (4, .bool), (23, .pair .bool (.pair (.int .i64) .unit)), (36, .pair (.arr 4 (.int .u64)) (.pair (.arr 4 (.int .u64)) .unit)), (38, .pair (.pair .bool (.pair (.int .i64) .unit)) (.pair (.pair (.arr 4 (.int .u64)) (.pair (.arr 4 (.int .u64)) .unit)) (.pair (.int .i64) .unit)))]
def et_barrier_Ready : List (Nat × Nat) := []
theorem tt_barrier_Ready_ok : subT tt tt_barrier_Ready = true := by kernel_rfl
theorem et_barrier_Ready_ok : subE et et_barrier_Ready = true := by kernel_rfl
def kp_barrier_Ready : List (Nat × List Nat) := [(0, [1]), (1, [2]), (4000000, [1]), (4000001, [])]
def od_barrier_Ready : List (Nat × Ord) := []
noncomputable def E_barrier_Ready (fns : List (Nat × (List AV → Option AV))) : Env := ⟨0, 0, et_barrier_Ready, tt_barrier_Ready, fns, [], od_barrier_Ready, kp_barrier_Ready, none, []⟩
set_option maxRecDepth 100000 in
set_option maxHeartbeats 40000000 in
theorem c_barrier_Ready : PCon Go.Proofs.Tryd.prog 16 lf_barrier_Ready := by
  obtain ⟨G31, hG31, cG31⟩ : ∃ G : ((.pair (.pair (.pair .bool (.pair (.int .i64) .unit)) (.pair (.pair (.arr 4 (.int .u64)) (.pair (.arr 4 (.int .u64)) .unit)) (.pair (.int .i64) .unit))) .unit) : Ty).den → Option Bool, (∀ x, G x = barrier_Fine x.1) ∧ PCon Go.Proofs.Tryd.prog 31 (liftF (.pair (.pair (.pair .bool (.pair (.int .i64) .unit)) (.pair (.pair (.arr 4 (.int .u64)) (.pair (.arr 4 (.int .u64)) .unit)) (.pair (.int .i64) .unit))) .unit) (unpack .bool) G) := ⟨_, fun _ => rfl, c_barrier_Fine⟩
  obtain ⟨G64, hG64, cG64⟩ : ∃ G : ((.pair (.pair (.arr 4 (.int .u64)) (.pair (.arr 4 (.int .u64)) .unit)) .unit) : Ty).den → Option Bool, (∀ x, G x = roll_Full x.1) ∧ PCon Go.Proofs.Tryd.prog 64 (liftF (.pair (.pair (.arr 4 (.int .u64)) (.pair (.arr 4 (.int .u64)) .unit)) .unit) (unpack .bool) G) := ⟨_, fun _ => rfl, c_roll_Full⟩
  obtain ⟨G65, hG65, cG65⟩ : ∃ G : ((.pair (.int .i64) (.pair (.int .i64) .unit)) : Ty).den → Option Int, (∀ x, G x = phase_Left x.1 x.2.1) ∧ PCon Go.Proofs.Tryd.prog 65 (liftF (.pair (.int .i64) (.pair (.int .i64) .unit)) (unpack (.int .i64)) G) := ⟨_, fun _ => rfl, c_phase_Left⟩
  obtain ⟨fns, hfns, hf⟩ : ∃ fns, fns = [(31, liftF (.pair (.pair (.pair .bool (.pair (.int .i64) .unit)) (.pair (.pair (.arr 4 (.int .u64)) (.pair (.arr 4 (.int .u64)) .unit)) (.pair (.int .i64) .unit))) .unit) (unpack .bool) G31), (64, liftF (.pair (.pair (.arr 4 (.int .u64)) (.pair (.arr 4 (.int .u64)) .unit)) .unit) (unpack .bool) G64), (65, liftF (.pair (.int .i64) (.pair (.int .i64) .unit)) (unpack (.int .i64)) G65)] ∧ FnsOk Go.Proofs.Tryd.prog fns := ⟨_, rfl, FnsOk.cons cG31 (FnsOk.cons cG64 (FnsOk.cons cG65 (FnsOk.nil _)))⟩
  refine lift_con (E := E_barrier_Ready fns) (c := bodyOf Tryd.f16) (nt := 19) (rs := [.tmp 2]) (ts := [4]) (EnvC.sub tt_ok et_ok hf (PrsOk.nil _) (ItsOk.nil _) tt_barrier_Ready_ok et_barrier_Ready_ok) (PrOk.of mixed_ok) Go.Proofs.Tryd.func16 rfl (by decide) rfl rfl rfl (pureR_one (e := .bool) rfl) ?_
  subst hfns
  intro x r hw hs
  repeat'
    (try (conv => whnf)
     first
       | (with_reducible have hs := letv_out hs)
       | (refine draw_and (by kernel_rfl) ?_)
       | (refine both_mk ?_ ?_)
       | (refine br_bool (fun h => ?_) (fun h => ?_) <;> first | have hs := cT h hs | have hs := cF h hs)
       | (refine bind_elim hs fun v hb hs => ?_; first | refine callK_liftG hG31 rfl hb ?_ | refine callK_liftG hG64 rfl hb ?_ | refine callK_liftG hG65 rfl hb ?_)
       | refine chk_elim hs fun hs => ?_
       | (have hs := letv_out hs)
       | exact fin_some hs rfl
       | (intro b hb; first | have hs := nilq_elim hs b hb | have hs := nilqn_elim hs b hb)
       | (have hs := cT rfl hs)
       | (have hs := cF rfl hs)
       | exact (none_ne hs).elim)
noncomputable def lf_barrier_Fire : List AV → Option AV := liftF (.pair (.pair (.pair .bool (.pair (.int .i64) .unit)) (.pair (.pair (.arr 4 (.int .u64)) (.pair (.arr 4 (.int .u64)) .unit)) (.pair (.int .i64) .unit))) .unit) (unpR (.pair (.pair (.pair .bool (.pair (.int .i64) .unit)) (.pair (.pair (.arr 4 (.int .u64)) (.pair (.arr 4 (.int .u64)) .unit)) (.pair (.int .i64) .unit))) (.pair (.sl (.int .i64)) (.pair (.int .i64) .unit)))) (fun x => barrier_Fire x.1)
def tt_barrier_Fire : List (Nat × Ty) := [(3, .int .i64), (4, .bool), (23, .pair .bool (.pair (.int .i64) .unit)), (24, .sl (.int .i64)), (36, .pair (.arr 4 (.int .u64)) (.pair (.arr 4 (.int .u64)) .unit)), (38, .pair (.pair .bool (.pair (.int .i64) .unit)) (.pair (.pair (.arr 4 (.int .u64)) (.pair (.arr 4 (.int .u64)) .unit)) (.pair (.int .i64) .unit))), (40, .int .i64)]
def et_barrier_Fire : List (Nat × Nat) := [(24, 3)]
theorem tt_barrier_Fire_ok : subT tt tt_barrier_Fire = true := by kernel_rfl
theorem et_barrier_Fire_ok : subE et et_barrier_Fire = true := by kernel_rfl
def kp_barrier_Fire : List (Nat × List Nat) := [(0, [1, 2]), (1, [1, 2, 8]), (2, [2, 3, 4]), (3, [1, 2, 13]), (4, [2, 3, 4]), (5, [1, 2, 5, 6, 7]), (6, [1, 2, 5, 6, 7, 26]), (7, [2, 3, 4]), (8, [1, 2, 6]), (9, [1, 2, 6, 7]), (10, [2, 3, 4]), (4000000, [1, 2]), (4000001, [1, 2]), (4000002, [2]), (4000003, [1, 2]), (4000004, [2]), (4000005, [1, 2, 5]), (4000006, [1, 2, 5]), (4000007, [2]), (4000008, [1, 2]), (4000009, [1, 2]), (4000010, [2])]
def od_barrier_Fire : List (Nat × Ord) := []
noncomputable def E_barrier_Fire (fns : List (Nat × (List AV → Option AV))) : Env := ⟨0, 0, et_barrier_Fire, tt_barrier_Fire, fns, [], od_barrier_Fire, kp_barrier_Fire, none, []⟩
set_option maxRecDepth 100000 in
set_option maxHeartbeats 40000000 in
theorem c_barrier_Fire : PCon Go.Proofs.Tryd.prog 14 lf_barrier_Fire := by
  obtain ⟨G16, hG16, cG16⟩ : ∃ G : ((.pair (.pair (.pair .bool (.pair (.int .i64) .unit)) (.pair (.pair (.arr 4 (.int .u64)) (.pair (.arr 4 (.int .u64)) .unit)) (.pair (.int .i64) .unit))) .unit) : Ty).den → Option Bool, (∀ x, G x = barrier_Ready x.1) ∧ PCon Go.Proofs.Tryd.prog 16 (liftF (.pair (.pair (.pair .bool (.pair (.int .i64) .unit)) (.pair (.pair (.arr 4 (.int .u64)) (.pair (.arr 4 (.int .u64)) .unit)) (.pair (.int .i64) .unit))) .unit) (unpack .bool) G) := ⟨_, fun _ => rfl, c_barrier_Ready⟩
  obtain ⟨G31, hG31, cG31⟩ : ∃ G : ((.pair (.pair (.pair .bool (.pair (.int .i64) .unit)) (.pair (.pair (.arr 4 (.int .u64)) (.pair (.arr 4 (.int .u64)) .unit)) (.pair (.int .i64) .unit))) .unit) : Ty).den → Option Bool, (∀ x, G x = barrier_Fine x.1) ∧ PCon Go.Proofs.Tryd.prog 31 (liftF (.pair (.pair (.pair .bool (.pair (.int .i64) .unit)) (.pair (.pair (.arr 4 (.int .u64)) (.pair (.arr 4 (.int .u64)) .unit)) (.pair (.int .i64) .unit))) .unit) (unpack .bool) G) := ⟨_, fun _ => rfl, c_barrier_Fine⟩
  obtain ⟨G61, hG61, cG61⟩ : ∃ G : ((.pair (.pair (.arr 4 (.int .u64)) (.pair (.arr 4 (.int .u64)) .unit)) .unit) : Ty).den → Option (((List Int) × (List Int) × Unit) × (List Int) × Int × Unit), (∀ x, G x = roll_Fire x.1) ∧ PCon Go.Proofs.Tryd.prog 61 (liftF (.pair (.pair (.arr 4 (.int .u64)) (.pair (.arr 4 (.int .u64)) .unit)) .unit) (unpR (.pair (.pair (.arr 4 (.int .u64)) (.pair (.arr 4 (.int .u64)) .unit)) (.pair (.sl (.int .i64)) (.pair (.int .i64) .unit)))) G) := ⟨_, fun _ => rfl, c_roll_Fire⟩
  obtain ⟨G62, hG62, cG62⟩ : ∃ G : ((.pair (.int .i64) (.pair (.int .i64) .unit)) : Ty).den → Option (Int × Int × Unit), (∀ x, G x = phase_Next x.1 x.2.1) ∧ PCon Go.Proofs.Tryd.prog 62 (liftF (.pair (.int .i64) (.pair (.int .i64) .unit)) (unpR (.pair (.int .i64) (.pair (.int .i64) .unit))) G) := ⟨_, fun _ => rfl, c_phase_Next⟩
  obtain ⟨fns, hfns, hf⟩ : ∃ fns, fns = [(16, liftF (.pair (.pair (.pair .bool (.pair (.int .i64) .unit)) (.pair (.pair (.arr 4 (.int .u64)) (.pair (.arr 4 (.int .u64)) .unit)) (.pair (.int .i64) .unit))) .unit) (unpack .bool) G16), (31, liftF (.pair (.pair (.pair .bool (.pair (.int .i64) .unit)) (.pair (.pair (.arr 4 (.int .u64)) (.pair (.arr 4 (.int .u64)) .unit)) (.pair (.int .i64) .unit))) .unit) (unpack .bool) G31), (61, liftF (.pair (.pair (.arr 4 (.int .u64)) (.pair (.arr 4 (.int .u64)) .unit)) .unit) (unpR (.pair (.pair (.arr 4 (.int .u64)) (.pair (.arr 4 (.int .u64)) .unit)) (.pair (.sl (.int .i64)) (.pair (.int .i64) .unit)))) G61), (62, liftF (.pair (.int .i64) (.pair (.int .i64) .unit)) (unpR (.pair (.int .i64) (.pair (.int .i64) .unit))) G62)] ∧ FnsOk Go.Proofs.Tryd.prog fns := ⟨_, rfl, FnsOk.cons cG16 (FnsOk.cons cG31 (FnsOk.cons cG61 (FnsOk.cons cG62 (FnsOk.nil _))))⟩
  refine lift_con (E := E_barrier_Fire fns) (c := bodyOf Tryd.f14) (nt := 44) (rs := [.cell 2 38, .tmp 3, .tmp 4]) (ts := [38, 24, 40]) (EnvC.sub tt_ok et_ok hf (PrsOk.nil _) (ItsOk.nil _) tt_barrier_Fire_ok et_barrier_Fire_ok) (PrOk.of mixed_ok) Go.Proofs.Tryd.func14 rfl (by decide) rfl rfl rfl (pureR_many (e := (.pair (.pair (.pair .bool (.pair (.int .i64) .unit)) (.pair (.pair (.arr 4 (.int .u64)) (.pair (.arr 4 (.int .u64)) .unit)) (.pair (.int .i64) .unit))) (.pair (.sl (.int .i64)) (.pair (.int .i64) .unit)))) rfl) ?_
  subst hfns
  intro x r hw hs
  repeat'
    (try (conv => whnf)
     first
       | (with_reducible have hs := letv_out hs)
       | (refine draw_and (by kernel_rfl) ?_)
       | (refine both_mk ?_ ?_)
       | (refine br_bool (fun h => ?_) (fun h => ?_) <;> first | have hs := cT h hs | have hs := cF h hs)
       | (refine bind_elim hs fun v hb hs => ?_; first | refine callK_liftG hG16 rfl hb ?_ | refine callK_liftG hG31 rfl hb ?_ | refine callK_liftG hG61 rfl hb ?_ | refine callK_liftG hG62 rfl hb ?_)
       | refine chk_elim hs fun hs => ?_
       | (have hs := letv_out hs)
       | exact fin_some hs rfl
       | (intro b hb; first | have hs := nilq_elim hs b hb | have hs := nilqn_elim hs b hb)
       | (have hs := cT rfl hs)
       | (have hs := cF rfl hs)
       | exact (none_ne hs).elim)
noncomputable def lf_barrier_Check : List AV → Option AV := liftF (.pair (.pair .bool (.pair (.int .i64) .unit)) .unit) (unpack (.int .i64)) (fun x => barrier_Check x.1)
def tt_barrier_Check : List (Nat × Ty) := [(3, .int .i64), (4, .bool), (23, .pair .bool (.pair (.int .i64) .unit)), (40, .int .i64)]
def et_barrier_Check : List (Nat × Nat) := []
theorem tt_barrier_Check_ok : subT tt tt_barrier_Check = true := by kernel_rfl
theorem et_barrier_Check_ok : subE et et_barrier_Check = true := by kernel_rfl
def kp_barrier_Check : List (Nat × List Nat) := [(0, [1]), (1, [6]), (2, [2]), (3, [2]), (4000000, [1]), (4000001, []), (4000002, []), (4000003, [])]
def od_barrier_Check : List (Nat × Ord) := []
noncomputable def E_barrier_Check (fns : List (Nat × (List AV → Option AV))) : Env := ⟨0, 0, et_barrier_Check, tt_barrier_Check, fns, [], od_barrier_Check, kp_barrier_Check, none, []⟩
set_option maxRecDepth 100000 in
set_option maxHeartbeats 40000000 in
theorem c_barrier_Check : PCon Go.Proofs.Tryd.prog 33 lf_barrier_Check := by
  obtain ⟨G78, hG78, cG78⟩ : ∃ G : ((.pair (.int .i64) (.pair (.int .i64) .unit)) : Ty).den → Option Bool, (∀ x, G x = phase_Fine x.1 x.2.1) ∧ PCon Go.Proofs.Tryd.prog 78 (liftF (.pair (.int .i64) (.pair (.int .i64) .unit)) (unpack .bool) G) := ⟨_, fun _ => rfl, c_phase_Fine⟩
  obtain ⟨fns, hfns, hf⟩ : ∃ fns, fns = [(78, liftF (.pair (.int .i64) (.pair (.int .i64) .unit)) (unpack .bool) G78)] ∧ FnsOk Go.Proofs.Tryd.prog fns := ⟨_, rfl, FnsOk.cons cG78 (FnsOk.nil _)⟩
  refine lift_con (E := E_barrier_Check fns) (c := bodyOf Tryd.f33) (nt := 7) (rs := [.tmp 2]) (ts := [40]) (EnvC.sub tt_ok et_ok hf (PrsOk.nil _) (ItsOk.nil _) tt_barrier_Check_ok et_barrier_Check_ok) (PrOk.of mixed_ok) Go.Proofs.Tryd.func33 rfl (by decide) rfl rfl rfl (pureR_one (e := (.int .i64)) rfl) ?_
  subst hfns
  intro x r hw hs
  repeat'
    (try (conv => whnf)
     first
       | (with_reducible have hs := letv_out hs)
       | (refine draw_and (by kernel_rfl) ?_)
       | (refine both_mk ?_ ?_)
       | (refine br_bool (fun h => ?_) (fun h => ?_) <;> first | have hs := cT h hs | have hs := cF h hs)
       | (refine bind_elim hs fun v hb hs => ?_; first | refine callK_liftG hG78 rfl hb ?_)
       | refine chk_elim hs fun hs => ?_
       | (have hs := letv_out hs)
       | exact fin_some hs rfl
       | (intro b hb; first | have hs := nilq_elim hs b hb | have hs := nilqn_elim hs b hb)
       | (have hs := cT rfl hs)
       | (have hs := cF rfl hs)
       | exact (none_ne hs).elim)
noncomputable def lf_barrier_New : List AV → Option AV := liftF (.pair (.pair .bool (.pair (.int .i64) .unit)) .unit) (unpR (.pair (.pair (.pair .bool (.pair (.int .i64) .unit)) (.pair (.pair (.arr 4 (.int .u64)) (.pair (.arr 4 (.int .u64)) .unit)) (.pair (.int .i64) .unit))) (.pair (.int .i64) .unit))) (fun x => barrier_New x.1)
def tt_barrier_New : List (Nat × Ty) := [(23, .pair .bool (.pair (.int .i64) .unit)), (38, .pair (.pair .bool (.pair (.int .i64) .unit)) (.pair (.pair (.arr 4 (.int .u64)) (.pair (.arr 4 (.int .u64)) .unit)) (.pair (.int .i64) .unit))), (40, .int .i64)]
def et_barrier_New : List (Nat × Nat) := []
theorem tt_barrier_New_ok : subT tt tt_barrier_New = true := by kernel_rfl
theorem et_barrier_New_ok : subE et et_barrier_New = true := by kernel_rfl
def kp_barrier_New : List (Nat × List Nat) := [(0, [1, 2]), (1, [1, 2, 4]), (2, [1, 2, 4, 8]), (3, [2, 3]), (4, [2, 3]), (4000000, [1, 2]), (4000001, [1, 2]), (4000002, [1, 2]), (4000003, [2]), (4000004, [2])]
def od_barrier_New : List (Nat × Ord) := []
noncomputable def E_barrier_New (fns : List (Nat × (List AV → Option AV))) : Env := ⟨0, 0, et_barrier_New, tt_barrier_New, fns, [], od_barrier_New, kp_barrier_New, none, []⟩
set_option maxRecDepth 100000 in
set_option maxHeartbeats 40000000 in
theorem c_barrier_New : PCon Go.Proofs.Tryd.prog 21 lf_barrier_New := by
  obtain ⟨G33, hG33, cG33⟩ : ∃ G : ((.pair (.pair .bool (.pair (.int .i64) .unit)) .unit) : Ty).den → Option Int, (∀ x, G x = barrier_Check x.1) ∧ PCon Go.Proofs.Tryd.prog 33 (liftF (.pair (.pair .bool (.pair (.int .i64) .unit)) .unit) (unpack (.int .i64)) G) := ⟨_, fun _ => rfl, c_barrier_Check⟩
  obtain ⟨fns, hfns, hf⟩ : ∃ fns, fns = [(33, liftF (.pair (.pair .bool (.pair (.int .i64) .unit)) .unit) (unpack (.int .i64)) G33)] ∧ FnsOk Go.Proofs.Tryd.prog fns := ⟨_, rfl, FnsOk.cons cG33 (FnsOk.nil _)⟩
  refine lift_con (E := E_barrier_New fns) (c := bodyOf Tryd.f21) (nt := 13) (rs := [.cell 2 38, .tmp 3]) (ts := [38, 40]) (EnvC.sub tt_ok et_ok hf (PrsOk.nil _) (ItsOk.nil _) tt_barrier_New_ok et_barrier_New_ok) (PrOk.of mixed_ok) Go.Proofs.Tryd.func21 rfl (by decide) rfl rfl rfl (pureR_many (e := (.pair (.pair (.pair .bool (.pair (.int .i64) .unit)) (.pair (.pair (.arr 4 (.int .u64)) (.pair (.arr 4 (.int .u64)) .unit)) (.pair (.int .i64) .unit))) (.pair (.int .i64) .unit))) rfl) ?_
  subst hfns
  intro x r hw hs
  repeat'
    (try (conv => whnf)
     first
       | (with_reducible have hs := letv_out hs)
       | (refine draw_and (by kernel_rfl) ?_)
       | (refine both_mk ?_ ?_)
       | (refine br_bool (fun h => ?_) (fun h => ?_) <;> first | have hs := cT h hs | have hs := cF h hs)
       | (refine bind_elim hs fun v hb hs => ?_; first | refine callK_liftG hG33 rfl hb ?_)
       | refine chk_elim hs fun hs => ?_
       | (have hs := letv_out hs)
       | exact fin_some hs rfl
       | (intro b hb; first | have hs := nilq_elim hs b hb | have hs := nilqn_elim hs b hb)
       | (have hs := cT rfl hs)
       | (have hs := cF rfl hs)
       | exact (none_ne hs).elim)
noncomputable def lf_barrier_Bar_with : List AV → Option AV := liftF (.pair (.pair (.pair .bool (.pair (.int .i64) .unit)) (.pair (.pair (.arr 4 (.int .u64)) (.pair (.arr 4 (.int .u64)) .unit)) (.pair (.int .i64) .unit))) (.pair (.pair (.arr 4 (.int .u64)) (.pair (.arr 4 (.int .u64)) .unit)) (.pair (.int .i64) .unit))) (unpR (.pair (.pair (.pair .bool (.pair (.int .i64) .unit)) (.pair (.pair (.arr 4 (.int .u64)) (.pair (.arr 4 (.int .u64)) .unit)) (.pair (.int .i64) .unit))) (.pair (.int .i64) .unit))) (fun x => barrier_Bar_with x.1 x.2.1 x.2.2.1)
def tt_barrier_Bar_with : List (Nat × Ty) := [(3, .int .i64), (23, .pair .bool (.pair (.int .i64) .unit)), (36, .pair (.arr 4 (.int .u64)) (.pair (.arr 4 (.int .u64)) .unit)), (38, .pair (.pair .bool (.pair (.int .i64) .unit)) (.pair (.pair (.arr 4 (.int .u64)) (.pair (.arr 4 (.int .u64)) .unit)) (.pair (.int .i64) .unit))), (40, .int .i64)]
def et_barrier_Bar_with : List (Nat × Nat) := []
theorem tt_barrier_Bar_with_ok : subT tt tt_barrier_Bar_with = true := by kernel_rfl
theorem et_barrier_Bar_with_ok : subE et et_barrier_Bar_with = true := by kernel_rfl
def kp_barrier_Bar_with : List (Nat × List Nat) := [(0, [2, 3, 4, 6]), (1, [2, 3, 6, 8]), (2, [2, 3, 6, 8, 21]), (3, [6, 7]), (4, [6, 7]), (4000000, [3, 4, 6]), (4000001, [3, 6, 8]), (4000002, [3, 6, 8]), (4000003, [6]), (4000004, [6])]
def od_barrier_Bar_with : List (Nat × Ord) := []
noncomputable def E_barrier_Bar_with (fns : List (Nat × (List AV → Option AV))) : Env := ⟨0, 0, et_barrier_Bar_with, tt_barrier_Bar_with, fns, [], od_barrier_Bar_with, kp_barrier_Bar_with, none, []⟩
set_option maxRecDepth 100000 in
set_option maxHeartbeats 40000000 in
theorem c_barrier_Bar_with : PCon Go.Proofs.Tryd.prog 69 lf_barrier_Bar_with := by
  obtain ⟨fns, hfns, hf⟩ : ∃ fns, fns = [] ∧ FnsOk Go.Proofs.Tryd.prog fns := ⟨_, rfl, FnsOk.nil _⟩
  refine lift_con (E := E_barrier_Bar_with fns) (c := bodyOf Tryd.f69) (nt := 25) (rs := [.cell 6 38, .tmp 7]) (ts := [38, 40]) (EnvC.sub tt_ok et_ok hf (PrsOk.nil _) (ItsOk.nil _) tt_barrier_Bar_with_ok et_barrier_Bar_with_ok) (PrOk.of mixed_ok) Go.Proofs.Tryd.func69 rfl (by decide) rfl rfl rfl (pureR_many (e := (.pair (.pair (.pair .bool (.pair (.int .i64) .unit)) (.pair (.pair (.arr 4 (.int .u64)) (.pair (.arr 4 (.int .u64)) .unit)) (.pair (.int .i64) .unit))) (.pair (.int .i64) .unit))) rfl) ?_
  subst hfns
  intro x r hw hs
  repeat'
    (try (conv => whnf)
     first
       | (with_reducible have hs := letv_out hs)
       | (refine draw_and (by kernel_rfl) ?_)
       | (refine both_mk ?_ ?_)
       | (refine br_bool (fun h => ?_) (fun h => ?_) <;> first | have hs := cT h hs | have hs := cF h hs)
       | refine chk_elim hs fun hs => ?_
       | (have hs := letv_out hs)
       | exact fin_some hs rfl
       | (intro b hb; first | have hs := nilq_elim hs b hb | have hs := nilqn_elim hs b hb)
       | (have hs := cT rfl hs)
       | (have hs := cF rfl hs)
       | exact (none_ne hs).elim)
noncomputable def lf_barrier_Enrol : List AV → Option AV := liftF (.pair (.pair (.pair .bool (.pair (.int .i64) .unit)) (.pair (.pair (.arr 4 (.int .u64)) (.pair (.arr 4 (.int .u64)) .unit)) (.pair (.int .i64) .unit))) (.pair (.int .i64) .unit)) (unpR (.pair (.pair (.pair .bool (.pair (.int .i64) .unit)) (.pair (.pair (.arr 4 (.int .u64)) (.pair (.arr 4 (.int .u64)) .unit)) (.pair (.int .i64) .unit))) (.pair (.int .i64) .unit))) (fun x => barrier_Enrol x.1 x.2.1)
def tt_barrier_Enrol : List (Nat × Ty) := [(3, .int .i64), (4, .bool), (36, .pair (.arr 4 (.int .u64)) (.pair (.arr 4 (.int .u64)) .unit)), (38, .pair (.pair .bool (.pair (.int .i64) .unit)) (.pair (.pair (.arr 4 (.int .u64)) (.pair (.arr 4 (.int .u64)) .unit)) (.pair (.int .i64) .unit))), (40, .int .i64)]
def et_barrier_Enrol : List (Nat × Nat) := []
theorem tt_barrier_Enrol_ok : subT tt tt_barrier_Enrol = true := by kernel_rfl
theorem et_barrier_Enrol_ok : subE et et_barrier_Enrol = true := by kernel_rfl
def kp_barrier_Enrol : List (Nat × List Nat) := [(0, [1, 2, 4]), (1, [1, 2, 4, 8]), (2, [4, 5]), (3, [4, 5]), (4000000, [2, 4]), (4000001, [2, 4]), (4000002, [4]), (4000003, [4])]
def od_barrier_Enrol : List (Nat × Ord) := [(3, (.one 0 (.one 1 (.one 2 (.one 3 (.one 4 (.one 5 (.one 6 (.one 100007 (.one 8 (.one 9 (.one 100010 (.one 11 .nil)))))))))))))]
noncomputable def E_barrier_Enrol (fns : List (Nat × (List AV → Option AV))) : Env := ⟨0, 0, et_barrier_Enrol, tt_barrier_Enrol, fns, [], od_barrier_Enrol, kp_barrier_Enrol, none, []⟩
set_option maxRecDepth 100000 in
set_option maxHeartbeats 40000000 in
theorem c_barrier_Enrol : PCon Go.Proofs.Tryd.prog 23 lf_barrier_Enrol := by
  obtain ⟨G31, hG31, cG31⟩ : ∃ G : ((.pair (.pair (.pair .bool (.pair (.int .i64) .unit)) (.pair (.pair (.arr 4 (.int .u64)) (.pair (.arr 4 (.int .u64)) .unit)) (.pair (.int .i64) .unit))) .unit) : Ty).den → Option Bool, (∀ x, G x = barrier_Fine x.1) ∧ PCon Go.Proofs.Tryd.prog 31 (liftF (.pair (.pair (.pair .bool (.pair (.int .i64) .unit)) (.pair (.pair (.arr 4 (.int .u64)) (.pair (.arr 4 (.int .u64)) .unit)) (.pair (.int .i64) .unit))) .unit) (unpack .bool) G) := ⟨_, fun _ => rfl, c_barrier_Fine⟩
  obtain ⟨G69, hG69, cG69⟩ : ∃ G : ((.pair (.pair (.pair .bool (.pair (.int .i64) .unit)) (.pair (.pair (.arr 4 (.int .u64)) (.pair (.arr 4 (.int .u64)) .unit)) (.pair (.int .i64) .unit))) (.pair (.pair (.arr 4 (.int .u64)) (.pair (.arr 4 (.int .u64)) .unit)) (.pair (.int .i64) .unit))) : Ty).den → Option (((Bool × Int × Unit) × ((List Int) × (List Int) × Unit) × Int × Unit) × Int × Unit), (∀ x, G x = barrier_Bar_with x.1 x.2.1 x.2.2.1) ∧ PCon Go.Proofs.Tryd.prog 69 (liftF (.pair (.pair (.pair .bool (.pair (.int .i64) .unit)) (.pair (.pair (.arr 4 (.int .u64)) (.pair (.arr 4 (.int .u64)) .unit)) (.pair (.int .i64) .unit))) (.pair (.pair (.arr 4 (.int .u64)) (.pair (.arr 4 (.int .u64)) .unit)) (.pair (.int .i64) .unit))) (unpR (.pair (.pair (.pair .bool (.pair (.int .i64) .unit)) (.pair (.pair (.arr 4 (.int .u64)) (.pair (.arr 4 (.int .u64)) .unit)) (.pair (.int .i64) .unit))) (.pair (.int .i64) .unit))) G) := ⟨_, fun _ => rfl, c_barrier_Bar_with⟩
  obtain ⟨G70, hG70, cG70⟩ : ∃ G : ((.pair (.pair (.arr 4 (.int .u64)) (.pair (.arr 4 (.int .u64)) .unit)) (.pair (.int .i64) .unit)) : Ty).den → Option (((List Int) × (List Int) × Unit) × Int × Unit), (∀ x, G x = roll_Enrol x.1 x.2.1) ∧ PCon Go.Proofs.Tryd.prog 70 (liftF (.pair (.pair (.arr 4 (.int .u64)) (.pair (.arr 4 (.int .u64)) .unit)) (.pair (.int .i64) .unit)) (unpR (.pair (.pair (.arr 4 (.int .u64)) (.pair (.arr 4 (.int .u64)) .unit)) (.pair (.int .i64) .unit))) G) := ⟨_, fun _ => rfl, c_roll_Enrol⟩
  obtain ⟨fns, hfns, hf⟩ : ∃ fns, fns = [(31, liftF (.pair (.pair (.pair .bool (.pair (.int .i64) .unit)) (.pair (.pair (.arr 4 (.int .u64)) (.pair (.arr 4 (.int .u64)) .unit)) (.pair (.int .i64) .unit))) .unit) (unpack .bool) G31), (69, liftF (.pair (.pair (.pair .bool (.pair (.int .i64) .unit)) (.pair (.pair (.arr 4 (.int .u64)) (.pair (.arr 4 (.int .u64)) .unit)) (.pair (.int .i64) .unit))) (.pair (.pair (.arr 4 (.int .u64)) (.pair (.arr 4 (.int .u64)) .unit)) (.pair (.int .i64) .unit))) (unpR (.pair (.pair (.pair .bool (.pair (.int .i64) .unit)) (.pair (.pair (.arr 4 (.int .u64)) (.pair (.arr 4 (.int .u64)) .unit)) (.pair (.int .i64) .unit))) (.pair (.int .i64) .unit))) G69), (70, liftF (.pair (.pair (.arr 4 (.int .u64)) (.pair (.arr 4 (.int .u64)) .unit)) (.pair (.int .i64) .unit)) (unpR (.pair (.pair (.arr 4 (.int .u64)) (.pair (.arr 4 (.int .u64)) .unit)) (.pair (.int .i64) .unit))) G70)] ∧ FnsOk Go.Proofs.Tryd.prog fns := ⟨_, rfl, FnsOk.cons cG31 (FnsOk.cons cG69 (FnsOk.cons cG70 (FnsOk.nil _)))⟩
  refine lift_con (E := E_barrier_Enrol fns) (c := bodyOf Tryd.f23) (nt := 20) (rs := [.cell 4 38, .tmp 5]) (ts := [38, 40]) (EnvC.sub tt_ok et_ok hf (PrsOk.nil _) (ItsOk.nil _) tt_barrier_Enrol_ok et_barrier_Enrol_ok) (PrOk.of mixed_ok) Go.Proofs.Tryd.func23 rfl (by decide) rfl rfl rfl (pureR_many (e := (.pair (.pair (.pair .bool (.pair (.int .i64) .unit)) (.pair (.pair (.arr 4 (.int .u64)) (.pair (.arr 4 (.int .u64)) .unit)) (.pair (.int .i64) .unit))) (.pair (.int .i64) .unit))) rfl) ?_
  subst hfns
  intro x r hw hs
  repeat'
    (try (conv => whnf)
     first
       | (with_reducible have hs := letv_out hs)
       | (refine draw_and (by kernel_rfl) ?_)
       | (refine both_mk ?_ ?_)
       | (refine br_bool (fun h => ?_) (fun h => ?_) <;> first | have hs := cT h hs | have hs := cF h hs)
       | (refine bind_elim hs fun v hb hs => ?_; first | refine callK_liftG hG31 rfl hb ?_ | refine callK_liftG hG69 rfl hb ?_ | refine callK_liftG hG70 rfl hb ?_)
       | refine chk_elim hs fun hs => ?_
       | (have hs := letv_out hs)
       | exact fin_some hs rfl
       | (intro b hb; first | have hs := nilq_elim hs b hb | have hs := nilqn_elim hs b hb)
       | (have hs := cT rfl hs)
       | (have hs := cF rfl hs)
       | exact (none_ne hs).elim)
noncomputable def lf_barrier_Offer : List AV → Option AV := liftF (.pair (.pair (.pair .bool (.pair (.int .i64) .unit)) (.pair (.pair (.arr 4 (.int .u64)) (.pair (.arr 4 (.int .u64)) .unit)) (.pair (.int .i64) .unit))) (.pair (.int .i64) (.pair .bool .unit))) (unpR (.pair (.pair (.pair .bool (.pair (.int .i64) .unit)) (.pair (.pair (.arr 4 (.int .u64)) (.pair (.arr 4 (.int .u64)) .unit)) (.pair (.int .i64) .unit))) (.pair (.int .i64) .unit))) (fun x => barrier_Offer x.1 x.2.1 x.2.2.1)
def tt_barrier_Offer : List (Nat × Ty) := [(3, .int .i64), (4, .bool), (23, .pair .bool (.pair (.int .i64) .unit)), (36, .pair (.arr 4 (.int .u64)) (.pair (.arr 4 (.int .u64)) .unit)), (38, .pair (.pair .bool (.pair (.int .i64) .unit)) (.pair (.pair (.arr 4 (.int .u64)) (.pair (.arr 4 (.int .u64)) .unit)) (.pair (.int .i64) .unit))), (40, .int .i64)]
def et_barrier_Offer : List (Nat × Nat) := []
theorem tt_barrier_Offer_ok : subT tt tt_barrier_Offer = true := by kernel_rfl
theorem et_barrier_Offer_ok : subE et et_barrier_Offer = true := by kernel_rfl
def kp_barrier_Offer : List (Nat × List Nat) := [(0, [1, 2, 3, 6]), (1, [1, 2, 3, 6, 8]), (2, [6, 7]), (3, [1, 3, 6, 13]), (4, [6, 7]), (5, [1, 3, 6, 22]), (6, [6, 7]), (7, [6, 7]), (4000000, [3, 6]), (4000001, [3, 6]), (4000002, [6]), (4000003, [3, 6]), (4000004, [6]), (4000005, [3, 6]), (4000006, [6]), (4000007, [6])]
def od_barrier_Offer : List (Nat × Ord) := [(7, (.one 0 (.one 1 (.one 2 (.one 3 (.one 4 (.one 5 (.one 6 (.one 100007 (.one 8 (.one 9 (.one 100010 (.one 11 .nil)))))))))))))]
noncomputable def E_barrier_Offer (fns : List (Nat × (List AV → Option AV))) : Env := ⟨0, 0, et_barrier_Offer, tt_barrier_Offer, fns, [], od_barrier_Offer, kp_barrier_Offer, none, []⟩
set_option maxRecDepth 100000 in
set_option maxHeartbeats 40000000 in
theorem c_barrier_Offer : PCon Go.Proofs.Tryd.prog 27 lf_barrier_Offer := by
  obtain ⟨G31, hG31, cG31⟩ : ∃ G : ((.pair (.pair (.pair .bool (.pair (.int .i64) .unit)) (.pair (.pair (.arr 4 (.int .u64)) (.pair (.arr 4 (.int .u64)) .unit)) (.pair (.int .i64) .unit))) .unit) : Ty).den → Option Bool, (∀ x, G x = barrier_Fine x.1) ∧ PCon Go.Proofs.Tryd.prog 31 (liftF (.pair (.pair (.pair .bool (.pair (.int .i64) .unit)) (.pair (.pair (.arr 4 (.int .u64)) (.pair (.arr 4 (.int .u64)) .unit)) (.pair (.int .i64) .unit))) .unit) (unpack .bool) G) := ⟨_, fun _ => rfl, c_barrier_Fine⟩
  obtain ⟨G65, hG65, cG65⟩ : ∃ G : ((.pair (.int .i64) (.pair (.int .i64) .unit)) : Ty).den → Option Int, (∀ x, G x = phase_Left x.1 x.2.1) ∧ PCon Go.Proofs.Tryd.prog 65 (liftF (.pair (.int .i64) (.pair (.int .i64) .unit)) (unpack (.int .i64)) G) := ⟨_, fun _ => rfl, c_phase_Left⟩
  obtain ⟨G69, hG69, cG69⟩ : ∃ G : ((.pair (.pair (.pair .bool (.pair (.int .i64) .unit)) (.pair (.pair (.arr 4 (.int .u64)) (.pair (.arr 4 (.int .u64)) .unit)) (.pair (.int .i64) .unit))) (.pair (.pair (.arr 4 (.int .u64)) (.pair (.arr 4 (.int .u64)) .unit)) (.pair (.int .i64) .unit))) : Ty).den → Option (((Bool × Int × Unit) × ((List Int) × (List Int) × Unit) × Int × Unit) × Int × Unit), (∀ x, G x = barrier_Bar_with x.1 x.2.1 x.2.2.1) ∧ PCon Go.Proofs.Tryd.prog 69 (liftF (.pair (.pair (.pair .bool (.pair (.int .i64) .unit)) (.pair (.pair (.arr 4 (.int .u64)) (.pair (.arr 4 (.int .u64)) .unit)) (.pair (.int .i64) .unit))) (.pair (.pair (.arr 4 (.int .u64)) (.pair (.arr 4 (.int .u64)) .unit)) (.pair (.int .i64) .unit))) (unpR (.pair (.pair (.pair .bool (.pair (.int .i64) .unit)) (.pair (.pair (.arr 4 (.int .u64)) (.pair (.arr 4 (.int .u64)) .unit)) (.pair (.int .i64) .unit))) (.pair (.int .i64) .unit))) G) := ⟨_, fun _ => rfl, c_barrier_Bar_with⟩
  obtain ⟨G74, hG74, cG74⟩ : ∃ G : ((.pair (.pair (.arr 4 (.int .u64)) (.pair (.arr 4 (.int .u64)) .unit)) (.pair (.int .i64) .unit)) : Ty).den → Option (((List Int) × (List Int) × Unit) × Int × Unit), (∀ x, G x = roll_Offer x.1 x.2.1) ∧ PCon Go.Proofs.Tryd.prog 74 (liftF (.pair (.pair (.arr 4 (.int .u64)) (.pair (.arr 4 (.int .u64)) .unit)) (.pair (.int .i64) .unit)) (unpR (.pair (.pair (.arr 4 (.int .u64)) (.pair (.arr 4 (.int .u64)) .unit)) (.pair (.int .i64) .unit))) G) := ⟨_, fun _ => rfl, c_roll_Offer⟩
  obtain ⟨fns, hfns, hf⟩ : ∃ fns, fns = [(31, liftF (.pair (.pair (.pair .bool (.pair (.int .i64) .unit)) (.pair (.pair (.arr 4 (.int .u64)) (.pair (.arr 4 (.int .u64)) .unit)) (.pair (.int .i64) .unit))) .unit) (unpack .bool) G31), (65, liftF (.pair (.int .i64) (.pair (.int .i64) .unit)) (unpack (.int .i64)) G65), (69, liftF (.pair (.pair (.pair .bool (.pair (.int .i64) .unit)) (.pair (.pair (.arr 4 (.int .u64)) (.pair (.arr 4 (.int .u64)) .unit)) (.pair (.int .i64) .unit))) (.pair (.pair (.arr 4 (.int .u64)) (.pair (.arr 4 (.int .u64)) .unit)) (.pair (.int .i64) .unit))) (unpR (.pair (.pair (.pair .bool (.pair (.int .i64) .unit)) (.pair (.pair (.arr 4 (.int .u64)) (.pair (.arr 4 (.int .u64)) .unit)) (.pair (.int .i64) .unit))) (.pair (.int .i64) .unit))) G69), (74, liftF (.pair (.pair (.arr 4 (.int .u64)) (.pair (.arr 4 (.int .u64)) .unit)) (.pair (.int .i64) .unit)) (unpR (.pair (.pair (.arr 4 (.int .u64)) (.pair (.arr 4 (.int .u64)) .unit)) (.pair (.int .i64) .unit))) G74)] ∧ FnsOk Go.Proofs.Tryd.prog fns := ⟨_, rfl, FnsOk.cons cG31 (FnsOk.cons cG65 (FnsOk.cons cG69 (FnsOk.cons cG74 (FnsOk.nil _))))⟩
  refine lift_con (E := E_barrier_Offer fns) (c := bodyOf Tryd.f27) (nt := 41) (rs := [.cell 6 38, .tmp 7]) (ts := [38, 40]) (EnvC.sub tt_ok et_ok hf (PrsOk.nil _) (ItsOk.nil _) tt_barrier_Offer_ok et_barrier_Offer_ok) (PrOk.of mixed_ok) Go.Proofs.Tryd.func27 rfl (by decide) rfl rfl rfl (pureR_many (e := (.pair (.pair (.pair .bool (.pair (.int .i64) .unit)) (.pair (.pair (.arr 4 (.int .u64)) (.pair (.arr 4 (.int .u64)) .unit)) (.pair (.int .i64) .unit))) (.pair (.int .i64) .unit))) rfl) ?_
  subst hfns
  intro x r hw hs
  repeat'
    (try (conv => whnf)
     first
       | (with_reducible have hs := letv_out hs)
       | (refine draw_and (by kernel_rfl) ?_)
       | (refine both_mk ?_ ?_)
       | (refine br_bool (fun h => ?_) (fun h => ?_) <;> first | have hs := cT h hs | have hs := cF h hs)
       | (refine bind_elim hs fun v hb hs => ?_; first | refine callK_liftG hG31 rfl hb ?_ | refine callK_liftG hG65 rfl hb ?_ | refine callK_liftG hG69 rfl hb ?_ | refine callK_liftG hG74 rfl hb ?_)
       | refine chk_elim hs fun hs => ?_
       | (have hs := letv_out hs)
       | exact fin_some hs rfl
       | (intro b hb; first | have hs := nilq_elim hs b hb | have hs := nilqn_elim hs b hb)
       | (have hs := cT rfl hs)
       | (have hs := cF rfl hs)
       | exact (none_ne hs).elim)
noncomputable def lf_barrier_Withdraw : List AV → Option AV := liftF (.pair (.pair (.pair .bool (.pair (.int .i64) .unit)) (.pair (.pair (.arr 4 (.int .u64)) (.pair (.arr 4 (.int .u64)) .unit)) (.pair (.int .i64) .unit))) (.pair (.int .i64) .unit)) (unpack (.pair (.pair .bool (.pair (.int .i64) .unit)) (.pair (.pair (.arr 4 (.int .u64)) (.pair (.arr 4 (.int .u64)) .unit)) (.pair (.int .i64) .unit)))) (fun x => barrier_Withdraw x.1 x.2.1)
def tt_barrier_Withdraw : List (Nat × Ty) := [(3, .int .i64), (36, .pair (.arr 4 (.int .u64)) (.pair (.arr 4 (.int .u64)) .unit)), (38, .pair (.pair .bool (.pair (.int .i64) .unit)) (.pair (.pair (.arr 4 (.int .u64)) (.pair (.arr 4 (.int .u64)) .unit)) (.pair (.int .i64) .unit)))]
def et_barrier_Withdraw : List (Nat × Nat) := []
theorem tt_barrier_Withdraw_ok : subT tt tt_barrier_Withdraw = true := by kernel_rfl
theorem et_barrier_Withdraw_ok : subE et et_barrier_Withdraw = true := by kernel_rfl
def kp_barrier_Withdraw : List (Nat × List Nat) := [(0, [1, 2, 4]), (1, [1, 2, 4, 6]), (2, [2, 4]), (3, [4]), (4000000, [2, 4]), (4000001, [2, 4]), (4000002, [2, 4]), (4000003, [4])]
def od_barrier_Withdraw : List (Nat × Ord) := []
noncomputable def E_barrier_Withdraw (fns : List (Nat × (List AV → Option AV))) : Env := ⟨0, 0, et_barrier_Withdraw, tt_barrier_Withdraw, fns, [], od_barrier_Withdraw, kp_barrier_Withdraw, none, []⟩
set_option maxRecDepth 100000 in
set_option maxHeartbeats 40000000 in
theorem c_barrier_Withdraw : PCon Go.Proofs.Tryd.prog 29 lf_barrier_Withdraw := by
  obtain ⟨G31, hG31, cG31⟩ : ∃ G : ((.pair (.pair (.pair .bool (.pair (.int .i64) .unit)) (.pair (.pair (.arr 4 (.int .u64)) (.pair (.arr 4 (.int .u64)) .unit)) (.pair (.int .i64) .unit))) .unit) : Ty).den → Option Bool, (∀ x, G x = barrier_Fine x.1) ∧ PCon Go.Proofs.Tryd.prog 31 (liftF (.pair (.pair (.pair .bool (.pair (.int .i64) .unit)) (.pair (.pair (.arr 4 (.int .u64)) (.pair (.arr 4 (.int .u64)) .unit)) (.pair (.int .i64) .unit))) .unit) (unpack .bool) G) := ⟨_, fun _ => rfl, c_barrier_Fine⟩
  obtain ⟨G76, hG76, cG76⟩ : ∃ G : ((.pair (.pair (.arr 4 (.int .u64)) (.pair (.arr 4 (.int .u64)) .unit)) (.pair (.int .i64) .unit)) : Ty).den → Option (((List Int) × (List Int) × Unit) × Bool × Unit), (∀ x, G x = roll_Withdraw x.1 x.2.1) ∧ PCon Go.Proofs.Tryd.prog 76 (liftF (.pair (.pair (.arr 4 (.int .u64)) (.pair (.arr 4 (.int .u64)) .unit)) (.pair (.int .i64) .unit)) (unpR (.pair (.pair (.arr 4 (.int .u64)) (.pair (.arr 4 (.int .u64)) .unit)) (.pair .bool .unit))) G) := ⟨_, fun _ => rfl, c_roll_Withdraw⟩
  obtain ⟨fns, hfns, hf⟩ : ∃ fns, fns = [(31, liftF (.pair (.pair (.pair .bool (.pair (.int .i64) .unit)) (.pair (.pair (.arr 4 (.int .u64)) (.pair (.arr 4 (.int .u64)) .unit)) (.pair (.int .i64) .unit))) .unit) (unpack .bool) G31), (76, liftF (.pair (.pair (.arr 4 (.int .u64)) (.pair (.arr 4 (.int .u64)) .unit)) (.pair (.int .i64) .unit)) (unpR (.pair (.pair (.arr 4 (.int .u64)) (.pair (.arr 4 (.int .u64)) .unit)) (.pair .bool .unit))) G76)] ∧ FnsOk Go.Proofs.Tryd.prog fns := ⟨_, rfl, FnsOk.cons cG31 (FnsOk.cons cG76 (FnsOk.nil _))⟩
  refine lift_con (E := E_barrier_Withdraw fns) (c := bodyOf Tryd.f29) (nt := 16) (rs := [.cell 4 38]) (ts := [38]) (EnvC.sub tt_ok et_ok hf (PrsOk.nil _) (ItsOk.nil _) tt_barrier_Withdraw_ok et_barrier_Withdraw_ok) (PrOk.of mixed_ok) Go.Proofs.Tryd.func29 rfl (by decide) rfl rfl rfl (pureR_one (e := (.pair (.pair .bool (.pair (.int .i64) .unit)) (.pair (.pair (.arr 4 (.int .u64)) (.pair (.arr 4 (.int .u64)) .unit)) (.pair (.int .i64) .unit)))) rfl) ?_
  subst hfns
  intro x r hw hs
  repeat'
    (try (conv => whnf)
     first
       | (with_reducible have hs := letv_out hs)
       | (refine draw_and (by kernel_rfl) ?_)
       | (refine both_mk ?_ ?_)
       | (refine br_bool (fun h => ?_) (fun h => ?_) <;> first | have hs := cT h hs | have hs := cF h hs)
       | (refine bind_elim hs fun v hb hs => ?_; first | refine callK_liftG hG31 rfl hb ?_ | refine callK_liftG hG76 rfl hb ?_)
       | refine chk_elim hs fun hs => ?_
       | (have hs := letv_out hs)
       | exact fin_some hs rfl
       | (intro b hb; first | have hs := nilq_elim hs b hb | have hs := nilqn_elim hs b hb)
       | (have hs := cT rfl hs)
       | (have hs := cF rfl hs)
       | exact (none_ne hs).elim)
noncomputable def lf_barrier_Resign : List AV → Option AV := liftF (.pair (.pair (.pair .bool (.pair (.int .i64) .unit)) (.pair (.pair (.arr 4 (.int .u64)) (.pair (.arr 4 (.int .u64)) .unit)) (.pair (.int .i64) .unit))) (.pair (.int .i64) .unit)) (unpR (.pair (.pair (.pair .bool (.pair (.int .i64) .unit)) (.pair (.pair (.arr 4 (.int .u64)) (.pair (.arr 4 (.int .u64)) .unit)) (.pair (.int .i64) .unit))) (.pair (.int .i64) .unit))) (fun x => barrier_Resign x.1 x.2.1)
def tt_barrier_Resign : List (Nat × Ty) := [(3, .int .i64), (4, .bool), (36, .pair (.arr 4 (.int .u64)) (.pair (.arr 4 (.int .u64)) .unit)), (38, .pair (.pair .bool (.pair (.int .i64) .unit)) (.pair (.pair (.arr 4 (.int .u64)) (.pair (.arr 4 (.int .u64)) .unit)) (.pair (.int .i64) .unit))), (40, .int .i64)]
def et_barrier_Resign : List (Nat × Nat) := []
theorem tt_barrier_Resign_ok : subT tt tt_barrier_Resign = true := by kernel_rfl
theorem et_barrier_Resign_ok : subE et et_barrier_Resign = true := by kernel_rfl
def kp_barrier_Resign : List (Nat × List Nat) := [(0, [1, 2, 4]), (1, [1, 2, 4, 8]), (2, [4, 5]), (3, [4, 5]), (4000000, [2, 4]), (4000001, [2, 4]), (4000002, [4]), (4000003, [4])]
def od_barrier_Resign : List (Nat × Ord) := [(3, (.one 0 (.one 1 (.one 2 (.one 3 (.one 4 (.one 5 (.one 6 (.one 100007 (.one 8 (.one 9 (.one 100010 (.one 11 .nil)))))))))))))]
noncomputable def E_barrier_Resign (fns : List (Nat × (List AV → Option AV))) : Env := ⟨0, 0, et_barrier_Resign, tt_barrier_Resign, fns, [], od_barrier_Resign, kp_barrier_Resign, none, []⟩
set_option maxRecDepth 100000 in
set_option maxHeartbeats 40000000 in
theorem c_barrier_Resign : PCon Go.Proofs.Tryd.prog 25 lf_barrier_Resign := by
  obtain ⟨G31, hG31, cG31⟩ : ∃ G : ((.pair (.pair (.pair .bool (.pair (.int .i64) .unit)) (.pair (.pair (.arr 4 (.int .u64)) (.pair (.arr 4 (.int .u64)) .unit)) (.pair (.int .i64) .unit))) .unit) : Ty).den → Option Bool, (∀ x, G x = barrier_Fine x.1) ∧ PCon Go.Proofs.Tryd.prog 31 (liftF (.pair (.pair (.pair .bool (.pair (.int .i64) .unit)) (.pair (.pair (.arr 4 (.int .u64)) (.pair (.arr 4 (.int .u64)) .unit)) (.pair (.int .i64) .unit))) .unit) (unpack .bool) G) := ⟨_, fun _ => rfl, c_barrier_Fine⟩
  obtain ⟨G69, hG69, cG69⟩ : ∃ G : ((.pair (.pair (.pair .bool (.pair (.int .i64) .unit)) (.pair (.pair (.arr 4 (.int .u64)) (.pair (.arr 4 (.int .u64)) .unit)) (.pair (.int .i64) .unit))) (.pair (.pair (.arr 4 (.int .u64)) (.pair (.arr 4 (.int .u64)) .unit)) (.pair (.int .i64) .unit))) : Ty).den → Option (((Bool × Int × Unit) × ((List Int) × (List Int) × Unit) × Int × Unit) × Int × Unit), (∀ x, G x = barrier_Bar_with x.1 x.2.1 x.2.2.1) ∧ PCon Go.Proofs.Tryd.prog 69 (liftF (.pair (.pair (.pair .bool (.pair (.int .i64) .unit)) (.pair (.pair (.arr 4 (.int .u64)) (.pair (.arr 4 (.int .u64)) .unit)) (.pair (.int .i64) .unit))) (.pair (.pair (.arr 4 (.int .u64)) (.pair (.arr 4 (.int .u64)) .unit)) (.pair (.int .i64) .unit))) (unpR (.pair (.pair (.pair .bool (.pair (.int .i64) .unit)) (.pair (.pair (.arr 4 (.int .u64)) (.pair (.arr 4 (.int .u64)) .unit)) (.pair (.int .i64) .unit))) (.pair (.int .i64) .unit))) G) := ⟨_, fun _ => rfl, c_barrier_Bar_with⟩
  obtain ⟨G72, hG72, cG72⟩ : ∃ G : ((.pair (.pair (.arr 4 (.int .u64)) (.pair (.arr 4 (.int .u64)) .unit)) (.pair (.int .i64) .unit)) : Ty).den → Option (((List Int) × (List Int) × Unit) × Int × Unit), (∀ x, G x = roll_Resign x.1 x.2.1) ∧ PCon Go.Proofs.Tryd.prog 72 (liftF (.pair (.pair (.arr 4 (.int .u64)) (.pair (.arr 4 (.int .u64)) .unit)) (.pair (.int .i64) .unit)) (unpR (.pair (.pair (.arr 4 (.int .u64)) (.pair (.arr 4 (.int .u64)) .unit)) (.pair (.int .i64) .unit))) G) := ⟨_, fun _ => rfl, c_roll_Resign⟩
  obtain ⟨fns, hfns, hf⟩ : ∃ fns, fns = [(31, liftF (.pair (.pair (.pair .bool (.pair (.int .i64) .unit)) (.pair (.pair (.arr 4 (.int .u64)) (.pair (.arr 4 (.int .u64)) .unit)) (.pair (.int .i64) .unit))) .unit) (unpack .bool) G31), (69, liftF (.pair (.pair (.pair .bool (.pair (.int .i64) .unit)) (.pair (.pair (.arr 4 (.int .u64)) (.pair (.arr 4 (.int .u64)) .unit)) (.pair (.int .i64) .unit))) (.pair (.pair (.arr 4 (.int .u64)) (.pair (.arr 4 (.int .u64)) .unit)) (.pair (.int .i64) .unit))) (unpR (.pair (.pair (.pair .bool (.pair (.int .i64) .unit)) (.pair (.pair (.arr 4 (.int .u64)) (.pair (.arr 4 (.int .u64)) .unit)) (.pair (.int .i64) .unit))) (.pair (.int .i64) .unit))) G69), (72, liftF (.pair (.pair (.arr 4 (.int .u64)) (.pair (.arr 4 (.int .u64)) .unit)) (.pair (.int .i64) .unit)) (unpR (.pair (.pair (.arr 4 (.int .u64)) (.pair (.arr 4 (.int .u64)) .unit)) (.pair (.int .i64) .unit))) G72)] ∧ FnsOk Go.Proofs.Tryd.prog fns := ⟨_, rfl, FnsOk.cons cG31 (FnsOk.cons cG69 (FnsOk.cons cG72 (FnsOk.nil _)))⟩
  refine lift_con (E := E_barrier_Resign fns) (c := bodyOf Tryd.f25) (nt := 20) (rs := [.cell 4 38, .tmp 5]) (ts := [38, 40]) (EnvC.sub tt_ok et_ok hf (PrsOk.nil _) (ItsOk.nil _) tt_barrier_Resign_ok et_barrier_Resign_ok) (PrOk.of mixed_ok) Go.Proofs.Tryd.func25 rfl (by decide) rfl rfl rfl (pureR_many (e := (.pair (.pair (.pair .bool (.pair (.int .i64) .unit)) (.pair (.pair (.arr 4 (.int .u64)) (.pair (.arr 4 (.int .u64)) .unit)) (.pair (.int .i64) .unit))) (.pair (.int .i64) .unit))) rfl) ?_
  subst hfns
  intro x r hw hs
  repeat'
    (try (conv => whnf)
     first
       | (with_reducible have hs := letv_out hs)
       | (refine draw_and (by kernel_rfl) ?_)
       | (refine both_mk ?_ ?_)
       | (refine br_bool (fun h => ?_) (fun h => ?_) <;> first | have hs := cT h hs | have hs := cF h hs)
       | (refine bind_elim hs fun v hb hs => ?_; first | refine callK_liftG hG31 rfl hb ?_ | refine callK_liftG hG69 rfl hb ?_ | refine callK_liftG hG72 rfl hb ?_)
       | refine chk_elim hs fun hs => ?_
       | (have hs := letv_out hs)
       | exact fin_some hs rfl
       | (intro b hb; first | have hs := nilq_elim hs b hb | have hs := nilqn_elim hs b hb)
       | (have hs := cT rfl hs)
       | (have hs := cF rfl hs)
       | exact (none_ne hs).elim)
end Go.Proofs.YtkpobmmabmelfaaDoorV
