import Derived.Test.YtkpobmmabmelfaaDoorVcTab
import Derived.Test.YtkpobmmabmelfaaDoorDDBar
import Derived.Test.YtkpobmmabmelfaaDoorCbitset
namespace Go.Proofs.YtkpobmmabmelfaaDoorV
open Go.Proofs
set_option linter.unusedVariables false
noncomputable def lf_roll_Fine : List AV → Option AV := liftF (.pair (.pair (.arr 4 (.int .u64)) (.pair (.arr 4 (.int .u64)) .unit)) .unit) (unpack .bool) (fun x => roll_Fine x.1)
def tt_roll_Fine : List (Nat × Ty) := [(4, .bool), (34, .arr 4 (.int .u64)), (36, .pair (.arr 4 (.int .u64)) (.pair (.arr 4 (.int .u64)) .unit))]
def et_roll_Fine : List (Nat × Nat) := []
theorem tt_roll_Fine_ok : subT tt tt_roll_Fine = true := by kernel_rfl
theorem et_roll_Fine_ok : subE et et_roll_Fine = true := by kernel_rfl
def kp_roll_Fine : List (Nat × List Nat) := [(0, [1]), (1, [2]), (4000000, [1]), (4000001, [])]
def od_roll_Fine : List (Nat × Ord) := []
noncomputable def E_roll_Fine (fns : List (Nat × (List AV → Option AV))) : Env := ⟨0, 0, et_roll_Fine, tt_roll_Fine, fns, [], od_roll_Fine, kp_roll_Fine, none, []⟩
set_option maxRecDepth 100000 in
set_option maxHeartbeats 40000000 in
theorem c_roll_Fine : PCon Go.Proofs.Tryd.prog 79 lf_roll_Fine := by
  obtain ⟨G102, hG102, cG102⟩ : ∃ G : ((.pair (.arr 4 (.int .u64)) (.pair (.arr 4 (.int .u64)) .unit)) : Ty).den → Option Bool, (∀ x, G x = bitset_Sub x.1 x.2.1) ∧ PCon Go.Proofs.Tryd.prog 102 (liftF (.pair (.arr 4 (.int .u64)) (.pair (.arr 4 (.int .u64)) .unit)) (unpack .bool) G) := ⟨_, fun _ => rfl, c_bitset_Sub⟩
  obtain ⟨fns, hfns, hf⟩ : ∃ fns, fns = [(102, liftF (.pair (.arr 4 (.int .u64)) (.pair (.arr 4 (.int .u64)) .unit)) (unpack .bool) G102)] ∧ FnsOk Go.Proofs.Tryd.prog fns := ⟨_, rfl, FnsOk.cons cG102 (FnsOk.nil _)⟩
  refine lift_con (E := E_roll_Fine fns) (c := bodyOf Tryd.f79) (nt := 14) (rs := [.tmp 2]) (ts := [4]) (EnvC.sub tt_ok et_ok hf (PrsOk.nil _) (ItsOk.nil _) tt_roll_Fine_ok et_roll_Fine_ok) (PrOk.of mixed_ok) Go.Proofs.Tryd.func79 rfl (by decide) rfl rfl rfl (pureR_one (e := .bool) rfl) ?_
  subst hfns
  intro x r hw hs
  repeat'
    (try (conv => whnf)
     first
       | (with_reducible have hs := letv_out hs)
       | (refine draw_and (by kernel_rfl) ?_)
       | (refine both_mk ?_ ?_)
       | (refine br_bool (fun h => ?_) (fun h => ?_) <;> first | have hs := cT h hs | have hs := cF h hs)
       | (refine bind_elim hs fun v hb hs => ?_; first | refine callK_liftG hG102 rfl hb ?_)
       | refine chk_elim hs fun hs => ?_
       | (have hs := letv_out hs)
       | exact fin_some hs rfl
       | (intro b hb; first | have hs := nilq_elim hs b hb | have hs := nilqn_elim hs b hb)
       | (have hs := cT rfl hs)
       | (have hs := cF rfl hs)
       | exact (none_ne hs).elim)
noncomputable def lf_roll_Full : List AV → Option AV := liftF (.pair (.pair (.arr 4 (.int .u64)) (.pair (.arr 4 (.int .u64)) .unit)) .unit) (unpack .bool) (fun x => roll_Full x.1)
def tt_roll_Full : List (Nat × Ty) := [(4, .bool), (34, .arr 4 (.int .u64)), (36, .pair (.arr 4 (.int .u64)) (.pair (.arr 4 (.int .u64)) .unit))]
def et_roll_Full : List (Nat × Nat) := []
theorem tt_roll_Full_ok : subT tt tt_roll_Full = true := by kernel_rfl
theorem et_roll_Full_ok : subE et et_roll_Full = true := by kernel_rfl
def kp_roll_Full : List (Nat × List Nat) := [(0, [1]), (1, [2]), (4000000, [1]), (4000001, [])]
def od_roll_Full : List (Nat × Ord) := []
noncomputable def E_roll_Full (fns : List (Nat × (List AV → Option AV))) : Env := ⟨0, 0, et_roll_Full, tt_roll_Full, fns, [], od_roll_Full, kp_roll_Full, none, []⟩
set_option maxRecDepth 100000 in
set_option maxHeartbeats 40000000 in
theorem c_roll_Full : PCon Go.Proofs.Tryd.prog 64 lf_roll_Full := by
  obtain ⟨G79, hG79, cG79⟩ : ∃ G : ((.pair (.pair (.arr 4 (.int .u64)) (.pair (.arr 4 (.int .u64)) .unit)) .unit) : Ty).den → Option Bool, (∀ x, G x = roll_Fine x.1) ∧ PCon Go.Proofs.Tryd.prog 79 (liftF (.pair (.pair (.arr 4 (.int .u64)) (.pair (.arr 4 (.int .u64)) .unit)) .unit) (unpack .bool) G) := ⟨_, fun _ => rfl, c_roll_Fine⟩
  obtain ⟨fns, hfns, hf⟩ : ∃ fns, fns = [(79, liftF (.pair (.pair (.arr 4 (.int .u64)) (.pair (.arr 4 (.int .u64)) .unit)) .unit) (unpack .bool) G79)] ∧ FnsOk Go.Proofs.Tryd.prog fns := ⟨_, rfl, FnsOk.cons cG79 (FnsOk.nil _)⟩
  refine lift_con (E := E_roll_Full fns) (c := bodyOf Tryd.f64) (nt := 18) (rs := [.tmp 2]) (ts := [4]) (EnvC.sub tt_ok et_ok hf (PrsOk.nil _) (ItsOk.nil _) tt_roll_Full_ok et_roll_Full_ok) (PrOk.of mixed_ok) Go.Proofs.Tryd.func64 rfl (by decide) rfl rfl rfl (pureR_one (e := .bool) rfl) ?_
  subst hfns
  intro x r hw hs
  repeat'
    (try (conv => whnf)
     first
       | (with_reducible have hs := letv_out hs)
       | (refine draw_and (by kernel_rfl) ?_)
       | (refine both_mk ?_ ?_)
       | (refine br_bool (fun h => ?_) (fun h => ?_) <;> first | have hs := cT h hs | have hs := cF h hs)
       | (refine bind_elim hs fun v hb hs => ?_; first | refine callK_liftG hG79 rfl hb ?_)
       | refine chk_elim hs fun hs => ?_
       | (have hs := letv_out hs)
       | exact fin_some hs rfl
       | (intro b hb; first | have hs := nilq_elim hs b hb | have hs := nilqn_elim hs b hb)
       | (have hs := cT rfl hs)
       | (have hs := cF rfl hs)
       | exact (none_ne hs).elim)
noncomputable def lf_roll_Fire : List AV → Option AV := liftF (.pair (.pair (.arr 4 (.int .u64)) (.pair (.arr 4 (.int .u64)) .unit)) .unit) (unpR (.pair (.pair (.arr 4 (.int .u64)) (.pair (.arr 4 (.int .u64)) .unit)) (.pair (.sl (.int .i64)) (.pair (.int .i64) .unit)))) (fun x => roll_Fire x.1)
def tt_roll_Fire : List (Nat × Ty) := [(4, .bool), (24, .sl (.int .i64)), (34, .arr 4 (.int .u64)), (36, .pair (.arr 4 (.int .u64)) (.pair (.arr 4 (.int .u64)) .unit)), (40, .int .i64)]
def et_roll_Fire : List (Nat × Nat) := [(24, 3)]
theorem tt_roll_Fire_ok : subT tt tt_roll_Fire = true := by kernel_rfl
theorem et_roll_Fire_ok : subE et et_roll_Fire = true := by kernel_rfl
def kp_roll_Fire : List (Nat × List Nat) := [(0, [1, 2]), (1, [1, 2, 6]), (2, [2, 3, 4]), (3, [1, 2, 11]), (4, [2, 3, 4]), (5, [1, 2, 5]), (6, [1, 2, 5]), (7, [2, 3, 4]), (4000000, [1, 2]), (4000001, [1, 2]), (4000002, [2]), (4000003, [1, 2]), (4000004, [2]), (4000005, [1, 2]), (4000006, [1, 2]), (4000007, [2])]
def od_roll_Fire : List (Nat × Ord) := []
noncomputable def E_roll_Fire (fns : List (Nat × (List AV → Option AV))) : Env := ⟨0, 0, et_roll_Fire, tt_roll_Fire, fns, [], od_roll_Fire, kp_roll_Fire, none, []⟩
set_option maxRecDepth 100000 in
set_option maxHeartbeats 40000000 in
theorem c_roll_Fire : PCon Go.Proofs.Tryd.prog 61 lf_roll_Fire := by
  obtain ⟨G64, hG64, cG64⟩ : ∃ G : ((.pair (.pair (.arr 4 (.int .u64)) (.pair (.arr 4 (.int .u64)) .unit)) .unit) : Ty).den → Option Bool, (∀ x, G x = roll_Full x.1) ∧ PCon Go.Proofs.Tryd.prog 64 (liftF (.pair (.pair (.arr 4 (.int .u64)) (.pair (.arr 4 (.int .u64)) .unit)) .unit) (unpack .bool) G) := ⟨_, fun _ => rfl, c_roll_Full⟩
  obtain ⟨G79, hG79, cG79⟩ : ∃ G : ((.pair (.pair (.arr 4 (.int .u64)) (.pair (.arr 4 (.int .u64)) .unit)) .unit) : Ty).den → Option Bool, (∀ x, G x = roll_Fine x.1) ∧ PCon Go.Proofs.Tryd.prog 79 (liftF (.pair (.pair (.arr 4 (.int .u64)) (.pair (.arr 4 (.int .u64)) .unit)) .unit) (unpack .bool) G) := ⟨_, fun _ => rfl, c_roll_Fine⟩
  obtain ⟨G94, hG94, cG94⟩ : ∃ G : ((.pair (.arr 4 (.int .u64)) .unit) : Ty).den → Option (List Int), (∀ x, G x = bitset_List x.1) ∧ PCon Go.Proofs.Tryd.prog 94 (liftF (.pair (.arr 4 (.int .u64)) .unit) (unpack (.sl (.int .i64))) G) := ⟨_, fun _ => rfl, c_bitset_List⟩
  obtain ⟨fns, hfns, hf⟩ : ∃ fns, fns = [(64, liftF (.pair (.pair (.arr 4 (.int .u64)) (.pair (.arr 4 (.int .u64)) .unit)) .unit) (unpack .bool) G64), (79, liftF (.pair (.pair (.arr 4 (.int .u64)) (.pair (.arr 4 (.int .u64)) .unit)) .unit) (unpack .bool) G79), (94, liftF (.pair (.arr 4 (.int .u64)) .unit) (unpack (.sl (.int .i64))) G94)] ∧ FnsOk Go.Proofs.Tryd.prog fns := ⟨_, rfl, FnsOk.cons cG64 (FnsOk.cons cG79 (FnsOk.cons cG94 (FnsOk.nil _)))⟩
  refine lift_con (E := E_roll_Fire fns) (c := bodyOf Tryd.f61) (nt := 23) (rs := [.cell 2 36, .tmp 3, .tmp 4]) (ts := [36, 24, 40]) (EnvC.sub tt_ok et_ok hf (PrsOk.nil _) (ItsOk.nil _) tt_roll_Fire_ok et_roll_Fire_ok) (PrOk.of mixed_ok) Go.Proofs.Tryd.func61 rfl (by decide) rfl rfl rfl (pureR_many (e := (.pair (.pair (.arr 4 (.int .u64)) (.pair (.arr 4 (.int .u64)) .unit)) (.pair (.sl (.int .i64)) (.pair (.int .i64) .unit)))) rfl) ?_
  subst hfns
  intro x r hw hs
  repeat'
    (try (conv => whnf)
     first
       | (with_reducible have hs := letv_out hs)
       | (refine draw_and (by kernel_rfl) ?_)
       | (refine both_mk ?_ ?_)
       | (refine br_bool (fun h => ?_) (fun h => ?_) <;> first | have hs := cT h hs | have hs := cF h hs)
       | (refine bind_elim hs fun v hb hs => ?_; first | refine callK_liftG hG64 rfl hb ?_ | refine callK_liftG hG79 rfl hb ?_ | refine callK_liftG hG94 rfl hb ?_)
       | refine chk_elim hs fun hs => ?_
       | (have hs := letv_out hs)
       | exact fin_some hs rfl
       | (intro b hb; first | have hs := nilq_elim hs b hb | have hs := nilqn_elim hs b hb)
       | (have hs := cT rfl hs)
       | (have hs := cF rfl hs)
       | exact (none_ne hs).elim)
noncomputable def lf_roll_asked : List AV → Option AV := liftF (.pair (.pair (.arr 4 (.int .u64)) (.pair (.arr 4 (.int .u64)) .unit)) (.pair (.int .i64) .unit)) (unpack (.int .i64)) (fun x => roll_asked x.1 x.2.1)
def tt_roll_asked : List (Nat × Ty) := [(3, .int .i64), (4, .bool), (34, .arr 4 (.int .u64)), (36, .pair (.arr 4 (.int .u64)) (.pair (.arr 4 (.int .u64)) .unit)), (40, .int .i64)]
def et_roll_asked : List (Nat × Nat) := []
theorem tt_roll_asked_ok : subT tt tt_roll_asked = true := by kernel_rfl
theorem et_roll_asked_ok : subE et et_roll_asked = true := by kernel_rfl
def kp_roll_asked : List (Nat × List Nat) := [(0, [1, 2]), (1, [1, 5]), (2, [4]), (3, [9]), (4, [4]), (5, [4]), (4000000, [2]), (4000001, []), (4000002, []), (4000003, []), (4000004, []), (4000005, [])]
def od_roll_asked : List (Nat × Ord) := []
noncomputable def E_roll_asked (fns : List (Nat × (List AV → Option AV))) : Env := ⟨0, 0, et_roll_asked, tt_roll_asked, fns, [], od_roll_asked, kp_roll_asked, none, []⟩
set_option maxRecDepth 100000 in
set_option maxHeartbeats 40000000 in
theorem c_roll_asked : PCon Go.Proofs.Tryd.prog 95 lf_roll_asked := by
  obtain ⟨G36, hG36, cG36⟩ : ∃ G : ((.pair (.arr 4 (.int .u64)) (.pair (.int .i64) .unit)) : Ty).den → Option Bool, (∀ x, G x = bitset_Has x.1 x.2.1) ∧ PCon Go.Proofs.Tryd.prog 36 (liftF (.pair (.arr 4 (.int .u64)) (.pair (.int .i64) .unit)) (unpack .bool) G) := ⟨_, fun _ => rfl, c_bitset_Has⟩
  obtain ⟨G79, hG79, cG79⟩ : ∃ G : ((.pair (.pair (.arr 4 (.int .u64)) (.pair (.arr 4 (.int .u64)) .unit)) .unit) : Ty).den → Option Bool, (∀ x, G x = roll_Fine x.1) ∧ PCon Go.Proofs.Tryd.prog 79 (liftF (.pair (.pair (.arr 4 (.int .u64)) (.pair (.arr 4 (.int .u64)) .unit)) .unit) (unpack .bool) G) := ⟨_, fun _ => rfl, c_roll_Fine⟩
  obtain ⟨fns, hfns, hf⟩ : ∃ fns, fns = [(36, liftF (.pair (.arr 4 (.int .u64)) (.pair (.int .i64) .unit)) (unpack .bool) G36), (79, liftF (.pair (.pair (.arr 4 (.int .u64)) (.pair (.arr 4 (.int .u64)) .unit)) .unit) (unpack .bool) G79)] ∧ FnsOk Go.Proofs.Tryd.prog fns := ⟨_, rfl, FnsOk.cons cG36 (FnsOk.cons cG79 (FnsOk.nil _))⟩
  refine lift_con (E := E_roll_asked fns) (c := bodyOf Tryd.f95) (nt := 14) (rs := [.tmp 4]) (ts := [40]) (EnvC.sub tt_ok et_ok hf (PrsOk.nil _) (ItsOk.nil _) tt_roll_asked_ok et_roll_asked_ok) (PrOk.of mixed_ok) Go.Proofs.Tryd.func95 rfl (by decide) rfl rfl rfl (pureR_one (e := (.int .i64)) rfl) ?_
  subst hfns
  intro x r hw hs
  repeat'
    (try (conv => whnf)
     first
       | (with_reducible have hs := letv_out hs)
       | (refine draw_and (by kernel_rfl) ?_)
       | (refine both_mk ?_ ?_)
       | (refine br_bool (fun h => ?_) (fun h => ?_) <;> first | have hs := cT h hs | have hs := cF h hs)
       | (refine bind_elim hs fun v hb hs => ?_; first | refine callK_liftG hG36 rfl hb ?_ | refine callK_liftG hG79 rfl hb ?_)
       | refine chk_elim hs fun hs => ?_
       | (have hs := letv_out hs)
       | exact fin_some hs rfl
       | (intro b hb; first | have hs := nilq_elim hs b hb | have hs := nilqn_elim hs b hb)
       | (have hs := cT rfl hs)
       | (have hs := cF rfl hs)
       | exact (none_ne hs).elim)
noncomputable def lf_roll_Enrol : List AV → Option AV := liftF (.pair (.pair (.arr 4 (.int .u64)) (.pair (.arr 4 (.int .u64)) .unit)) (.pair (.int .i64) .unit)) (unpR (.pair (.pair (.arr 4 (.int .u64)) (.pair (.arr 4 (.int .u64)) .unit)) (.pair (.int .i64) .unit))) (fun x => roll_Enrol x.1 x.2.1)
def tt_roll_Enrol : List (Nat × Ty) := [(3, .int .i64), (34, .arr 4 (.int .u64)), (36, .pair (.arr 4 (.int .u64)) (.pair (.arr 4 (.int .u64)) .unit)), (40, .int .i64)]
def et_roll_Enrol : List (Nat × Nat) := []
theorem tt_roll_Enrol_ok : subT tt tt_roll_Enrol = true := by kernel_rfl
theorem et_roll_Enrol_ok : subE et et_roll_Enrol = true := by kernel_rfl
def kp_roll_Enrol : List (Nat × List Nat) := [(0, [1, 2, 4]), (1, [1, 2, 4, 6]), (2, [1, 2, 4, 6, 11]), (3, [4, 5]), (4, [1, 2, 4, 17]), (5, [4, 5]), (6, [2, 4]), (7, [4, 5]), (4000000, [2, 4]), (4000001, [2, 4]), (4000002, [2, 4]), (4000003, [4]), (4000004, [2, 4]), (4000005, [4]), (4000006, [2, 4]), (4000007, [4])]
def od_roll_Enrol : List (Nat × Ord) := []
noncomputable def E_roll_Enrol (fns : List (Nat × (List AV → Option AV))) : Env := ⟨0, 0, et_roll_Enrol, tt_roll_Enrol, fns, [], od_roll_Enrol, kp_roll_Enrol, none, []⟩
set_option maxRecDepth 100000 in
set_option maxHeartbeats 40000000 in
theorem c_roll_Enrol : PCon Go.Proofs.Tryd.prog 70 lf_roll_Enrol := by
  obtain ⟨G36, hG36, cG36⟩ : ∃ G : ((.pair (.arr 4 (.int .u64)) (.pair (.int .i64) .unit)) : Ty).den → Option Bool, (∀ x, G x = bitset_Has x.1 x.2.1) ∧ PCon Go.Proofs.Tryd.prog 36 (liftF (.pair (.arr 4 (.int .u64)) (.pair (.int .i64) .unit)) (unpack .bool) G) := ⟨_, fun _ => rfl, c_bitset_Has⟩
  obtain ⟨G95, hG95, cG95⟩ : ∃ G : ((.pair (.pair (.arr 4 (.int .u64)) (.pair (.arr 4 (.int .u64)) .unit)) (.pair (.int .i64) .unit)) : Ty).den → Option Int, (∀ x, G x = roll_asked x.1 x.2.1) ∧ PCon Go.Proofs.Tryd.prog 95 (liftF (.pair (.pair (.arr 4 (.int .u64)) (.pair (.arr 4 (.int .u64)) .unit)) (.pair (.int .i64) .unit)) (unpack (.int .i64)) G) := ⟨_, fun _ => rfl, c_roll_asked⟩
  obtain ⟨G96, hG96, cG96⟩ : ∃ G : ((.pair (.arr 4 (.int .u64)) (.pair (.int .i64) .unit)) : Ty).den → Option (List Int), (∀ x, G x = bitset_Add x.1 x.2.1) ∧ PCon Go.Proofs.Tryd.prog 96 (liftF (.pair (.arr 4 (.int .u64)) (.pair (.int .i64) .unit)) (unpack (.arr 4 (.int .u64))) G) := ⟨_, fun _ => rfl, c_bitset_Add⟩
  obtain ⟨fns, hfns, hf⟩ : ∃ fns, fns = [(36, liftF (.pair (.arr 4 (.int .u64)) (.pair (.int .i64) .unit)) (unpack .bool) G36), (95, liftF (.pair (.pair (.arr 4 (.int .u64)) (.pair (.arr 4 (.int .u64)) .unit)) (.pair (.int .i64) .unit)) (unpack (.int .i64)) G95), (96, liftF (.pair (.arr 4 (.int .u64)) (.pair (.int .i64) .unit)) (unpack (.arr 4 (.int .u64))) G96)] ∧ FnsOk Go.Proofs.Tryd.prog fns := ⟨_, rfl, FnsOk.cons cG36 (FnsOk.cons cG95 (FnsOk.cons cG96 (FnsOk.nil _)))⟩
  refine lift_con (E := E_roll_Enrol fns) (c := bodyOf Tryd.f70) (nt := 25) (rs := [.cell 4 36, .tmp 5]) (ts := [36, 40]) (EnvC.sub tt_ok et_ok hf (PrsOk.nil _) (ItsOk.nil _) tt_roll_Enrol_ok et_roll_Enrol_ok) (PrOk.of mixed_ok) Go.Proofs.Tryd.func70 rfl (by decide) rfl rfl rfl (pureR_many (e := (.pair (.pair (.arr 4 (.int .u64)) (.pair (.arr 4 (.int .u64)) .unit)) (.pair (.int .i64) .unit))) rfl) ?_
  subst hfns
  intro x r hw hs
  repeat'
    (try (conv => whnf)
     first
       | (with_reducible have hs := letv_out hs)
       | (refine draw_and (by kernel_rfl) ?_)
       | (refine both_mk ?_ ?_)
       | (refine br_bool (fun h => ?_) (fun h => ?_) <;> first | have hs := cT h hs | have hs := cF h hs)
       | (refine bind_elim hs fun v hb hs => ?_; first | refine callK_liftG hG36 rfl hb ?_ | refine callK_liftG hG95 rfl hb ?_ | refine callK_liftG hG96 rfl hb ?_)
       | refine chk_elim hs fun hs => ?_
       | (have hs := letv_out hs)
       | exact fin_some hs rfl
       | (intro b hb; first | have hs := nilq_elim hs b hb | have hs := nilqn_elim hs b hb)
       | (have hs := cT rfl hs)
       | (have hs := cF rfl hs)
       | exact (none_ne hs).elim)
noncomputable def lf_roll_Offer : List AV → Option AV := liftF (.pair (.pair (.arr 4 (.int .u64)) (.pair (.arr 4 (.int .u64)) .unit)) (.pair (.int .i64) .unit)) (unpR (.pair (.pair (.arr 4 (.int .u64)) (.pair (.arr 4 (.int .u64)) .unit)) (.pair (.int .i64) .unit))) (fun x => roll_Offer x.1 x.2.1)
def tt_roll_Offer : List (Nat × Ty) := [(3, .int .i64), (4, .bool), (34, .arr 4 (.int .u64)), (36, .pair (.arr 4 (.int .u64)) (.pair (.arr 4 (.int .u64)) .unit)), (40, .int .i64)]
def et_roll_Offer : List (Nat × Nat) := []
theorem tt_roll_Offer_ok : subT tt tt_roll_Offer = true := by kernel_rfl
theorem et_roll_Offer_ok : subE et et_roll_Offer = true := by kernel_rfl
def kp_roll_Offer : List (Nat × List Nat) := [(0, [1, 2, 4]), (1, [1, 2, 4, 6]), (2, [1, 2, 4, 6, 10]), (3, [4, 5]), (4, [1, 2, 4, 15]), (5, [4, 5]), (6, [1, 2, 4, 22]), (7, [4, 5]), (8, [2, 4]), (9, [4, 5]), (4000000, [2, 4]), (4000001, [2, 4]), (4000002, [2, 4]), (4000003, [4]), (4000004, [2, 4]), (4000005, [4]), (4000006, [2, 4]), (4000007, [4]), (4000008, [2, 4]), (4000009, [4])]
def od_roll_Offer : List (Nat × Ord) := []
noncomputable def E_roll_Offer (fns : List (Nat × (List AV → Option AV))) : Env := ⟨0, 0, et_roll_Offer, tt_roll_Offer, fns, [], od_roll_Offer, kp_roll_Offer, none, []⟩
set_option maxRecDepth 100000 in
set_option maxHeartbeats 40000000 in
theorem c_roll_Offer : PCon Go.Proofs.Tryd.prog 74 lf_roll_Offer := by
  obtain ⟨G36, hG36, cG36⟩ : ∃ G : ((.pair (.arr 4 (.int .u64)) (.pair (.int .i64) .unit)) : Ty).den → Option Bool, (∀ x, G x = bitset_Has x.1 x.2.1) ∧ PCon Go.Proofs.Tryd.prog 36 (liftF (.pair (.arr 4 (.int .u64)) (.pair (.int .i64) .unit)) (unpack .bool) G) := ⟨_, fun _ => rfl, c_bitset_Has⟩
  obtain ⟨G95, hG95, cG95⟩ : ∃ G : ((.pair (.pair (.arr 4 (.int .u64)) (.pair (.arr 4 (.int .u64)) .unit)) (.pair (.int .i64) .unit)) : Ty).den → Option Int, (∀ x, G x = roll_asked x.1 x.2.1) ∧ PCon Go.Proofs.Tryd.prog 95 (liftF (.pair (.pair (.arr 4 (.int .u64)) (.pair (.arr 4 (.int .u64)) .unit)) (.pair (.int .i64) .unit)) (unpack (.int .i64)) G) := ⟨_, fun _ => rfl, c_roll_asked⟩
  obtain ⟨G96, hG96, cG96⟩ : ∃ G : ((.pair (.arr 4 (.int .u64)) (.pair (.int .i64) .unit)) : Ty).den → Option (List Int), (∀ x, G x = bitset_Add x.1 x.2.1) ∧ PCon Go.Proofs.Tryd.prog 96 (liftF (.pair (.arr 4 (.int .u64)) (.pair (.int .i64) .unit)) (unpack (.arr 4 (.int .u64))) G) := ⟨_, fun _ => rfl, c_bitset_Add⟩
  obtain ⟨fns, hfns, hf⟩ : ∃ fns, fns = [(36, liftF (.pair (.arr 4 (.int .u64)) (.pair (.int .i64) .unit)) (unpack .bool) G36), (95, liftF (.pair (.pair (.arr 4 (.int .u64)) (.pair (.arr 4 (.int .u64)) .unit)) (.pair (.int .i64) .unit)) (unpack (.int .i64)) G95), (96, liftF (.pair (.arr 4 (.int .u64)) (.pair (.int .i64) .unit)) (unpack (.arr 4 (.int .u64))) G96)] ∧ FnsOk Go.Proofs.Tryd.prog fns := ⟨_, rfl, FnsOk.cons cG36 (FnsOk.cons cG95 (FnsOk.cons cG96 (FnsOk.nil _)))⟩
  refine lift_con (E := E_roll_Offer fns) (c := bodyOf Tryd.f74) (nt := 34) (rs := [.cell 4 36, .tmp 5]) (ts := [36, 40]) (EnvC.sub tt_ok et_ok hf (PrsOk.nil _) (ItsOk.nil _) tt_roll_Offer_ok et_roll_Offer_ok) (PrOk.of mixed_ok) Go.Proofs.Tryd.func74 rfl (by decide) rfl rfl rfl (pureR_many (e := (.pair (.pair (.arr 4 (.int .u64)) (.pair (.arr 4 (.int .u64)) .unit)) (.pair (.int .i64) .unit))) rfl) ?_
  subst hfns
  intro x r hw hs
  repeat'
    (try (conv => whnf)
     first
       | (with_reducible have hs := letv_out hs)
       | (refine draw_and (by kernel_rfl) ?_)
       | (refine both_mk ?_ ?_)
       | (refine br_bool (fun h => ?_) (fun h => ?_) <;> first | have hs := cT h hs | have hs := cF h hs)
       | (refine bind_elim hs fun v hb hs => ?_; first | refine callK_liftG hG36 rfl hb ?_ | refine callK_liftG hG95 rfl hb ?_ | refine callK_liftG hG96 rfl hb ?_)
       | refine chk_elim hs fun hs => ?_
       | (have hs := letv_out hs)
       | exact fin_some hs rfl
       | (intro b hb; first | have hs := nilq_elim hs b hb | have hs := nilqn_elim hs b hb)
       | (have hs := cT rfl hs)
       | (have hs := cF rfl hs)
       | exact (none_ne hs).elim)
noncomputable def lf_roll_Withdraw : List AV → Option AV := liftF (.pair (.pair (.arr 4 (.int .u64)) (.pair (.arr 4 (.int .u64)) .unit)) (.pair (.int .i64) .unit)) (unpR (.pair (.pair (.arr 4 (.int .u64)) (.pair (.arr 4 (.int .u64)) .unit)) (.pair .bool .unit))) (fun x => roll_Withdraw x.1 x.2.1)
def tt_roll_Withdraw : List (Nat × Ty) := [(3, .int .i64), (4, .bool), (34, .arr 4 (.int .u64)), (36, .pair (.arr 4 (.int .u64)) (.pair (.arr 4 (.int .u64)) .unit))]
def et_roll_Withdraw : List (Nat × Nat) := []
theorem tt_roll_Withdraw_ok : subT tt tt_roll_Withdraw = true := by kernel_rfl
theorem et_roll_Withdraw_ok : subE et et_roll_Withdraw = true := by kernel_rfl
def kp_roll_Withdraw : List (Nat × List Nat) := [(0, [1, 2, 4]), (1, [1, 2, 4, 15]), (2, [4, 5]), (3, [2, 4]), (4, [4, 5]), (4000000, [2, 4]), (4000001, [2, 4]), (4000002, [4]), (4000003, [2, 4]), (4000004, [4])]
def od_roll_Withdraw : List (Nat × Ord) := []
noncomputable def E_roll_Withdraw (fns : List (Nat × (List AV → Option AV))) : Env := ⟨0, 0, et_roll_Withdraw, tt_roll_Withdraw, fns, [], od_roll_Withdraw, kp_roll_Withdraw, none, []⟩
set_option maxRecDepth 100000 in
set_option maxHeartbeats 40000000 in
theorem c_roll_Withdraw : PCon Go.Proofs.Tryd.prog 76 lf_roll_Withdraw := by
  obtain ⟨G36, hG36, cG36⟩ : ∃ G : ((.pair (.arr 4 (.int .u64)) (.pair (.int .i64) .unit)) : Ty).den → Option Bool, (∀ x, G x = bitset_Has x.1 x.2.1) ∧ PCon Go.Proofs.Tryd.prog 36 (liftF (.pair (.arr 4 (.int .u64)) (.pair (.int .i64) .unit)) (unpack .bool) G) := ⟨_, fun _ => rfl, c_bitset_Has⟩
  obtain ⟨G79, hG79, cG79⟩ : ∃ G : ((.pair (.pair (.arr 4 (.int .u64)) (.pair (.arr 4 (.int .u64)) .unit)) .unit) : Ty).den → Option Bool, (∀ x, G x = roll_Fine x.1) ∧ PCon Go.Proofs.Tryd.prog 79 (liftF (.pair (.pair (.arr 4 (.int .u64)) (.pair (.arr 4 (.int .u64)) .unit)) .unit) (unpack .bool) G) := ⟨_, fun _ => rfl, c_roll_Fine⟩
  obtain ⟨G100, hG100, cG100⟩ : ∃ G : ((.pair (.arr 4 (.int .u64)) (.pair (.int .i64) .unit)) : Ty).den → Option (List Int), (∀ x, G x = bitset_Drop x.1 x.2.1) ∧ PCon Go.Proofs.Tryd.prog 100 (liftF (.pair (.arr 4 (.int .u64)) (.pair (.int .i64) .unit)) (unpack (.arr 4 (.int .u64))) G) := ⟨_, fun _ => rfl, c_bitset_Drop⟩
  obtain ⟨fns, hfns, hf⟩ : ∃ fns, fns = [(36, liftF (.pair (.arr 4 (.int .u64)) (.pair (.int .i64) .unit)) (unpack .bool) G36), (79, liftF (.pair (.pair (.arr 4 (.int .u64)) (.pair (.arr 4 (.int .u64)) .unit)) .unit) (unpack .bool) G79), (100, liftF (.pair (.arr 4 (.int .u64)) (.pair (.int .i64) .unit)) (unpack (.arr 4 (.int .u64))) G100)] ∧ FnsOk Go.Proofs.Tryd.prog fns := ⟨_, rfl, FnsOk.cons cG36 (FnsOk.cons cG79 (FnsOk.cons cG100 (FnsOk.nil _)))⟩
  refine lift_con (E := E_roll_Withdraw fns) (c := bodyOf Tryd.f76) (nt := 23) (rs := [.cell 4 36, .tmp 5]) (ts := [36, 4]) (EnvC.sub tt_ok et_ok hf (PrsOk.nil _) (ItsOk.nil _) tt_roll_Withdraw_ok et_roll_Withdraw_ok) (PrOk.of mixed_ok) Go.Proofs.Tryd.func76 rfl (by decide) rfl rfl rfl (pureR_many (e := (.pair (.pair (.arr 4 (.int .u64)) (.pair (.arr 4 (.int .u64)) .unit)) (.pair .bool .unit))) rfl) ?_
  subst hfns
  intro x r hw hs
  repeat'
    (try (conv => whnf)
     first
       | (with_reducible have hs := letv_out hs)
       | (refine draw_and (by kernel_rfl) ?_)
       | (refine both_mk ?_ ?_)
       | (refine br_bool (fun h => ?_) (fun h => ?_) <;> first | have hs := cT h hs | have hs := cF h hs)
       | (refine bind_elim hs fun v hb hs => ?_; first | refine callK_liftG hG36 rfl hb ?_ | refine callK_liftG hG79 rfl hb ?_ | refine callK_liftG hG100 rfl hb ?_)
       | refine chk_elim hs fun hs => ?_
       | (have hs := letv_out hs)
       | exact fin_some hs rfl
       | (intro b hb; first | have hs := nilq_elim hs b hb | have hs := nilqn_elim hs b hb)
       | (have hs := cT rfl hs)
       | (have hs := cF rfl hs)
       | exact (none_ne hs).elim)
noncomputable def lf_roll_Resign : List AV → Option AV := liftF (.pair (.pair (.arr 4 (.int .u64)) (.pair (.arr 4 (.int .u64)) .unit)) (.pair (.int .i64) .unit)) (unpR (.pair (.pair (.arr 4 (.int .u64)) (.pair (.arr 4 (.int .u64)) .unit)) (.pair (.int .i64) .unit))) (fun x => roll_Resign x.1 x.2.1)
def tt_roll_Resign : List (Nat × Ty) := [(3, .int .i64), (4, .bool), (34, .arr 4 (.int .u64)), (36, .pair (.arr 4 (.int .u64)) (.pair (.arr 4 (.int .u64)) .unit)), (40, .int .i64)]
def et_roll_Resign : List (Nat × Nat) := []
theorem tt_roll_Resign_ok : subT tt tt_roll_Resign = true := by kernel_rfl
theorem et_roll_Resign_ok : subE et et_roll_Resign = true := by kernel_rfl
def kp_roll_Resign : List (Nat × List Nat) := [(0, [1, 2, 4]), (1, [1, 2, 4, 6]), (2, [1, 2, 4, 6, 11]), (3, [4, 5]), (4, [1, 2, 4, 18]), (5, [4, 5]), (6, [2, 4]), (7, [4, 5]), (4000000, [2, 4]), (4000001, [2, 4]), (4000002, [2, 4]), (4000003, [4]), (4000004, [2, 4]), (4000005, [4]), (4000006, [2, 4]), (4000007, [4])]
def od_roll_Resign : List (Nat × Ord) := [(6, (.one 0 (.one 1 (.one 2 (.one 4 (.one 5 (.one 6 (.one 3 (.one 8 (.one 7 (.one 100009 (.one 10 (.one 100011 .nil)))))))))))))]
noncomputable def E_roll_Resign (fns : List (Nat × (List AV → Option AV))) : Env := ⟨0, 0, et_roll_Resign, tt_roll_Resign, fns, [], od_roll_Resign, kp_roll_Resign, none, []⟩
set_option maxRecDepth 100000 in
set_option maxHeartbeats 40000000 in
theorem c_roll_Resign : PCon Go.Proofs.Tryd.prog 72 lf_roll_Resign := by
  obtain ⟨G36, hG36, cG36⟩ : ∃ G : ((.pair (.arr 4 (.int .u64)) (.pair (.int .i64) .unit)) : Ty).den → Option Bool, (∀ x, G x = bitset_Has x.1 x.2.1) ∧ PCon Go.Proofs.Tryd.prog 36 (liftF (.pair (.arr 4 (.int .u64)) (.pair (.int .i64) .unit)) (unpack .bool) G) := ⟨_, fun _ => rfl, c_bitset_Has⟩
  obtain ⟨G95, hG95, cG95⟩ : ∃ G : ((.pair (.pair (.arr 4 (.int .u64)) (.pair (.arr 4 (.int .u64)) .unit)) (.pair (.int .i64) .unit)) : Ty).den → Option Int, (∀ x, G x = roll_asked x.1 x.2.1) ∧ PCon Go.Proofs.Tryd.prog 95 (liftF (.pair (.pair (.arr 4 (.int .u64)) (.pair (.arr 4 (.int .u64)) .unit)) (.pair (.int .i64) .unit)) (unpack (.int .i64)) G) := ⟨_, fun _ => rfl, c_roll_asked⟩
  obtain ⟨G100, hG100, cG100⟩ : ∃ G : ((.pair (.arr 4 (.int .u64)) (.pair (.int .i64) .unit)) : Ty).den → Option (List Int), (∀ x, G x = bitset_Drop x.1 x.2.1) ∧ PCon Go.Proofs.Tryd.prog 100 (liftF (.pair (.arr 4 (.int .u64)) (.pair (.int .i64) .unit)) (unpack (.arr 4 (.int .u64))) G) := ⟨_, fun _ => rfl, c_bitset_Drop⟩
  obtain ⟨fns, hfns, hf⟩ : ∃ fns, fns = [(36, liftF (.pair (.arr 4 (.int .u64)) (.pair (.int .i64) .unit)) (unpack .bool) G36), (95, liftF (.pair (.pair (.arr 4 (.int .u64)) (.pair (.arr 4 (.int .u64)) .unit)) (.pair (.int .i64) .unit)) (unpack (.int .i64)) G95), (100, liftF (.pair (.arr 4 (.int .u64)) (.pair (.int .i64) .unit)) (unpack (.arr 4 (.int .u64))) G100)] ∧ FnsOk Go.Proofs.Tryd.prog fns := ⟨_, rfl, FnsOk.cons cG36 (FnsOk.cons cG95 (FnsOk.cons cG100 (FnsOk.nil _)))⟩
  refine lift_con (E := E_roll_Resign fns) (c := bodyOf Tryd.f72) (nt := 31) (rs := [.cell 4 36, .tmp 5]) (ts := [36, 40]) (EnvC.sub tt_ok et_ok hf (PrsOk.nil _) (ItsOk.nil _) tt_roll_Resign_ok et_roll_Resign_ok) (PrOk.of mixed_ok) Go.Proofs.Tryd.func72 rfl (by decide) rfl rfl rfl (pureR_many (e := (.pair (.pair (.arr 4 (.int .u64)) (.pair (.arr 4 (.int .u64)) .unit)) (.pair (.int .i64) .unit))) rfl) ?_
  subst hfns
  intro x r hw hs
  repeat'
    (try (conv => whnf)
     first
       | (with_reducible have hs := letv_out hs)
       | (refine draw_and (by kernel_rfl) ?_)
       | (refine both_mk ?_ ?_)
       | (refine br_bool (fun h => ?_) (fun h => ?_) <;> first | have hs := cT h hs | have hs := cF h hs)
       | (refine bind_elim hs fun v hb hs => ?_; first | refine callK_liftG hG36 rfl hb ?_ | refine callK_liftG hG95 rfl hb ?_ | refine callK_liftG hG100 rfl hb ?_)
       | refine chk_elim hs fun hs => ?_
       | (have hs := letv_out hs)
       | exact fin_some hs rfl
       | (intro b hb; first | have hs := nilq_elim hs b hb | have hs := nilqn_elim hs b hb)
       | (have hs := cT rfl hs)
       | (have hs := cF rfl hs)
       | exact (none_ne hs).elim)
end Go.Proofs.YtkpobmmabmelfaaDoorV
