import Derived.Test.YtejedlpnejjnbaaDoorVcTab
import Derived.Test.YtejedlpnejjnbaaDoorDroll
import Derived.Test.YtejedlpnejjnbaaDoorCbitset
namespace Go.Proofs.YtejedlpnejjnbaaDoorV
open Go.Proofs
set_option linter.unusedVariables false
noncomputable def lf_roll_Fine : List AV → Option AV := liftF (.pair (.pair (.arr 4 (.int .u64)) (.pair (.arr 4 (.int .u64)) .unit)) .unit) (unpack .bool) (fun x => roll_Fine x.1)
def tt_roll_Fine : List (Nat × Ty) := [(4, .bool), (26, .arr 4 (.int .u64)), (52, .pair (.arr 4 (.int .u64)) (.pair (.arr 4 (.int .u64)) .unit))]
def et_roll_Fine : List (Nat × Nat) := []
theorem tt_roll_Fine_ok : subT tt tt_roll_Fine = true := by kernel_rfl
theorem et_roll_Fine_ok : subE et et_roll_Fine = true := by kernel_rfl
def kp_roll_Fine : List (Nat × List Nat) := [(0, [1]), (1, [2]), (4000000, [1]), (4000001, [])]
def od_roll_Fine : List (Nat × Ord) := []
noncomputable def E_roll_Fine (fns : List (Nat × (List AV → Option AV))) : Env := ⟨0, 0, et_roll_Fine, tt_roll_Fine, fns, [], od_roll_Fine, kp_roll_Fine, none, []⟩
set_option maxRecDepth 100000 in
set_option maxHeartbeats 40000000 in
theorem c_roll_Fine : PCon Go.Proofs.Tryd.prog 46 lf_roll_Fine := by
  obtain ⟨G32, hG32, cG32⟩ : ∃ G : ((.pair (.arr 4 (.int .u64)) (.pair (.arr 4 (.int .u64)) .unit)) : Ty).den → Option Bool, (∀ x, G x = bitset_Sub x.1 x.2.1) ∧ PCon Go.Proofs.Tryd.prog 32 (liftF (.pair (.arr 4 (.int .u64)) (.pair (.arr 4 (.int .u64)) .unit)) (unpack .bool) G) := ⟨_, fun _ => rfl, c_bitset_Sub⟩
  obtain ⟨fns, hfns, hf⟩ : ∃ fns, fns = [(32, liftF (.pair (.arr 4 (.int .u64)) (.pair (.arr 4 (.int .u64)) .unit)) (unpack .bool) G32)] ∧ FnsOk Go.Proofs.Tryd.prog fns := ⟨_, rfl, FnsOk.cons cG32 (FnsOk.nil _)⟩
  refine lift_con (E := E_roll_Fine fns) (c := bodyOf Tryd.f46) (nt := 14) (rs := [.tmp 2]) (ts := [4]) (EnvC.sub tt_ok et_ok hf (PrsOk.nil _) (ItsOk.nil _) tt_roll_Fine_ok et_roll_Fine_ok) (PrOk.of mixed_ok) Go.Proofs.Tryd.func46 rfl (by decide) rfl rfl rfl (pureR_one (e := .bool) rfl) ?_
  subst hfns
  intro x r hw hs
  repeat'
    (try (conv => whnf)
     first
       | (with_reducible have hs := letv_out hs)
       | (refine draw_and (by kernel_rfl) ?_)
       | (refine both_mk ?_ ?_)
       | (refine br_bool (fun h => ?_) (fun h => ?_) <;> first | have hs := cT h hs | have hs := cF h hs)
       | (refine bind_elim hs fun v hb hs => ?_; first | refine callK_liftG hG32 rfl hb ?_)
       | refine chk_elim hs fun hs => ?_
       | (have hs := letv_out hs)
       | exact fin_some hs rfl
       | (intro b hb; first | have hs := nilq_elim hs b hb | have hs := nilqn_elim hs b hb)
       | (have hs := cT rfl hs)
       | (have hs := cF rfl hs)
       | exact (none_ne hs).elim)
noncomputable def lf_roll_asked : List AV → Option AV := liftF (.pair (.pair (.arr 4 (.int .u64)) (.pair (.arr 4 (.int .u64)) .unit)) (.pair (.int .i64) .unit)) (unpack (.int .i64)) (fun x => roll_asked x.1 x.2.1)
def tt_roll_asked : List (Nat × Ty) := [(3, .int .i64), (4, .bool), (26, .arr 4 (.int .u64)), (52, .pair (.arr 4 (.int .u64)) (.pair (.arr 4 (.int .u64)) .unit)), (54, .int .i64)]
def et_roll_asked : List (Nat × Nat) := []
theorem tt_roll_asked_ok : subT tt tt_roll_asked = true := by kernel_rfl
theorem et_roll_asked_ok : subE et et_roll_asked = true := by kernel_rfl
def kp_roll_asked : List (Nat × List Nat) := [(0, [1, 2]), (1, [1, 5]), (2, [4]), (3, [9]), (4, [4]), (5, [4]), (4000000, [2]), (4000001, []), (4000002, []), (4000003, []), (4000004, []), (4000005, [])]
def od_roll_asked : List (Nat × Ord) := []
noncomputable def E_roll_asked (fns : List (Nat × (List AV → Option AV))) : Env := ⟨0, 0, et_roll_asked, tt_roll_asked, fns, [], od_roll_asked, kp_roll_asked, none, []⟩
set_option maxRecDepth 100000 in
set_option maxHeartbeats 40000000 in
theorem c_roll_asked : PCon Go.Proofs.Tryd.prog 61 lf_roll_asked := by
  obtain ⟨G19, hG19, cG19⟩ : ∃ G : ((.pair (.arr 4 (.int .u64)) (.pair (.int .i64) .unit)) : Ty).den → Option Bool, (∀ x, G x = bitset_Has x.1 x.2.1) ∧ PCon Go.Proofs.Tryd.prog 19 (liftF (.pair (.arr 4 (.int .u64)) (.pair (.int .i64) .unit)) (unpack .bool) G) := ⟨_, fun _ => rfl, c_bitset_Has⟩
  obtain ⟨G46, hG46, cG46⟩ : ∃ G : ((.pair (.pair (.arr 4 (.int .u64)) (.pair (.arr 4 (.int .u64)) .unit)) .unit) : Ty).den → Option Bool, (∀ x, G x = roll_Fine x.1) ∧ PCon Go.Proofs.Tryd.prog 46 (liftF (.pair (.pair (.arr 4 (.int .u64)) (.pair (.arr 4 (.int .u64)) .unit)) .unit) (unpack .bool) G) := ⟨_, fun _ => rfl, c_roll_Fine⟩
  obtain ⟨fns, hfns, hf⟩ : ∃ fns, fns = [(19, liftF (.pair (.arr 4 (.int .u64)) (.pair (.int .i64) .unit)) (unpack .bool) G19), (46, liftF (.pair (.pair (.arr 4 (.int .u64)) (.pair (.arr 4 (.int .u64)) .unit)) .unit) (unpack .bool) G46)] ∧ FnsOk Go.Proofs.Tryd.prog fns := ⟨_, rfl, FnsOk.cons cG19 (FnsOk.cons cG46 (FnsOk.nil _))⟩
  refine lift_con (E := E_roll_asked fns) (c := bodyOf Tryd.f61) (nt := 14) (rs := [.tmp 4]) (ts := [54]) (EnvC.sub tt_ok et_ok hf (PrsOk.nil _) (ItsOk.nil _) tt_roll_asked_ok et_roll_asked_ok) (PrOk.of mixed_ok) Go.Proofs.Tryd.func61 rfl (by decide) rfl rfl rfl (pureR_one (e := (.int .i64)) rfl) ?_
  subst hfns
  intro x r hw hs
  repeat'
    (try (conv => whnf)
     first
       | (with_reducible have hs := letv_out hs)
       | (refine draw_and (by kernel_rfl) ?_)
       | (refine both_mk ?_ ?_)
       | (refine br_bool (fun h => ?_) (fun h => ?_) <;> first | have hs := cT h hs | have hs := cF h hs)
       | (refine bind_elim hs fun v hb hs => ?_; first | refine callK_liftG hG19 rfl hb ?_ | refine callK_liftG hG46 rfl hb ?_)
       | refine chk_elim hs fun hs => ?_
       | (have hs := letv_out hs)
       | exact fin_some hs rfl
       | (intro b hb; first | have hs := nilq_elim hs b hb | have hs := nilqn_elim hs b hb)
       | (have hs := cT rfl hs)
       | (have hs := cF rfl hs)
       | exact (none_ne hs).elim)
noncomputable def lf_roll_Enrol : List AV → Option AV := liftF (.pair (.pair (.arr 4 (.int .u64)) (.pair (.arr 4 (.int .u64)) .unit)) (.pair (.int .i64) .unit)) (unpR (.pair (.pair (.arr 4 (.int .u64)) (.pair (.arr 4 (.int .u64)) .unit)) (.pair (.int .i64) .unit))) (fun x => roll_Enrol x.1 x.2.1)
def tt_roll_Enrol : List (Nat × Ty) := [(3, .int .i64), (26, .arr 4 (.int .u64)), (52, .pair (.arr 4 (.int .u64)) (.pair (.arr 4 (.int .u64)) .unit)), (54, .int .i64)]
def et_roll_Enrol : List (Nat × Nat) := []
theorem tt_roll_Enrol_ok : subT tt tt_roll_Enrol = true := by kernel_rfl
theorem et_roll_Enrol_ok : subE et et_roll_Enrol = true := by kernel_rfl
def kp_roll_Enrol : List (Nat × List Nat) := [(0, [1, 2, 4]), (1, [1, 2, 4, 6]), (2, [1, 2, 4, 6, 11]), (3, [4, 5]), (4, [1, 2, 4, 17]), (5, [4, 5]), (6, [2, 4]), (7, [4, 5]), (4000000, [2, 4]), (4000001, [2, 4]), (4000002, [2, 4]), (4000003, [4]), (4000004, [2, 4]), (4000005, [4]), (4000006, [2, 4]), (4000007, [4])]
def od_roll_Enrol : List (Nat × Ord) := []
noncomputable def E_roll_Enrol (fns : List (Nat × (List AV → Option AV))) : Env := ⟨0, 0, et_roll_Enrol, tt_roll_Enrol, fns, [], od_roll_Enrol, kp_roll_Enrol, none, []⟩
set_option maxRecDepth 100000 in
set_option maxHeartbeats 40000000 in
theorem c_roll_Enrol : PCon Go.Proofs.Tryd.prog 36 lf_roll_Enrol := by
  obtain ⟨G19, hG19, cG19⟩ : ∃ G : ((.pair (.arr 4 (.int .u64)) (.pair (.int .i64) .unit)) : Ty).den → Option Bool, (∀ x, G x = bitset_Has x.1 x.2.1) ∧ PCon Go.Proofs.Tryd.prog 19 (liftF (.pair (.arr 4 (.int .u64)) (.pair (.int .i64) .unit)) (unpack .bool) G) := ⟨_, fun _ => rfl, c_bitset_Has⟩
  obtain ⟨G21, hG21, cG21⟩ : ∃ G : ((.pair (.arr 4 (.int .u64)) (.pair (.int .i64) .unit)) : Ty).den → Option (List Int), (∀ x, G x = bitset_Add x.1 x.2.1) ∧ PCon Go.Proofs.Tryd.prog 21 (liftF (.pair (.arr 4 (.int .u64)) (.pair (.int .i64) .unit)) (unpack (.arr 4 (.int .u64))) G) := ⟨_, fun _ => rfl, c_bitset_Add⟩
  obtain ⟨G61, hG61, cG61⟩ : ∃ G : ((.pair (.pair (.arr 4 (.int .u64)) (.pair (.arr 4 (.int .u64)) .unit)) (.pair (.int .i64) .unit)) : Ty).den → Option Int, (∀ x, G x = roll_asked x.1 x.2.1) ∧ PCon Go.Proofs.Tryd.prog 61 (liftF (.pair (.pair (.arr 4 (.int .u64)) (.pair (.arr 4 (.int .u64)) .unit)) (.pair (.int .i64) .unit)) (unpack (.int .i64)) G) := ⟨_, fun _ => rfl, c_roll_asked⟩
  obtain ⟨fns, hfns, hf⟩ : ∃ fns, fns = [(19, liftF (.pair (.arr 4 (.int .u64)) (.pair (.int .i64) .unit)) (unpack .bool) G19), (21, liftF (.pair (.arr 4 (.int .u64)) (.pair (.int .i64) .unit)) (unpack (.arr 4 (.int .u64))) G21), (61, liftF (.pair (.pair (.arr 4 (.int .u64)) (.pair (.arr 4 (.int .u64)) .unit)) (.pair (.int .i64) .unit)) (unpack (.int .i64)) G61)] ∧ FnsOk Go.Proofs.Tryd.prog fns := ⟨_, rfl, FnsOk.cons cG19 (FnsOk.cons cG21 (FnsOk.cons cG61 (FnsOk.nil _)))⟩
  refine lift_con (E := E_roll_Enrol fns) (c := bodyOf Tryd.f36) (nt := 25) (rs := [.cell 4 52, .tmp 5]) (ts := [52, 54]) (EnvC.sub tt_ok et_ok hf (PrsOk.nil _) (ItsOk.nil _) tt_roll_Enrol_ok et_roll_Enrol_ok) (PrOk.of mixed_ok) Go.Proofs.Tryd.func36 rfl (by decide) rfl rfl rfl (pureR_many (e := (.pair (.pair (.arr 4 (.int .u64)) (.pair (.arr 4 (.int .u64)) .unit)) (.pair (.int .i64) .unit))) rfl) ?_
  subst hfns
  intro x r hw hs
  repeat'
    (try (conv => whnf)
     first
       | (with_reducible have hs := letv_out hs)
       | (refine draw_and (by kernel_rfl) ?_)
       | (refine both_mk ?_ ?_)
       | (refine br_bool (fun h => ?_) (fun h => ?_) <;> first | have hs := cT h hs | have hs := cF h hs)
       | (refine bind_elim hs fun v hb hs => ?_; first | refine callK_liftG hG19 rfl hb ?_ | refine callK_liftG hG21 rfl hb ?_ | refine callK_liftG hG61 rfl hb ?_)
       | refine chk_elim hs fun hs => ?_
       | (have hs := letv_out hs)
       | exact fin_some hs rfl
       | (intro b hb; first | have hs := nilq_elim hs b hb | have hs := nilqn_elim hs b hb)
       | (have hs := cT rfl hs)
       | (have hs := cF rfl hs)
       | exact (none_ne hs).elim)
noncomputable def lf_roll_Resign : List AV → Option AV := liftF (.pair (.pair (.arr 4 (.int .u64)) (.pair (.arr 4 (.int .u64)) .unit)) (.pair (.int .i64) .unit)) (unpR (.pair (.pair (.arr 4 (.int .u64)) (.pair (.arr 4 (.int .u64)) .unit)) (.pair (.int .i64) .unit))) (fun x => roll_Resign x.1 x.2.1)
def tt_roll_Resign : List (Nat × Ty) := [(3, .int .i64), (4, .bool), (26, .arr 4 (.int .u64)), (52, .pair (.arr 4 (.int .u64)) (.pair (.arr 4 (.int .u64)) .unit)), (54, .int .i64)]
def et_roll_Resign : List (Nat × Nat) := []
theorem tt_roll_Resign_ok : subT tt tt_roll_Resign = true := by kernel_rfl
theorem et_roll_Resign_ok : subE et et_roll_Resign = true := by kernel_rfl
def kp_roll_Resign : List (Nat × List Nat) := [(0, [1, 2, 4]), (1, [1, 2, 4, 6]), (2, [1, 2, 4, 6, 11]), (3, [4, 5]), (4, [1, 2, 4, 18]), (5, [4, 5]), (6, [2, 4]), (7, [4, 5]), (4000000, [2, 4]), (4000001, [2, 4]), (4000002, [2, 4]), (4000003, [4]), (4000004, [2, 4]), (4000005, [4]), (4000006, [2, 4]), (4000007, [4])]
def od_roll_Resign : List (Nat × Ord) := [(6, (.one 0 (.one 1 (.one 2 (.one 4 (.one 5 (.one 6 (.one 3 (.one 8 (.one 7 (.one 100009 (.one 10 (.one 100011 .nil)))))))))))))]
noncomputable def E_roll_Resign (fns : List (Nat × (List AV → Option AV))) : Env := ⟨0, 0, et_roll_Resign, tt_roll_Resign, fns, [], od_roll_Resign, kp_roll_Resign, none, []⟩
set_option maxRecDepth 100000 in
set_option maxHeartbeats 40000000 in
theorem c_roll_Resign : PCon Go.Proofs.Tryd.prog 38 lf_roll_Resign := by
  obtain ⟨G19, hG19, cG19⟩ : ∃ G : ((.pair (.arr 4 (.int .u64)) (.pair (.int .i64) .unit)) : Ty).den → Option Bool, (∀ x, G x = bitset_Has x.1 x.2.1) ∧ PCon Go.Proofs.Tryd.prog 19 (liftF (.pair (.arr 4 (.int .u64)) (.pair (.int .i64) .unit)) (unpack .bool) G) := ⟨_, fun _ => rfl, c_bitset_Has⟩
  obtain ⟨G23, hG23, cG23⟩ : ∃ G : ((.pair (.arr 4 (.int .u64)) (.pair (.int .i64) .unit)) : Ty).den → Option (List Int), (∀ x, G x = bitset_Drop x.1 x.2.1) ∧ PCon Go.Proofs.Tryd.prog 23 (liftF (.pair (.arr 4 (.int .u64)) (.pair (.int .i64) .unit)) (unpack (.arr 4 (.int .u64))) G) := ⟨_, fun _ => rfl, c_bitset_Drop⟩
  obtain ⟨G61, hG61, cG61⟩ : ∃ G : ((.pair (.pair (.arr 4 (.int .u64)) (.pair (.arr 4 (.int .u64)) .unit)) (.pair (.int .i64) .unit)) : Ty).den → Option Int, (∀ x, G x = roll_asked x.1 x.2.1) ∧ PCon Go.Proofs.Tryd.prog 61 (liftF (.pair (.pair (.arr 4 (.int .u64)) (.pair (.arr 4 (.int .u64)) .unit)) (.pair (.int .i64) .unit)) (unpack (.int .i64)) G) := ⟨_, fun _ => rfl, c_roll_asked⟩
  obtain ⟨fns, hfns, hf⟩ : ∃ fns, fns = [(19, liftF (.pair (.arr 4 (.int .u64)) (.pair (.int .i64) .unit)) (unpack .bool) G19), (23, liftF (.pair (.arr 4 (.int .u64)) (.pair (.int .i64) .unit)) (unpack (.arr 4 (.int .u64))) G23), (61, liftF (.pair (.pair (.arr 4 (.int .u64)) (.pair (.arr 4 (.int .u64)) .unit)) (.pair (.int .i64) .unit)) (unpack (.int .i64)) G61)] ∧ FnsOk Go.Proofs.Tryd.prog fns := ⟨_, rfl, FnsOk.cons cG19 (FnsOk.cons cG23 (FnsOk.cons cG61 (FnsOk.nil _)))⟩
  refine lift_con (E := E_roll_Resign fns) (c := bodyOf Tryd.f38) (nt := 31) (rs := [.cell 4 52, .tmp 5]) (ts := [52, 54]) (EnvC.sub tt_ok et_ok hf (PrsOk.nil _) (ItsOk.nil _) tt_roll_Resign_ok et_roll_Resign_ok) (PrOk.of mixed_ok) Go.Proofs.Tryd.func38 rfl (by decide) rfl rfl rfl (pureR_many (e := (.pair (.pair (.arr 4 (.int .u64)) (.pair (.arr 4 (.int .u64)) .unit)) (.pair (.int .i64) .unit))) rfl) ?_
  subst hfns
  intro x r hw hs
  repeat'
    (try (conv => whnf)
     first
       | (with_reducible have hs := letv_out hs)
       | (refine draw_and (by kernel_rfl) ?_)
       | (refine both_mk ?_ ?_)
       | (refine br_bool (fun h => ?_) (fun h => ?_) <;> first | have hs := cT h hs | have hs := cF h hs)
       | (refine bind_elim hs fun v hb hs => ?_; first | refine callK_liftG hG19 rfl hb ?_ | refine callK_liftG hG23 rfl hb ?_ | refine callK_liftG hG61 rfl hb ?_)
       | refine chk_elim hs fun hs => ?_
       | (have hs := letv_out hs)
       | exact fin_some hs rfl
       | (intro b hb; first | have hs := nilq_elim hs b hb | have hs := nilqn_elim hs b hb)
       | (have hs := cT rfl hs)
       | (have hs := cF rfl hs)
       | exact (none_ne hs).elim)
noncomputable def lf_roll_Offer : List AV → Option AV := liftF (.pair (.pair (.arr 4 (.int .u64)) (.pair (.arr 4 (.int .u64)) .unit)) (.pair (.int .i64) .unit)) (unpR (.pair (.pair (.arr 4 (.int .u64)) (.pair (.arr 4 (.int .u64)) .unit)) (.pair (.int .i64) .unit))) (fun x => roll_Offer x.1 x.2.1)
def tt_roll_Offer : List (Nat × Ty) := [(3, .int .i64), (4, .bool), (26, .arr 4 (.int .u64)), (52, .pair (.arr 4 (.int .u64)) (.pair (.arr 4 (.int .u64)) .unit)), (54, .int .i64)]
def et_roll_Offer : List (Nat × Nat) := []
theorem tt_roll_Offer_ok : subT tt tt_roll_Offer = true := by kernel_rfl
theorem et_roll_Offer_ok : subE et et_roll_Offer = true := by kernel_rfl
def kp_roll_Offer : List (Nat × List Nat) := [(0, [1, 2, 4]), (1, [1, 2, 4, 6]), (2, [1, 2, 4, 6, 10]), (3, [4, 5]), (4, [1, 2, 4, 15]), (5, [4, 5]), (6, [1, 2, 4, 22]), (7, [4, 5]), (8, [2, 4]), (9, [4, 5]), (4000000, [2, 4]), (4000001, [2, 4]), (4000002, [2, 4]), (4000003, [4]), (4000004, [2, 4]), (4000005, [4]), (4000006, [2, 4]), (4000007, [4]), (4000008, [2, 4]), (4000009, [4])]
def od_roll_Offer : List (Nat × Ord) := []
noncomputable def E_roll_Offer (fns : List (Nat × (List AV → Option AV))) : Env := ⟨0, 0, et_roll_Offer, tt_roll_Offer, fns, [], od_roll_Offer, kp_roll_Offer, none, []⟩
set_option maxRecDepth 100000 in
set_option maxHeartbeats 40000000 in
theorem c_roll_Offer : PCon Go.Proofs.Tryd.prog 40 lf_roll_Offer := by
  obtain ⟨G19, hG19, cG19⟩ : ∃ G : ((.pair (.arr 4 (.int .u64)) (.pair (.int .i64) .unit)) : Ty).den → Option Bool, (∀ x, G x = bitset_Has x.1 x.2.1) ∧ PCon Go.Proofs.Tryd.prog 19 (liftF (.pair (.arr 4 (.int .u64)) (.pair (.int .i64) .unit)) (unpack .bool) G) := ⟨_, fun _ => rfl, c_bitset_Has⟩
  obtain ⟨G21, hG21, cG21⟩ : ∃ G : ((.pair (.arr 4 (.int .u64)) (.pair (.int .i64) .unit)) : Ty).den → Option (List Int), (∀ x, G x = bitset_Add x.1 x.2.1) ∧ PCon Go.Proofs.Tryd.prog 21 (liftF (.pair (.arr 4 (.int .u64)) (.pair (.int .i64) .unit)) (unpack (.arr 4 (.int .u64))) G) := ⟨_, fun _ => rfl, c_bitset_Add⟩
  obtain ⟨G61, hG61, cG61⟩ : ∃ G : ((.pair (.pair (.arr 4 (.int .u64)) (.pair (.arr 4 (.int .u64)) .unit)) (.pair (.int .i64) .unit)) : Ty).den → Option Int, (∀ x, G x = roll_asked x.1 x.2.1) ∧ PCon Go.Proofs.Tryd.prog 61 (liftF (.pair (.pair (.arr 4 (.int .u64)) (.pair (.arr 4 (.int .u64)) .unit)) (.pair (.int .i64) .unit)) (unpack (.int .i64)) G) := ⟨_, fun _ => rfl, c_roll_asked⟩
  obtain ⟨fns, hfns, hf⟩ : ∃ fns, fns = [(19, liftF (.pair (.arr 4 (.int .u64)) (.pair (.int .i64) .unit)) (unpack .bool) G19), (21, liftF (.pair (.arr 4 (.int .u64)) (.pair (.int .i64) .unit)) (unpack (.arr 4 (.int .u64))) G21), (61, liftF (.pair (.pair (.arr 4 (.int .u64)) (.pair (.arr 4 (.int .u64)) .unit)) (.pair (.int .i64) .unit)) (unpack (.int .i64)) G61)] ∧ FnsOk Go.Proofs.Tryd.prog fns := ⟨_, rfl, FnsOk.cons cG19 (FnsOk.cons cG21 (FnsOk.cons cG61 (FnsOk.nil _)))⟩
  refine lift_con (E := E_roll_Offer fns) (c := bodyOf Tryd.f40) (nt := 34) (rs := [.cell 4 52, .tmp 5]) (ts := [52, 54]) (EnvC.sub tt_ok et_ok hf (PrsOk.nil _) (ItsOk.nil _) tt_roll_Offer_ok et_roll_Offer_ok) (PrOk.of mixed_ok) Go.Proofs.Tryd.func40 rfl (by decide) rfl rfl rfl (pureR_many (e := (.pair (.pair (.arr 4 (.int .u64)) (.pair (.arr 4 (.int .u64)) .unit)) (.pair (.int .i64) .unit))) rfl) ?_
  subst hfns
  intro x r hw hs
  repeat'
    (try (conv => whnf)
     first
       | (with_reducible have hs := letv_out hs)
       | (refine draw_and (by kernel_rfl) ?_)
       | (refine both_mk ?_ ?_)
       | (refine br_bool (fun h => ?_) (fun h => ?_) <;> first | have hs := cT h hs | have hs := cF h hs)
       | (refine bind_elim hs fun v hb hs => ?_; first | refine callK_liftG hG19 rfl hb ?_ | refine callK_liftG hG21 rfl hb ?_ | refine callK_liftG hG61 rfl hb ?_)
       | refine chk_elim hs fun hs => ?_
       | (have hs := letv_out hs)
       | exact fin_some hs rfl
       | (intro b hb; first | have hs := nilq_elim hs b hb | have hs := nilqn_elim hs b hb)
       | (have hs := cT rfl hs)
       | (have hs := cF rfl hs)
       | exact (none_ne hs).elim)
noncomputable def lf_roll_Withdraw : List AV → Option AV := liftF (.pair (.pair (.arr 4 (.int .u64)) (.pair (.arr 4 (.int .u64)) .unit)) (.pair (.int .i64) .unit)) (unpR (.pair (.pair (.arr 4 (.int .u64)) (.pair (.arr 4 (.int .u64)) .unit)) (.pair .bool .unit))) (fun x => roll_Withdraw x.1 x.2.1)
def tt_roll_Withdraw : List (Nat × Ty) := [(3, .int .i64), (4, .bool), (26, .arr 4 (.int .u64)), (52, .pair (.arr 4 (.int .u64)) (.pair (.arr 4 (.int .u64)) .unit))]
def et_roll_Withdraw : List (Nat × Nat) := []
theorem tt_roll_Withdraw_ok : subT tt tt_roll_Withdraw = true := by kernel_rfl
theorem et_roll_Withdraw_ok : subE et et_roll_Withdraw = true := by kernel_rfl
def kp_roll_Withdraw : List (Nat × List Nat) := [(0, [1, 2, 4]), (1, [1, 2, 4, 15]), (2, [4, 5]), (3, [2, 4]), (4, [4, 5]), (4000000, [2, 4]), (4000001, [2, 4]), (4000002, [4]), (4000003, [2, 4]), (4000004, [4])]
def od_roll_Withdraw : List (Nat × Ord) := []
noncomputable def E_roll_Withdraw (fns : List (Nat × (List AV → Option AV))) : Env := ⟨0, 0, et_roll_Withdraw, tt_roll_Withdraw, fns, [], od_roll_Withdraw, kp_roll_Withdraw, none, []⟩
set_option maxRecDepth 100000 in
set_option maxHeartbeats 40000000 in
theorem c_roll_Withdraw : PCon Go.Proofs.Tryd.prog 42 lf_roll_Withdraw := by
  obtain ⟨G19, hG19, cG19⟩ : ∃ G : ((.pair (.arr 4 (.int .u64)) (.pair (.int .i64) .unit)) : Ty).den → Option Bool, (∀ x, G x = bitset_Has x.1 x.2.1) ∧ PCon Go.Proofs.Tryd.prog 19 (liftF (.pair (.arr 4 (.int .u64)) (.pair (.int .i64) .unit)) (unpack .bool) G) := ⟨_, fun _ => rfl, c_bitset_Has⟩
  obtain ⟨G23, hG23, cG23⟩ : ∃ G : ((.pair (.arr 4 (.int .u64)) (.pair (.int .i64) .unit)) : Ty).den → Option (List Int), (∀ x, G x = bitset_Drop x.1 x.2.1) ∧ PCon Go.Proofs.Tryd.prog 23 (liftF (.pair (.arr 4 (.int .u64)) (.pair (.int .i64) .unit)) (unpack (.arr 4 (.int .u64))) G) := ⟨_, fun _ => rfl, c_bitset_Drop⟩
  obtain ⟨G46, hG46, cG46⟩ : ∃ G : ((.pair (.pair (.arr 4 (.int .u64)) (.pair (.arr 4 (.int .u64)) .unit)) .unit) : Ty).den → Option Bool, (∀ x, G x = roll_Fine x.1) ∧ PCon Go.Proofs.Tryd.prog 46 (liftF (.pair (.pair (.arr 4 (.int .u64)) (.pair (.arr 4 (.int .u64)) .unit)) .unit) (unpack .bool) G) := ⟨_, fun _ => rfl, c_roll_Fine⟩
  obtain ⟨fns, hfns, hf⟩ : ∃ fns, fns = [(19, liftF (.pair (.arr 4 (.int .u64)) (.pair (.int .i64) .unit)) (unpack .bool) G19), (23, liftF (.pair (.arr 4 (.int .u64)) (.pair (.int .i64) .unit)) (unpack (.arr 4 (.int .u64))) G23), (46, liftF (.pair (.pair (.arr 4 (.int .u64)) (.pair (.arr 4 (.int .u64)) .unit)) .unit) (unpack .bool) G46)] ∧ FnsOk Go.Proofs.Tryd.prog fns := ⟨_, rfl, FnsOk.cons cG19 (FnsOk.cons cG23 (FnsOk.cons cG46 (FnsOk.nil _)))⟩
  refine lift_con (E := E_roll_Withdraw fns) (c := bodyOf Tryd.f42) (nt := 23) (rs := [.cell 4 52, .tmp 5]) (ts := [52, 4]) (EnvC.sub tt_ok et_ok hf (PrsOk.nil _) (ItsOk.nil _) tt_roll_Withdraw_ok et_roll_Withdraw_ok) (PrOk.of mixed_ok) Go.Proofs.Tryd.func42 rfl (by decide) rfl rfl rfl (pureR_many (e := (.pair (.pair (.arr 4 (.int .u64)) (.pair (.arr 4 (.int .u64)) .unit)) (.pair .bool .unit))) rfl) ?_
  subst hfns
  intro x r hw hs
  repeat'
    (try (conv => whnf)
     first
       | (with_reducible have hs := letv_out hs)
       | (refine draw_and (by kernel_rfl) ?_)
       | (refine both_mk ?_ ?_)
       | (refine br_bool (fun h => ?_) (fun h => ?_) <;> first | have hs := cT h hs | have hs := cF h hs)
       | (refine bind_elim hs fun v hb hs => ?_; first | refine callK_liftG hG19 rfl hb ?_ | refine callK_liftG hG23 rfl hb ?_ | refine callK_liftG hG46 rfl hb ?_)
       | refine chk_elim hs fun hs => ?_
       | (have hs := letv_out hs)
       | exact fin_some hs rfl
       | (intro b hb; first | have hs := nilq_elim hs b hb | have hs := nilqn_elim hs b hb)
       | (have hs := cT rfl hs)
       | (have hs := cF rfl hs)
       | exact (none_ne hs).elim)
noncomputable def lf_roll_Full : List AV → Option AV := liftF (.pair (.pair (.arr 4 (.int .u64)) (.pair (.arr 4 (.int .u64)) .unit)) .unit) (unpack .bool) (fun x => roll_Full x.1)
def tt_roll_Full : List (Nat × Ty) := [(4, .bool), (26, .arr 4 (.int .u64)), (52, .pair (.arr 4 (.int .u64)) (.pair (.arr 4 (.int .u64)) .unit))]
def et_roll_Full : List (Nat × Nat) := []
theorem tt_roll_Full_ok : subT tt tt_roll_Full = true := by kernel_rfl
theorem et_roll_Full_ok : subE et et_roll_Full = true := by kernel_rfl
def kp_roll_Full : List (Nat × List Nat) := [(0, [1]), (1, [2]), (4000000, [1]), (4000001, [])]
def od_roll_Full : List (Nat × Ord) := []
noncomputable def E_roll_Full (fns : List (Nat × (List AV → Option AV))) : Env := ⟨0, 0, et_roll_Full, tt_roll_Full, fns, [], od_roll_Full, kp_roll_Full, none, []⟩
set_option maxRecDepth 100000 in
set_option maxHeartbeats 40000000 in
theorem c_roll_Full : PCon Go.Proofs.Tryd.prog 50 lf_roll_Full := by
  obtain ⟨G46, hG46, cG46⟩ : ∃ G : ((.pair (.pair (.arr 4 (.int .u64)) (.pair (.arr 4 (.int .u64)) .unit)) .unit) : Ty).den → Option Bool, (∀ x, G x = roll_Fine x.1) ∧ PCon Go.Proofs.Tryd.prog 46 (liftF (.pair (.pair (.arr 4 (.int .u64)) (.pair (.arr 4 (.int .u64)) .unit)) .unit) (unpack .bool) G) := ⟨_, fun _ => rfl, c_roll_Fine⟩
  obtain ⟨fns, hfns, hf⟩ : ∃ fns, fns = [(46, liftF (.pair (.pair (.arr 4 (.int .u64)) (.pair (.arr 4 (.int .u64)) .unit)) .unit) (unpack .bool) G46)] ∧ FnsOk Go.Proofs.Tryd.prog fns := ⟨_, rfl, FnsOk.cons cG46 (FnsOk.nil _)⟩
  refine lift_con (E := E_roll_Full fns) (c := bodyOf Tryd.f50) (nt := 18) (rs := [.tmp 2]) (ts := [4]) (EnvC.sub tt_ok et_ok hf (PrsOk.nil _) (ItsOk.nil _) tt_roll_Full_ok et_roll_Full_ok) (PrOk.of mixed_ok) Go.Proofs.Tryd.func50 rfl (by decide) rfl rfl rfl (pureR_one (e := .bool) rfl) ?_
  subst hfns
  intro x r hw hs
  repeat'
    (try (conv => whnf)
     first
       | (with_reducible have hs := letv_out hs)
       | (refine draw_and (by kernel_rfl) ?_)
       | (refine both_mk ?_ ?_)
       | (refine br_bool (fun h => ?_) (fun h => ?_) <;> first | have hs := cT h hs | have hs := cF h hs)
       | (refine bind_elim hs fun v hb hs => ?_; first | refine callK_liftG hG46 rfl hb ?_)
       | refine chk_elim hs fun hs => ?_
       | (have hs := letv_out hs)
       | exact fin_some hs rfl
       | (intro b hb; first | have hs := nilq_elim hs b hb | have hs := nilqn_elim hs b hb)
       | (have hs := cT rfl hs)
       | (have hs := cF rfl hs)
       | exact (none_ne hs).elim)
noncomputable def lf_roll_Fire : List AV → Option AV := liftF (.pair (.pair (.arr 4 (.int .u64)) (.pair (.arr 4 (.int .u64)) .unit)) .unit) (unpR (.pair (.pair (.arr 4 (.int .u64)) (.pair (.arr 4 (.int .u64)) .unit)) (.pair (.sl (.int .i64)) (.pair (.int .i64) .unit)))) (fun x => roll_Fire x.1)
def tt_roll_Fire : List (Nat × Ty) := [(4, .bool), (22, .sl (.int .i64)), (26, .arr 4 (.int .u64)), (52, .pair (.arr 4 (.int .u64)) (.pair (.arr 4 (.int .u64)) .unit)), (54, .int .i64)]
def et_roll_Fire : List (Nat × Nat) := [(22, 3)]
theorem tt_roll_Fire_ok : subT tt tt_roll_Fire = true := by kernel_rfl
theorem et_roll_Fire_ok : subE et et_roll_Fire = true := by kernel_rfl
def kp_roll_Fire : List (Nat × List Nat) := [(0, [1, 2]), (1, [1, 2, 6]), (2, [2, 3, 4]), (3, [1, 2, 11]), (4, [2, 3, 4]), (5, [1, 2, 5]), (6, [1, 2, 5]), (7, [2, 3, 4]), (4000000, [1, 2]), (4000001, [1, 2]), (4000002, [2]), (4000003, [1, 2]), (4000004, [2]), (4000005, [1, 2]), (4000006, [1, 2]), (4000007, [2])]
def od_roll_Fire : List (Nat × Ord) := []
noncomputable def E_roll_Fire (fns : List (Nat × (List AV → Option AV))) : Env := ⟨0, 0, et_roll_Fire, tt_roll_Fire, fns, [], od_roll_Fire, kp_roll_Fire, none, []⟩
set_option maxRecDepth 100000 in
set_option maxHeartbeats 40000000 in
theorem c_roll_Fire : PCon Go.Proofs.Tryd.prog 48 lf_roll_Fire := by
  obtain ⟨G17, hG17, cG17⟩ : ∃ G : ((.pair (.arr 4 (.int .u64)) .unit) : Ty).den → Option (List Int), (∀ x, G x = bitset_List x.1) ∧ PCon Go.Proofs.Tryd.prog 17 (liftF (.pair (.arr 4 (.int .u64)) .unit) (unpack (.sl (.int .i64))) G) := ⟨_, fun _ => rfl, c_bitset_List⟩
  obtain ⟨G46, hG46, cG46⟩ : ∃ G : ((.pair (.pair (.arr 4 (.int .u64)) (.pair (.arr 4 (.int .u64)) .unit)) .unit) : Ty).den → Option Bool, (∀ x, G x = roll_Fine x.1) ∧ PCon Go.Proofs.Tryd.prog 46 (liftF (.pair (.pair (.arr 4 (.int .u64)) (.pair (.arr 4 (.int .u64)) .unit)) .unit) (unpack .bool) G) := ⟨_, fun _ => rfl, c_roll_Fine⟩
  obtain ⟨G50, hG50, cG50⟩ : ∃ G : ((.pair (.pair (.arr 4 (.int .u64)) (.pair (.arr 4 (.int .u64)) .unit)) .unit) : Ty).den → Option Bool, (∀ x, G x = roll_Full x.1) ∧ PCon Go.Proofs.Tryd.prog 50 (liftF (.pair (.pair (.arr 4 (.int .u64)) (.pair (.arr 4 (.int .u64)) .unit)) .unit) (unpack .bool) G) := ⟨_, fun _ => rfl, c_roll_Full⟩
  obtain ⟨fns, hfns, hf⟩ : ∃ fns, fns = [(17, liftF (.pair (.arr 4 (.int .u64)) .unit) (unpack (.sl (.int .i64))) G17), (46, liftF (.pair (.pair (.arr 4 (.int .u64)) (.pair (.arr 4 (.int .u64)) .unit)) .unit) (unpack .bool) G46), (50, liftF (.pair (.pair (.arr 4 (.int .u64)) (.pair (.arr 4 (.int .u64)) .unit)) .unit) (unpack .bool) G50)] ∧ FnsOk Go.Proofs.Tryd.prog fns := ⟨_, rfl, FnsOk.cons cG17 (FnsOk.cons cG46 (FnsOk.cons cG50 (FnsOk.nil _)))⟩
  refine lift_con (E := E_roll_Fire fns) (c := bodyOf Tryd.f48) (nt := 23) (rs := [.cell 2 52, .tmp 3, .tmp 4]) (ts := [52, 22, 54]) (EnvC.sub tt_ok et_ok hf (PrsOk.nil _) (ItsOk.nil _) tt_roll_Fire_ok et_roll_Fire_ok) (PrOk.of mixed_ok) Go.Proofs.Tryd.func48 rfl (by decide) rfl rfl rfl (pureR_many (e := (.pair (.pair (.arr 4 (.int .u64)) (.pair (.arr 4 (.int .u64)) .unit)) (.pair (.sl (.int .i64)) (.pair (.int .i64) .unit)))) rfl) ?_
  subst hfns
  intro x r hw hs
  repeat'
    (try (conv => whnf)
     first
       | (with_reducible have hs := letv_out hs)
       | (refine draw_and (by kernel_rfl) ?_)
       | (refine both_mk ?_ ?_)
       | (refine br_bool (fun h => ?_) (fun h => ?_) <;> first | have hs := cT h hs | have hs := cF h hs)
       | (refine bind_elim hs fun v hb hs => ?_; first | refine callK_liftG hG17 rfl hb ?_ | refine callK_liftG hG46 rfl hb ?_ | refine callK_liftG hG50 rfl hb ?_)
       | refine chk_elim hs fun hs => ?_
       | (have hs := letv_out hs)
       | exact fin_some hs rfl
       | (intro b hb; first | have hs := nilq_elim hs b hb | have hs := nilqn_elim hs b hb)
       | (have hs := cT rfl hs)
       | (have hs := cF rfl hs)
       | exact (none_ne hs).elim)
end Go.Proofs.YtejedlpnejjnbaaDoorV
