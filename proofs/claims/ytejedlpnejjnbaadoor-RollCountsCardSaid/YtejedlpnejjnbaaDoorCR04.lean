import Derived.Test.YtejedlpnejjnbaaDoorVcTab
import Derived.Test.YtejedlpnejjnbaaDoorDR04
namespace Go.Proofs.YtejedlpnejjnbaaDoorV
open Go.Proofs
set_option linter.unusedVariables false
noncomputable def lf_R04_Has : List AV → Option AV := liftF (.pair (.sl (.int .i64)) (.pair (.int .i64) .unit)) (unpack .bool) (fun x => R04_Has x.1 x.2.1)
def tt_R04_Has : List (Nat × Ty) := [(3, .int .i64), (4, .bool), (22, .sl (.int .i64))]
def et_R04_Has : List (Nat × Nat) := [(22, 3)]
theorem tt_R04_Has_ok : subT tt tt_R04_Has = true := by kernel_rfl
theorem et_R04_Has_ok : subE et et_R04_Has = true := by kernel_rfl
def R04_Has_S1 (u0 : AV) (u1 : AV) (x1 : Int) : St :=
  ⟨[(0, u0), (1, u1), (5, .int .i64 x1)], [], none⟩
def R04_Has_M1 : Msk := ⟨[0, 1, 5], [], [], [], [], [], [], [], []⟩
def kp_R04_Has : List (Nat × List Nat) := [(0, [0, 1]), (1, [0, 1, 5]), (2, [0, 1, 5, 9]), (3, [0, 1, 5]), (4, [0, 1, 5, 17]), (5, [4]), (6, [4]), (4000000, []), (4000001, []), (4000002, []), (4000003, []), (4000004, []), (4000005, []), (4000006, [])]
def od_R04_Has : List (Nat × Ord) := []
noncomputable def E_R04_Has (fns : List (Nat × (List AV → Option AV))) : Env := ⟨0, 0, et_R04_Has, tt_R04_Has, fns, [], od_R04_Has, kp_R04_Has, none, []⟩
set_option maxRecDepth 100000 in
set_option maxHeartbeats 40000000 in
theorem c_R04_Has : PCon Go.Proofs.Tryd.prog 20 lf_R04_Has := by
  obtain ⟨fns, hfns, hf⟩ : ∃ fns, fns = [] ∧ FnsOk Go.Proofs.Tryd.prog fns := ⟨_, rfl, FnsOk.nil _⟩
  refine lift_con (E := E_R04_Has fns) (c := bodyOf Tryd.f20) (nt := 18) (rs := [.tmp 4]) (ts := [4]) (EnvC.sub tt_ok et_ok hf (PrsOk.nil _) (ItsOk.nil _) tt_R04_Has_ok et_R04_Has_ok) (PrOk.of mixed_ok) Go.Proofs.Tryd.func20 rfl (by decide) rfl rfl rfl (pureR_one (e := .bool) rfl) ?_
  subst hfns
  intro x r hw hs
  repeat'
    (try (conv => whnf)
     first
       | (with_reducible have hs := letv_out hs)
       | (refine draw_and (by kernel_rfl) ?_)
       | (refine both_mk ?_ ?_)
       | (refine br_bool (fun h => ?_) (fun h => ?_) <;> first | have hs := cT h hs | have hs := cF h hs)
       | refine chk_elim hs fun hs => ?_
       | (have hs := letv_out hs)
       | exact fin_some hs rfl
       | (intro b hb; first | have hs := nilq_elim hs b hb | have hs := nilqn_elim hs b hb)
       | exact hJ1 _ hs
       | (have hs := cT rfl hs)
       | (have hs := cF rfl hs)
       | (refine vc_loop (R04_Has_S1 _ _) R04_Has_M1 hs rfl ?_; intro J1 k1 x1 hJ1 hs)
       | exact (none_ne hs).elim)
noncomputable def lf_R04_Of : List AV → Option AV := liftF (.pair (.sl (.int .i64)) .unit) (unpack (.sl (.int .i64))) (fun x => R04_Of x.1)
def tt_R04_Of : List (Nat × Ty) := [(3, .int .i64), (22, .sl (.int .i64))]
def et_R04_Of : List (Nat × Nat) := [(22, 3)]
theorem tt_R04_Of_ok : subT tt tt_R04_Of = true := by kernel_rfl
theorem et_R04_Of_ok : subE et et_R04_Of = true := by kernel_rfl
def R04_Of_S1 (u0 : AV) (u1 : AV) (x1 : Int × List Int) : St :=
  ⟨[(0, u0), (3, u1), (4, .int .i64 x1.1)], [(15, .row 3 (.int .i64) x1.2 false)], none⟩
def R04_Of_M1 : Msk := ⟨[0, 3, 4], [15], [(3, 15, 22)], [], [], [], [], [], []⟩
def kp_R04_Of : List (Nat × List Nat) := [(0, [0]), (1, [0, 3]), (2, [0, 3, 4]), (3, [0, 3, 4, 6]), (4, [0, 3, 4]), (5, [0, 3, 4, 11]), (6, [0, 3, 4]), (7, [2]), (4000000, []), (4000001, []), (4000002, []), (4000003, [15]), (4000004, [15]), (4000005, [15]), (4000006, [15]), (4000007, [15])]
def od_R04_Of : List (Nat × Ord) := []
noncomputable def E_R04_Of (fns : List (Nat × (List AV → Option AV))) : Env := ⟨0, 0, et_R04_Of, tt_R04_Of, fns, [], od_R04_Of, kp_R04_Of, none, []⟩
set_option maxRecDepth 100000 in
set_option maxHeartbeats 40000000 in
theorem c_R04_Of : PCon Go.Proofs.Tryd.prog 12 lf_R04_Of := by
  obtain ⟨G20, hG20, cG20⟩ : ∃ G : ((.pair (.sl (.int .i64)) (.pair (.int .i64) .unit)) : Ty).den → Option Bool, (∀ x, G x = R04_Has x.1 x.2.1) ∧ PCon Go.Proofs.Tryd.prog 20 (liftF (.pair (.sl (.int .i64)) (.pair (.int .i64) .unit)) (unpack .bool) G) := ⟨_, fun _ => rfl, c_R04_Has⟩
  obtain ⟨fns, hfns, hf⟩ : ∃ fns, fns = [(20, liftF (.pair (.sl (.int .i64)) (.pair (.int .i64) .unit)) (unpack .bool) G20)] ∧ FnsOk Go.Proofs.Tryd.prog fns := ⟨_, rfl, FnsOk.cons cG20 (FnsOk.nil _)⟩
  refine lift_con (E := E_R04_Of fns) (c := bodyOf Tryd.f12) (nt := 17) (rs := [.tmp 2]) (ts := [22]) (EnvC.sub tt_ok et_ok hf (PrsOk.nil _) (ItsOk.nil _) tt_R04_Of_ok et_R04_Of_ok) (PrOk.of mixed_ok) Go.Proofs.Tryd.func12 rfl (by decide) rfl rfl rfl (pureR_one (e := (.sl (.int .i64))) rfl) ?_
  subst hfns
  intro x r hw hs
  repeat'
    (try (conv => whnf)
     first
       | (with_reducible have hs := letv_out hs)
       | (refine draw_and (by kernel_rfl) ?_)
       | (refine both_mk ?_ ?_)
       | (refine br_bool (fun h => ?_) (fun h => ?_) <;> first | have hs := cT h hs | have hs := cF h hs)
       | (refine bind_elim hs fun v hb hs => ?_; first | refine callK_liftG hG20 rfl hb ?_)
       | refine chk_elim hs fun hs => ?_
       | (have hs := letv_out hs)
       | exact fin_some hs rfl
       | (intro b hb; first | have hs := nilq_elim hs b hb | have hs := nilqn_elim hs b hb)
       | exact hJ1 _ hs
       | (have hs := cT rfl hs)
       | (have hs := cF rfl hs)
       | (refine vc_loop (R04_Of_S1 _ _) R04_Of_M1 hs rfl ?_; intro J1 k1 x1 hJ1 hs)
       | exact (none_ne hs).elim)
noncomputable def lf_R04_fine : List AV → Option AV := liftF (.pair (.int .i64) .unit) (unpack .bool) (fun x => R04_fine x.1)
def tt_R04_fine : List (Nat × Ty) := [(3, .int .i64), (4, .bool)]
def et_R04_fine : List (Nat × Nat) := []
theorem tt_R04_fine_ok : subT tt tt_R04_fine = true := by kernel_rfl
theorem et_R04_fine_ok : subE et et_R04_fine = true := by kernel_rfl
def kp_R04_fine : List (Nat × List Nat) := [(0, [0]), (1, [2]), (4000000, []), (4000001, [])]
def od_R04_fine : List (Nat × Ord) := []
noncomputable def E_R04_fine (fns : List (Nat × (List AV → Option AV))) : Env := ⟨0, 0, et_R04_fine, tt_R04_fine, fns, [], od_R04_fine, kp_R04_fine, none, []⟩
set_option maxRecDepth 100000 in
set_option maxHeartbeats 40000000 in
theorem c_R04_fine : PCon Go.Proofs.Tryd.prog 53 lf_R04_fine := by
  obtain ⟨fns, hfns, hf⟩ : ∃ fns, fns = [] ∧ FnsOk Go.Proofs.Tryd.prog fns := ⟨_, rfl, FnsOk.nil _⟩
  refine lift_con (E := E_R04_fine fns) (c := bodyOf Tryd.f53) (nt := 9) (rs := [.tmp 2]) (ts := [4]) (EnvC.sub tt_ok et_ok hf (PrsOk.nil _) (ItsOk.nil _) tt_R04_fine_ok et_R04_fine_ok) (PrOk.of mixed_ok) Go.Proofs.Tryd.func53 rfl (by decide) rfl rfl rfl (pureR_one (e := .bool) rfl) ?_
  subst hfns
  intro x r hw hs
  repeat'
    (try (conv => whnf)
     first
       | (with_reducible have hs := letv_out hs)
       | (refine draw_and (by kernel_rfl) ?_)
       | (refine both_mk ?_ ?_)
       | (refine br_bool (fun h => ?_) (fun h => ?_) <;> first | have hs := cT h hs | have hs := cF h hs)
       | refine chk_elim hs fun hs => ?_
       | (have hs := letv_out hs)
       | exact fin_some hs rfl
       | (intro b hb; first | have hs := nilq_elim hs b hb | have hs := nilqn_elim hs b hb)
       | (have hs := cT rfl hs)
       | (have hs := cF rfl hs)
       | exact (none_ne hs).elim)
noncomputable def lf_R04_Words : List AV → Option AV := liftF (.pair (.sl (.int .i64)) .unit) (unpack (.arr 4 (.int .u64))) (fun x => R04_Words x.1)
def tt_R04_Words : List (Nat × Ty) := [(3, .int .i64), (22, .sl (.int .i64)), (24, .int .u64), (25, .arr 4 (.int .u64)), (78, .int .u64)]
def et_R04_Words : List (Nat × Nat) := [(22, 3)]
theorem tt_R04_Words_ok : subT tt tt_R04_Words = true := by kernel_rfl
theorem et_R04_Words_ok : subE et et_R04_Words = true := by kernel_rfl
def R04_Words_S1 (u0 : AV) (u1 : AV) (u2 : AV) (B4 : Blk) (x1 : Int × List Int) : St :=
  ⟨[(0, u0), (2, u1), (3, u2), (4, .int .i64 x1.1)], [(2, B4), (3, .var (.arr 4 (.int .u64)) (.arr 4 (.int .u64) x1.2) false)], none⟩
def R04_Words_M1 : Msk := ⟨[0, 2, 3, 4], [2, 3], [], [], [], [], [], [], []⟩
def kp_R04_Words : List (Nat × List Nat) := [(0, [0, 2]), (1, [0, 2, 3]), (2, [0, 2, 3, 4]), (3, [0, 2, 3, 4, 8]), (4, [0, 2, 3, 4]), (5, [0, 2, 3, 4, 15]), (6, [0, 2, 3, 4]), (7, [2]), (4000000, [2]), (4000001, [2, 3]), (4000002, [2, 3]), (4000003, [2, 3]), (4000004, [2, 3]), (4000005, [2, 3]), (4000006, [2, 3]), (4000007, [2])]
def od_R04_Words : List (Nat × Ord) := [(6, (.one 0 (.one 1 (.one 2 (.one 3 (.one 4 (.one 5 (.one 6 (.one 7 (.one 8 (.one 9 (.one 10 (.one 11 (.one 12 (.one 13 (.one 14 (.one 15 (.one 100016 .nil))))))))))))))))))]
noncomputable def E_R04_Words (fns : List (Nat × (List AV → Option AV))) : Env := ⟨0, 0, et_R04_Words, tt_R04_Words, fns, [], od_R04_Words, kp_R04_Words, none, []⟩
set_option maxRecDepth 100000 in
set_option maxHeartbeats 40000000 in
theorem c_R04_Words : PCon Go.Proofs.Tryd.prog 15 lf_R04_Words := by
  obtain ⟨G53, hG53, cG53⟩ : ∃ G : ((.pair (.int .i64) .unit) : Ty).den → Option Bool, (∀ x, G x = R04_fine x.1) ∧ PCon Go.Proofs.Tryd.prog 53 (liftF (.pair (.int .i64) .unit) (unpack .bool) G) := ⟨_, fun _ => rfl, c_R04_fine⟩
  obtain ⟨fns, hfns, hf⟩ : ∃ fns, fns = [(53, liftF (.pair (.int .i64) .unit) (unpack .bool) G53)] ∧ FnsOk Go.Proofs.Tryd.prog fns := ⟨_, rfl, FnsOk.cons cG53 (FnsOk.nil _)⟩
  refine lift_con (E := E_R04_Words fns) (c := bodyOf Tryd.f15) (nt := 33) (rs := [.cell 2 25]) (ts := [25]) (EnvC.sub tt_ok et_ok hf (PrsOk.nil _) (ItsOk.nil _) tt_R04_Words_ok et_R04_Words_ok) (PrOk.of mixed_ok) Go.Proofs.Tryd.func15 rfl (by decide) rfl rfl rfl (pureR_one (e := (.arr 4 (.int .u64))) rfl) ?_
  subst hfns
  intro x r hw hs
  repeat'
    (try (conv => whnf)
     first
       | (with_reducible have hs := letv_out hs)
       | (refine draw_and (by kernel_rfl) ?_)
       | (refine both_mk ?_ ?_)
       | (refine br_bool (fun h => ?_) (fun h => ?_) <;> first | have hs := cT h hs | have hs := cF h hs)
       | (refine bind_elim hs fun v hb hs => ?_; first | refine callK_liftG hG53 rfl hb ?_)
       | refine chk_elim hs fun hs => ?_
       | (have hs := letv_out hs)
       | exact fin_some hs rfl
       | (intro b hb; first | have hs := nilq_elim hs b hb | have hs := nilqn_elim hs b hb)
       | exact hJ1 _ hs
       | (have hs := cT rfl hs)
       | (have hs := cF rfl hs)
       | (refine vc_loop (R04_Words_S1 _ _ _ _) R04_Words_M1 hs rfl ?_; intro J1 k1 x1 hJ1 hs)
       | exact (none_ne hs).elim)
noncomputable def lf_R04_Add : List AV → Option AV := liftF (.pair (.sl (.int .i64)) (.pair (.int .i64) .unit)) (unpack (.sl (.int .i64))) (fun x => R04_Add x.1 x.2.1)
def tt_R04_Add : List (Nat × Ty) := [(22, .sl (.int .i64))]
def et_R04_Add : List (Nat × Nat) := [(22, 3)]
theorem tt_R04_Add_ok : subT tt tt_R04_Add = true := by kernel_rfl
theorem et_R04_Add_ok : subE et et_R04_Add = true := by kernel_rfl
def kp_R04_Add : List (Nat × List Nat) := [(0, [0, 1]), (1, [4]), (4000000, []), (4000001, [])]
def od_R04_Add : List (Nat × Ord) := [(1000012, .nil)]
noncomputable def E_R04_Add (fns : List (Nat × (List AV → Option AV))) : Env := ⟨0, 0, et_R04_Add, tt_R04_Add, fns, [], od_R04_Add, kp_R04_Add, none, []⟩
set_option maxRecDepth 100000 in
set_option maxHeartbeats 40000000 in
theorem c_R04_Add : PCon Go.Proofs.Tryd.prog 22 lf_R04_Add := by
  obtain ⟨G12, hG12, cG12⟩ : ∃ G : ((.pair (.sl (.int .i64)) .unit) : Ty).den → Option (List Int), (∀ x, G x = R04_Of x.1) ∧ PCon Go.Proofs.Tryd.prog 12 (liftF (.pair (.sl (.int .i64)) .unit) (unpack (.sl (.int .i64))) G) := ⟨_, fun _ => rfl, c_R04_Of⟩
  obtain ⟨fns, hfns, hf⟩ : ∃ fns, fns = [(12, liftF (.pair (.sl (.int .i64)) .unit) (unpack (.sl (.int .i64))) G12)] ∧ FnsOk Go.Proofs.Tryd.prog fns := ⟨_, rfl, FnsOk.cons cG12 (FnsOk.nil _)⟩
  refine lift_con (E := E_R04_Add fns) (c := bodyOf Tryd.f22) (nt := 11) (rs := [.tmp 4]) (ts := [22]) (EnvC.sub tt_ok et_ok hf (PrsOk.nil _) (ItsOk.nil _) tt_R04_Add_ok et_R04_Add_ok) (PrOk.of mixed_ok) Go.Proofs.Tryd.func22 rfl (by decide) rfl rfl rfl (pureR_one (e := (.sl (.int .i64))) rfl) ?_
  subst hfns
  intro x r hw hs
  repeat'
    (try (conv => whnf)
     first
       | (with_reducible have hs := letv_out hs)
       | (refine draw_and (by kernel_rfl) ?_)
       | (refine both_mk ?_ ?_)
       | (refine br_bool (fun h => ?_) (fun h => ?_) <;> first | have hs := cT h hs | have hs := cF h hs)
       | (refine bind_elim hs fun v hb hs => ?_; first | refine callK_liftG hG12 rfl hb ?_)
       | refine chk_elim hs fun hs => ?_
       | (have hs := letv_out hs)
       | exact fin_some hs rfl
       | (intro b hb; first | have hs := nilq_elim hs b hb | have hs := nilqn_elim hs b hb)
       | (have hs := cT rfl hs)
       | (have hs := cF rfl hs)
       | exact (none_ne hs).elim)
noncomputable def lf_R04_Less : List AV → Option AV := liftF (.pair (.sl (.int .i64)) (.pair (.sl (.int .i64)) .unit)) (unpack (.sl (.int .i64))) (fun x => R04_Less x.1 x.2.1)
def tt_R04_Less : List (Nat × Ty) := [(3, .int .i64), (4, .bool), (22, .sl (.int .i64))]
def et_R04_Less : List (Nat × Nat) := [(22, 3)]
theorem tt_R04_Less_ok : subT tt tt_R04_Less = true := by kernel_rfl
theorem et_R04_Less_ok : subE et et_R04_Less = true := by kernel_rfl
def R04_Less_S1 (u0 : AV) (u1 : AV) (u2 : AV) (x1 : Int × List Int) : St :=
  ⟨[(0, u0), (1, u1), (5, u2), (6, .int .i64 x1.1)], [(26, .row 3 (.int .i64) x1.2 false)], none⟩
def R04_Less_M1 : Msk := ⟨[0, 1, 5, 6], [26], [(5, 26, 22)], [], [], [], [], [], []⟩
def kp_R04_Less : List (Nat × List Nat) := [(0, [0, 1]), (1, [0, 1, 5]), (2, [0, 1, 5, 6]), (3, [0, 1, 5, 6, 10]), (4, [0, 1, 5, 6]), (5, [0, 1, 5, 6, 19]), (6, [0, 1, 5, 6]), (7, [4]), (4000000, []), (4000001, []), (4000002, []), (4000003, [26]), (4000004, [26]), (4000005, [26]), (4000006, [26]), (4000007, [26])]
def od_R04_Less : List (Nat × Ord) := []
noncomputable def E_R04_Less (fns : List (Nat × (List AV → Option AV))) : Env := ⟨0, 0, et_R04_Less, tt_R04_Less, fns, [], od_R04_Less, kp_R04_Less, none, []⟩
set_option maxRecDepth 100000 in
set_option maxHeartbeats 40000000 in
theorem c_R04_Less : PCon Go.Proofs.Tryd.prog 31 lf_R04_Less := by
  obtain ⟨G20, hG20, cG20⟩ : ∃ G : ((.pair (.sl (.int .i64)) (.pair (.int .i64) .unit)) : Ty).den → Option Bool, (∀ x, G x = R04_Has x.1 x.2.1) ∧ PCon Go.Proofs.Tryd.prog 20 (liftF (.pair (.sl (.int .i64)) (.pair (.int .i64) .unit)) (unpack .bool) G) := ⟨_, fun _ => rfl, c_R04_Has⟩
  obtain ⟨fns, hfns, hf⟩ : ∃ fns, fns = [(20, liftF (.pair (.sl (.int .i64)) (.pair (.int .i64) .unit)) (unpack .bool) G20)] ∧ FnsOk Go.Proofs.Tryd.prog fns := ⟨_, rfl, FnsOk.cons cG20 (FnsOk.nil _)⟩
  refine lift_con (E := E_R04_Less fns) (c := bodyOf Tryd.f31) (nt := 28) (rs := [.tmp 4]) (ts := [22]) (EnvC.sub tt_ok et_ok hf (PrsOk.nil _) (ItsOk.nil _) tt_R04_Less_ok et_R04_Less_ok) (PrOk.of mixed_ok) Go.Proofs.Tryd.func31 rfl (by decide) rfl rfl rfl (pureR_one (e := (.sl (.int .i64))) rfl) ?_
  subst hfns
  intro x r hw hs
  repeat'
    (try (conv => whnf)
     first
       | (with_reducible have hs := letv_out hs)
       | (refine draw_and (by kernel_rfl) ?_)
       | (refine both_mk ?_ ?_)
       | (refine br_bool (fun h => ?_) (fun h => ?_) <;> first | have hs := cT h hs | have hs := cF h hs)
       | (refine bind_elim hs fun v hb hs => ?_; first | refine callK_liftG hG20 rfl hb ?_)
       | refine chk_elim hs fun hs => ?_
       | (have hs := letv_out hs)
       | exact fin_some hs rfl
       | (intro b hb; first | have hs := nilq_elim hs b hb | have hs := nilqn_elim hs b hb)
       | exact hJ1 _ hs
       | (have hs := cT rfl hs)
       | (have hs := cF rfl hs)
       | (refine vc_loop (R04_Less_S1 _ _ _) R04_Less_M1 hs rfl ?_; intro J1 k1 x1 hJ1 hs)
       | exact (none_ne hs).elim)
noncomputable def lf_R04_Drop : List AV → Option AV := liftF (.pair (.sl (.int .i64)) (.pair (.int .i64) .unit)) (unpack (.sl (.int .i64))) (fun x => R04_Drop x.1 x.2.1)
def tt_R04_Drop : List (Nat × Ty) := [(3, .int .i64), (22, .sl (.int .i64))]
def et_R04_Drop : List (Nat × Nat) := [(22, 3)]
theorem tt_R04_Drop_ok : subT tt tt_R04_Drop = true := by kernel_rfl
theorem et_R04_Drop_ok : subE et et_R04_Drop = true := by kernel_rfl
def R04_Drop_S1 (u0 : AV) (u1 : AV) (u2 : AV) (x1 : Int × List Int) : St :=
  ⟨[(0, u0), (1, u1), (5, u2), (6, .int .i64 x1.1)], [(25, .row 3 (.int .i64) x1.2 false)], none⟩
def R04_Drop_M1 : Msk := ⟨[0, 1, 5, 6], [25], [(5, 25, 22)], [], [], [], [], [], []⟩
def kp_R04_Drop : List (Nat × List Nat) := [(0, [0, 1]), (1, [0, 1, 5]), (2, [0, 1, 5, 6]), (3, [0, 1, 5, 6, 10]), (4, [0, 1, 5, 6]), (5, [0, 1, 5, 6, 18]), (6, [0, 1, 5, 6]), (7, [4]), (4000000, []), (4000001, []), (4000002, []), (4000003, [25]), (4000004, [25]), (4000005, [25]), (4000006, [25]), (4000007, [25])]
def od_R04_Drop : List (Nat × Ord) := []
noncomputable def E_R04_Drop (fns : List (Nat × (List AV → Option AV))) : Env := ⟨0, 0, et_R04_Drop, tt_R04_Drop, fns, [], od_R04_Drop, kp_R04_Drop, none, []⟩
set_option maxRecDepth 100000 in
set_option maxHeartbeats 40000000 in
theorem c_R04_Drop : PCon Go.Proofs.Tryd.prog 24 lf_R04_Drop := by
  obtain ⟨fns, hfns, hf⟩ : ∃ fns, fns = [] ∧ FnsOk Go.Proofs.Tryd.prog fns := ⟨_, rfl, FnsOk.nil _⟩
  refine lift_con (E := E_R04_Drop fns) (c := bodyOf Tryd.f24) (nt := 27) (rs := [.tmp 4]) (ts := [22]) (EnvC.sub tt_ok et_ok hf (PrsOk.nil _) (ItsOk.nil _) tt_R04_Drop_ok et_R04_Drop_ok) (PrOk.of mixed_ok) Go.Proofs.Tryd.func24 rfl (by decide) rfl rfl rfl (pureR_one (e := (.sl (.int .i64))) rfl) ?_
  subst hfns
  intro x r hw hs
  repeat'
    (try (conv => whnf)
     first
       | (with_reducible have hs := letv_out hs)
       | (refine draw_and (by kernel_rfl) ?_)
       | (refine both_mk ?_ ?_)
       | (refine br_bool (fun h => ?_) (fun h => ?_) <;> first | have hs := cT h hs | have hs := cF h hs)
       | refine chk_elim hs fun hs => ?_
       | (have hs := letv_out hs)
       | exact fin_some hs rfl
       | (intro b hb; first | have hs := nilq_elim hs b hb | have hs := nilqn_elim hs b hb)
       | exact hJ1 _ hs
       | (have hs := cT rfl hs)
       | (have hs := cF rfl hs)
       | (refine vc_loop (R04_Drop_S1 _ _ _) R04_Drop_M1 hs rfl ?_; intro J1 k1 x1 hJ1 hs)
       | exact (none_ne hs).elim)
end Go.Proofs.YtejedlpnejjnbaaDoorV
