import Derived.Test.YtbkccpddkpclaaaVcTab
import Derived.Test.YtbkccpddkpclaaaVcLay
import Derived.Test.YtbkccpddkpclaaaDclaims
import Derived.Test.YtbkccpddkpclaaaCslices
namespace Go.Proofs.YtbkccpddkpclaaaV
open Go.Proofs
set_option linter.unusedVariables false
noncomputable def lf_claims_process : List AV → Option AV := liftF (.pair (.int .i64) .unit) (unpack .bool) (fun x => claims_process x.1)
def tt_claims_process : List (Nat × Ty) := [(3, .int .i64), (4, .bool)]
def et_claims_process : List (Nat × Nat) := []
theorem tt_claims_process_ok : subT tt tt_claims_process = true := by kernel_rfl
theorem et_claims_process_ok : subE et et_claims_process = true := by kernel_rfl
noncomputable def E_claims_process (fns : List (Nat × (List AV → Option AV))) : Env := ⟨0, 0, et_claims_process, tt_claims_process, fns, [], [], [(0, [0]), (1, [2]), (4000000, []), (4000001, [])], none, []⟩
set_option maxRecDepth 100000 in
set_option maxHeartbeats 40000000 in
theorem c_claims_process : PCon Go.Proofs.Try.prog 83 lf_claims_process := by
  obtain ⟨fns, hfns, hf⟩ : ∃ fns, fns = [] ∧ FnsOk Go.Proofs.Try.prog fns := ⟨_, rfl, FnsOk.nil _⟩
  refine lift_con (E := E_claims_process fns) (c := bodyOf Try.f83) (nt := 9) (rs := [.tmp 2]) (ts := [4]) (EnvC.sub tt_ok et_ok hf (PrsOk.nil _) (ItsOk.nil _) tt_claims_process_ok et_claims_process_ok) (PrOk.of mixed_ok) Go.Proofs.Try.func83 rfl (by decide) rfl rfl rfl (pureR_one (e := .bool) rfl) ?_
  subst hfns
  intro x r hw hs
  repeat'
    (try (conv => whnf)
     first
       | (have hs := letv_out hs)
       | (refine draw_and (by kernel_rfl) ?_)
       | (refine both_mk ?_ ?_)
       | (refine br_bool (fun h => ?_) (fun h => ?_) <;> first | have hs := cT h hs | have hs := cF h hs)
       | refine chk_elim hs fun hs => ?_
       | exact fin_some hs rfl
       | (intro b hb; first | have hs := nilq_elim hs b hb | have hs := nilqn_elim hs b hb)
       | (have hs := cT rfl hs)
       | (have hs := cF rfl hs)
       | exact (none_ne hs).elim)
noncomputable def lf_claims_Fine : List AV → Option AV := liftF (.pair (.pair .bool (.pair (.sl (.int .i64)) .unit)) .unit) (unpack .bool) (fun x => claims_Fine x.1)
def tt_claims_Fine : List (Nat × Ty) := [(3, .int .i64), (4, .bool), (24, .sl (.int .i64)), (31, .pair .bool (.pair (.sl (.int .i64)) .unit))]
def et_claims_Fine : List (Nat × Nat) := [(24, 3)]
theorem tt_claims_Fine_ok : subT tt tt_claims_Fine = true := by kernel_rfl
theorem et_claims_Fine_ok : subE et et_claims_Fine = true := by kernel_rfl
def claims_Fine_S1 (u0 : AV) (u1 : AV) (u2 : AV) (B4 : Blk) (x1 : Int) : St :=
  ⟨[(1, u0), (6, u1), (7, u2), (8, .int .i64 x1)], [(1, B4)], none⟩
def claims_Fine_M1 : Msk := ⟨[1, 6, 7, 8], [1], [], [], [], [], [], [], []⟩
noncomputable def E_claims_Fine (fns : List (Nat × (List AV → Option AV))) : Env := ⟨0, 0, et_claims_Fine, tt_claims_Fine, fns, [], [], [(0, [1]), (1, [1, 6, 7, 8]), (2, [1, 6, 7, 8, 9]), (3, [1, 3, 4, 6, 7, 8]), (4, [1, 6, 7, 8, 23]), (5, [2]), (6, [1, 6, 7, 8]), (7, [2]), (4000000, [1]), (4000001, [1]), (4000002, [1]), (4000003, [1]), (4000004, [1]), (4000005, []), (4000006, [1]), (4000007, [])], none, []⟩
set_option maxRecDepth 100000 in
set_option maxHeartbeats 40000000 in
theorem c_claims_Fine : PCon Go.Proofs.Try.prog 68 lf_claims_Fine := by
  obtain ⟨G83, hG83, cG83⟩ : ∃ G : ((.pair (.int .i64) .unit) : Ty).den → Option Bool, (∀ x, G x = claims_process x.1) ∧ PCon Go.Proofs.Try.prog 83 (liftF (.pair (.int .i64) .unit) (unpack .bool) G) := ⟨_, fun _ => rfl, c_claims_process⟩
  obtain ⟨G84, hG84, cG84⟩ : ∃ G : ((.pair (.sl (.int .i64)) (.pair (.int .i64) .unit)) : Ty).den → Option Bool, (∀ x, G x = slices_Contains_int_int x.1 x.2.1) ∧ PCon Go.Proofs.Try.prog 84 (liftF (.pair (.sl (.int .i64)) (.pair (.int .i64) .unit)) (unpack .bool) G) := ⟨_, fun _ => rfl, c_slices_Contains_int_int⟩
  obtain ⟨fns, hfns, hf⟩ : ∃ fns, fns = [(83, liftF (.pair (.int .i64) .unit) (unpack .bool) G83), (84, liftF (.pair (.sl (.int .i64)) (.pair (.int .i64) .unit)) (unpack .bool) G84)] ∧ FnsOk Go.Proofs.Try.prog fns := ⟨_, rfl, FnsOk.cons cG83 (FnsOk.cons cG84 (FnsOk.nil _))⟩
  refine lift_con (E := E_claims_Fine fns) (c := bodyOf Try.f68) (nt := 33) (rs := [.tmp 2]) (ts := [4]) (EnvC.sub tt_ok et_ok hf (PrsOk.nil _) (ItsOk.nil _) tt_claims_Fine_ok et_claims_Fine_ok) (PrOk.of mixed_ok) Go.Proofs.Try.func68 rfl (by decide) rfl rfl rfl (pureR_one (e := .bool) rfl) ?_
  subst hfns
  intro x r hw hs
  repeat'
    (try (conv => whnf)
     first
       | (have hs := letv_out hs)
       | (refine draw_and (by kernel_rfl) ?_)
       | (refine both_mk ?_ ?_)
       | (refine br_bool (fun h => ?_) (fun h => ?_) <;> first | have hs := cT h hs | have hs := cF h hs)
       | (refine bind_elim hs fun v hb hs => ?_; first | refine callK_liftG hG83 rfl hb ?_ | refine callK_liftG hG84 rfl hb ?_)
       | refine chk_elim hs fun hs => ?_
       | exact fin_some hs rfl
       | (intro b hb; first | have hs := nilq_elim hs b hb | have hs := nilqn_elim hs b hb)
       | exact hJ1 _ hs
       | (have hs := cT rfl hs)
       | (have hs := cF rfl hs)
       | (refine vc_loop (claims_Fine_S1 _ _ _ _) claims_Fine_M1 hs rfl ?_; intro J1 k1 x1 hJ1 hs)
       | exact (none_ne hs).elim)
noncomputable def lf_claims_Head : List AV → Option AV := liftF (.pair (.pair .bool (.pair (.sl (.int .i64)) .unit)) .unit) (unpR (.pair (.int .i64) (.pair .bool .unit))) (fun x => claims_Head x.1)
def tt_claims_Head : List (Nat × Ty) := [(3, .int .i64), (4, .bool), (24, .sl (.int .i64)), (31, .pair .bool (.pair (.sl (.int .i64)) .unit))]
def et_claims_Head : List (Nat × Nat) := [(24, 3)]
theorem tt_claims_Head_ok : subT tt tt_claims_Head = true := by kernel_rfl
theorem et_claims_Head_ok : subE et et_claims_Head = true := by kernel_rfl
noncomputable def E_claims_Head (fns : List (Nat × (List AV → Option AV))) : Env := ⟨0, 0, et_claims_Head, tt_claims_Head, fns, [], [], [(0, [1]), (1, [1, 12]), (2, [2, 3]), (3, [2, 3]), (4000000, [1]), (4000001, [1]), (4000002, []), (4000003, [])], none, []⟩
set_option maxRecDepth 100000 in
set_option maxHeartbeats 40000000 in
theorem c_claims_Head : PCon Go.Proofs.Try.prog 85 lf_claims_Head := by
  obtain ⟨G68, hG68, cG68⟩ : ∃ G : ((.pair (.pair .bool (.pair (.sl (.int .i64)) .unit)) .unit) : Ty).den → Option Bool, (∀ x, G x = claims_Fine x.1) ∧ PCon Go.Proofs.Try.prog 68 (liftF (.pair (.pair .bool (.pair (.sl (.int .i64)) .unit)) .unit) (unpack .bool) G) := ⟨_, fun _ => rfl, c_claims_Fine⟩
  obtain ⟨fns, hfns, hf⟩ : ∃ fns, fns = [(68, liftF (.pair (.pair .bool (.pair (.sl (.int .i64)) .unit)) .unit) (unpack .bool) G68)] ∧ FnsOk Go.Proofs.Try.prog fns := ⟨_, rfl, FnsOk.cons cG68 (FnsOk.nil _)⟩
  refine lift_con (E := E_claims_Head fns) (c := bodyOf Try.f85) (nt := 17) (rs := [.tmp 2, .tmp 3]) (ts := [3, 4]) (EnvC.sub tt_ok et_ok hf (PrsOk.nil _) (ItsOk.nil _) tt_claims_Head_ok et_claims_Head_ok) (PrOk.of mixed_ok) Go.Proofs.Try.func85 rfl (by decide) rfl rfl rfl (pureR_many (e := (.pair (.int .i64) (.pair .bool .unit))) rfl) ?_
  subst hfns
  intro x r hw hs
  repeat'
    (try (conv => whnf)
     first
       | (have hs := letv_out hs)
       | (refine draw_and (by kernel_rfl) ?_)
       | (refine both_mk ?_ ?_)
       | (refine br_bool (fun h => ?_) (fun h => ?_) <;> first | have hs := cT h hs | have hs := cF h hs)
       | (refine bind_elim hs fun v hb hs => ?_; first | refine callK_liftG hG68 rfl hb ?_)
       | refine chk_elim hs fun hs => ?_
       | exact fin_some hs rfl
       | (intro b hb; first | have hs := nilq_elim hs b hb | have hs := nilqn_elim hs b hb)
       | (have hs := cT rfl hs)
       | (have hs := cF rfl hs)
       | exact (none_ne hs).elim)
noncomputable def lf_claims_place : List AV → Option AV := liftF (.pair (.pair .bool (.pair (.sl (.int .i64)) .unit)) (.pair (.int .i64) .unit)) (unpR (.pair (.int .i64) (.pair .bool .unit))) (fun x => claims_place x.1 x.2.1)
def tt_claims_place : List (Nat × Ty) := [(3, .int .i64), (4, .bool), (24, .sl (.int .i64)), (31, .pair .bool (.pair (.sl (.int .i64)) .unit))]
def et_claims_place : List (Nat × Nat) := [(24, 3)]
theorem tt_claims_place_ok : subT tt tt_claims_place = true := by kernel_rfl
theorem et_claims_place_ok : subE et et_claims_place = true := by kernel_rfl
noncomputable def E_claims_place (fns : List (Nat × (List AV → Option AV))) : Env := ⟨0, 0, et_claims_place, tt_claims_place, fns, [], [], [(0, [1, 2]), (1, [1, 2, 9]), (2, [4, 5]), (3, [6]), (4, [4, 5]), (4000000, [2]), (4000001, [2]), (4000002, []), (4000003, []), (4000004, [])], none, []⟩
set_option maxRecDepth 100000 in
set_option maxHeartbeats 40000000 in
theorem c_claims_place : PCon Go.Proofs.Try.prog 90 lf_claims_place := by
  obtain ⟨G68, hG68, cG68⟩ : ∃ G : ((.pair (.pair .bool (.pair (.sl (.int .i64)) .unit)) .unit) : Ty).den → Option Bool, (∀ x, G x = claims_Fine x.1) ∧ PCon Go.Proofs.Try.prog 68 (liftF (.pair (.pair .bool (.pair (.sl (.int .i64)) .unit)) .unit) (unpack .bool) G) := ⟨_, fun _ => rfl, c_claims_Fine⟩
  obtain ⟨G92, hG92, cG92⟩ : ∃ G : ((.pair (.sl (.int .i64)) (.pair (.int .i64) .unit)) : Ty).den → Option Int, (∀ x, G x = slices_Index_int_int x.1 x.2.1) ∧ PCon Go.Proofs.Try.prog 92 (liftF (.pair (.sl (.int .i64)) (.pair (.int .i64) .unit)) (unpack (.int .i64)) G) := ⟨_, fun _ => rfl, c_slices_Index_int_int⟩
  obtain ⟨fns, hfns, hf⟩ : ∃ fns, fns = [(68, liftF (.pair (.pair .bool (.pair (.sl (.int .i64)) .unit)) .unit) (unpack .bool) G68), (92, liftF (.pair (.sl (.int .i64)) (.pair (.int .i64) .unit)) (unpack (.int .i64)) G92)] ∧ FnsOk Go.Proofs.Try.prog fns := ⟨_, rfl, FnsOk.cons cG68 (FnsOk.cons cG92 (FnsOk.nil _))⟩
  refine lift_con (E := E_claims_place fns) (c := bodyOf Try.f90) (nt := 18) (rs := [.tmp 4, .tmp 5]) (ts := [3, 4]) (EnvC.sub tt_ok et_ok hf (PrsOk.nil _) (ItsOk.nil _) tt_claims_place_ok et_claims_place_ok) (PrOk.of mixed_ok) Go.Proofs.Try.func90 rfl (by decide) rfl rfl rfl (pureR_many (e := (.pair (.int .i64) (.pair .bool .unit))) rfl) ?_
  subst hfns
  intro x r hw hs
  repeat'
    (try (conv => whnf)
     first
       | (have hs := letv_out hs)
       | (refine draw_and (by kernel_rfl) ?_)
       | (refine both_mk ?_ ?_)
       | (refine br_bool (fun h => ?_) (fun h => ?_) <;> first | have hs := cT h hs | have hs := cF h hs)
       | (refine bind_elim hs fun v hb hs => ?_; first | refine callK_liftG hG68 rfl hb ?_ | refine callK_liftG hG92 rfl hb ?_)
       | refine chk_elim hs fun hs => ?_
       | exact fin_some hs rfl
       | (intro b hb; first | have hs := nilq_elim hs b hb | have hs := nilqn_elim hs b hb)
       | (have hs := cT rfl hs)
       | (have hs := cF rfl hs)
       | exact (none_ne hs).elim)
noncomputable def lf_claims_Ahead : List AV → Option AV := liftF (.pair (.pair .bool (.pair (.sl (.int .i64)) .unit)) (.pair (.int .i64) .unit)) (unpR (.pair (.int .i64) (.pair .bool .unit))) (fun x => claims_Ahead x.1 x.2.1)
def tt_claims_Ahead : List (Nat × Ty) := [(3, .int .i64), (4, .bool), (31, .pair .bool (.pair (.sl (.int .i64)) .unit))]
def et_claims_Ahead : List (Nat × Nat) := []
theorem tt_claims_Ahead_ok : subT tt tt_claims_Ahead = true := by kernel_rfl
theorem et_claims_Ahead_ok : subE et et_claims_Ahead = true := by kernel_rfl
noncomputable def E_claims_Ahead (fns : List (Nat × (List AV → Option AV))) : Env := ⟨0, 0, et_claims_Ahead, tt_claims_Ahead, fns, [], [], [(0, [1, 2]), (1, [4, 5]), (4000000, [2]), (4000001, [])], none, []⟩
set_option maxRecDepth 100000 in
set_option maxHeartbeats 40000000 in
theorem c_claims_Ahead : PCon Go.Proofs.Try.prog 72 lf_claims_Ahead := by
  obtain ⟨G90, hG90, cG90⟩ : ∃ G : ((.pair (.pair .bool (.pair (.sl (.int .i64)) .unit)) (.pair (.int .i64) .unit)) : Ty).den → Option (Int × Bool × Unit), (∀ x, G x = claims_place x.1 x.2.1) ∧ PCon Go.Proofs.Try.prog 90 (liftF (.pair (.pair .bool (.pair (.sl (.int .i64)) .unit)) (.pair (.int .i64) .unit)) (unpR (.pair (.int .i64) (.pair .bool .unit))) G) := ⟨_, fun _ => rfl, c_claims_place⟩
  obtain ⟨fns, hfns, hf⟩ : ∃ fns, fns = [(90, liftF (.pair (.pair .bool (.pair (.sl (.int .i64)) .unit)) (.pair (.int .i64) .unit)) (unpR (.pair (.int .i64) (.pair .bool .unit))) G90)] ∧ FnsOk Go.Proofs.Try.prog fns := ⟨_, rfl, FnsOk.cons cG90 (FnsOk.nil _)⟩
  refine lift_con (E := E_claims_Ahead fns) (c := bodyOf Try.f72) (nt := 11) (rs := [.tmp 4, .tmp 5]) (ts := [3, 4]) (EnvC.sub tt_ok et_ok hf (PrsOk.nil _) (ItsOk.nil _) tt_claims_Ahead_ok et_claims_Ahead_ok) (PrOk.of mixed_ok) Go.Proofs.Try.func72 rfl (by decide) rfl rfl rfl (pureR_many (e := (.pair (.int .i64) (.pair .bool .unit))) rfl) ?_
  subst hfns
  intro x r hw hs
  repeat'
    (try (conv => whnf)
     first
       | (have hs := letv_out hs)
       | (refine draw_and (by kernel_rfl) ?_)
       | (refine both_mk ?_ ?_)
       | (refine br_bool (fun h => ?_) (fun h => ?_) <;> first | have hs := cT h hs | have hs := cF h hs)
       | (refine bind_elim hs fun v hb hs => ?_; first | refine callK_liftG hG90 rfl hb ?_)
       | refine chk_elim hs fun hs => ?_
       | exact fin_some hs rfl
       | (intro b hb; first | have hs := nilq_elim hs b hb | have hs := nilqn_elim hs b hb)
       | (have hs := cT rfl hs)
       | (have hs := cF rfl hs)
       | exact (none_ne hs).elim)
noncomputable def lf_claims_Join : List AV → Option AV := liftF (.pair (.pair .bool (.pair (.sl (.int .i64)) .unit)) (.pair (.int .i64) .unit)) (unpR (.pair (.pair .bool (.pair (.sl (.int .i64)) .unit)) (.pair (.int .i64) .unit))) (fun x => claims_Join x.1 x.2.1)
def tt_claims_Join : List (Nat × Ty) := [(3, .int .i64), (4, .bool), (24, .sl (.int .i64)), (31, .pair .bool (.pair (.sl (.int .i64)) .unit)), (35, .int .i64)]
def et_claims_Join : List (Nat × Nat) := [(24, 3)]
theorem tt_claims_Join_ok : subT tt tt_claims_Join = true := by kernel_rfl
theorem et_claims_Join_ok : subE et et_claims_Join = true := by kernel_rfl
noncomputable def E_claims_Join (fns : List (Nat × (List AV → Option AV))) : Env := ⟨0, 0, et_claims_Join, tt_claims_Join, fns, [], [], [(0, [1, 2, 4]), (1, [1, 2, 4, 7]), (2, [4, 5]), (3, [1, 2, 4, 12]), (4, [4, 5]), (5, [1, 2, 4, 17]), (6, [4, 5]), (7, [1, 2, 4, 23]), (8, [4, 5]), (9, [1, 2, 4, 6]), (10, [1, 2, 4, 6]), (11, [2, 4, 6]), (12, [2, 4]), (13, [4, 5]), (4000000, [2, 4]), (4000001, [2, 4]), (4000002, [4]), (4000003, [2, 4]), (4000004, [4]), (4000005, [2, 4]), (4000006, [4]), (4000007, [2, 4]), (4000008, [4]), (4000009, [2, 4, 38]), (4000010, [2, 4, 38]), (4000011, [2, 4, 38]), (4000012, [2, 4, 38]), (4000013, [4, 38])], none, []⟩
set_option maxRecDepth 100000 in
set_option maxHeartbeats 40000000 in
theorem c_claims_Join : PCon Go.Proofs.Try.prog 54 lf_claims_Join := by
  obtain ⟨G68, hG68, cG68⟩ : ∃ G : ((.pair (.pair .bool (.pair (.sl (.int .i64)) .unit)) .unit) : Ty).den → Option Bool, (∀ x, G x = claims_Fine x.1) ∧ PCon Go.Proofs.Try.prog 68 (liftF (.pair (.pair .bool (.pair (.sl (.int .i64)) .unit)) .unit) (unpack .bool) G) := ⟨_, fun _ => rfl, c_claims_Fine⟩
  obtain ⟨G83, hG83, cG83⟩ : ∃ G : ((.pair (.int .i64) .unit) : Ty).den → Option Bool, (∀ x, G x = claims_process x.1) ∧ PCon Go.Proofs.Try.prog 83 (liftF (.pair (.int .i64) .unit) (unpack .bool) G) := ⟨_, fun _ => rfl, c_claims_process⟩
  obtain ⟨G84, hG84, cG84⟩ : ∃ G : ((.pair (.sl (.int .i64)) (.pair (.int .i64) .unit)) : Ty).den → Option Bool, (∀ x, G x = slices_Contains_int_int x.1 x.2.1) ∧ PCon Go.Proofs.Try.prog 84 (liftF (.pair (.sl (.int .i64)) (.pair (.int .i64) .unit)) (unpack .bool) G) := ⟨_, fun _ => rfl, c_slices_Contains_int_int⟩
  obtain ⟨fns, hfns, hf⟩ : ∃ fns, fns = [(68, liftF (.pair (.pair .bool (.pair (.sl (.int .i64)) .unit)) .unit) (unpack .bool) G68), (83, liftF (.pair (.int .i64) .unit) (unpack .bool) G83), (84, liftF (.pair (.sl (.int .i64)) (.pair (.int .i64) .unit)) (unpack .bool) G84)] ∧ FnsOk Go.Proofs.Try.prog fns := ⟨_, rfl, FnsOk.cons cG68 (FnsOk.cons cG83 (FnsOk.cons cG84 (FnsOk.nil _)))⟩
  refine lift_con (E := E_claims_Join fns) (c := bodyOf Try.f54) (nt := 52) (rs := [.cell 4 31, .tmp 5]) (ts := [31, 35]) (EnvC.sub tt_ok et_ok hf (PrsOk.nil _) (ItsOk.nil _) tt_claims_Join_ok et_claims_Join_ok) (PrOk.of mixed_ok) Go.Proofs.Try.func54 rfl (by decide) rfl rfl rfl (pureR_many (e := (.pair (.pair .bool (.pair (.sl (.int .i64)) .unit)) (.pair (.int .i64) .unit))) rfl) ?_
  subst hfns
  intro x r hw hs
  repeat'
    (try (conv => whnf)
     first
       | (have hs := letv_out hs)
       | (refine draw_and (by kernel_rfl) ?_)
       | (refine both_mk ?_ ?_)
       | (refine br_bool (fun h => ?_) (fun h => ?_) <;> first | have hs := cT h hs | have hs := cF h hs)
       | (refine bind_elim hs fun v hb hs => ?_; first | refine callK_liftG hG68 rfl hb ?_ | refine callK_liftG hG83 rfl hb ?_ | refine callK_liftG hG84 rfl hb ?_)
       | refine chk_elim hs fun hs => ?_
       | exact fin_some hs rfl
       | (intro b hb; first | have hs := nilq_elim hs b hb | have hs := nilqn_elim hs b hb)
       | (have hs := cT rfl hs)
       | (have hs := cF rfl hs)
       | exact (none_ne hs).elim)
noncomputable def lf_claims_Leave : List AV → Option AV := liftF (.pair (.pair .bool (.pair (.sl (.int .i64)) .unit)) (.pair (.int .i64) .unit)) (unpR (.pair (.pair .bool (.pair (.sl (.int .i64)) .unit)) (.pair .bool .unit))) (fun x => claims_Leave x.1 x.2.1)
def tt_claims_Leave : List (Nat × Ty) := [(3, .int .i64), (4, .bool), (24, .sl (.int .i64)), (31, .pair .bool (.pair (.sl (.int .i64)) .unit))]
def et_claims_Leave : List (Nat × Nat) := [(24, 3)]
theorem tt_claims_Leave_ok : subT tt tt_claims_Leave = true := by kernel_rfl
theorem et_claims_Leave_ok : subE et et_claims_Leave = true := by kernel_rfl
noncomputable def pr_claims_Leave_87 (fns : List (Nat × (List AV → Option AV))) : List (Nat × Proc) := (87, procOf ⟨0, 0, et_claims_Leave, tt_claims_Leave, fns, [(86, delT)], [], [(0, [0]), (1, [0, 4]), (2, [2]), (3, [2])], none, []⟩ 8 [.tmp 2] (bodyOf Try.f87)) :: [(86, delT)]
theorem pr_claims_Leave_87_ok {fns : List (Nat × (List AV → Option AV))} (hf : FnsOk Go.Proofs.Try.prog fns) : PrsOk Go.Proofs.Try.prog (pr_claims_Leave_87 fns) :=
  PrsOk.cons (proc_con (EnvC.sub (yl := none) tt_ok et_ok hf (PrsOk.cons (del_con lays_del Go.Proofs.Try.func86 rfl (by decide)) (PrsOk.nil _)) (ItsOk.nil _) tt_claims_Leave_ok et_claims_Leave_ok) (PrOk.of mixed_ok) Go.Proofs.Try.func87 rfl (by decide) rfl rfl) (PrsOk.cons (del_con lays_del Go.Proofs.Try.func86 rfl (by decide)) (PrsOk.nil _))
noncomputable def E_claims_Leave (fns : List (Nat × (List AV → Option AV))) : Env := ⟨0, 0, et_claims_Leave, tt_claims_Leave, fns, (pr_claims_Leave_87 fns), [], [(0, [1, 2, 4]), (1, [2, 4, 6, 7]), (2, [2, 4, 6, 7, 14]), (3, [2, 4, 7]), (4, [4, 5]), (4000000, [2, 4]), (4000001, [2, 4]), (4000002, [2, 4]), (4000003, [2, 4]), (4000004, [4])], none, []⟩
set_option maxRecDepth 100000 in
set_option maxHeartbeats 40000000 in
theorem c_claims_Leave : PCon Go.Proofs.Try.prog 76 lf_claims_Leave := by
  obtain ⟨G90, hG90, cG90⟩ : ∃ G : ((.pair (.pair .bool (.pair (.sl (.int .i64)) .unit)) (.pair (.int .i64) .unit)) : Ty).den → Option (Int × Bool × Unit), (∀ x, G x = claims_place x.1 x.2.1) ∧ PCon Go.Proofs.Try.prog 90 (liftF (.pair (.pair .bool (.pair (.sl (.int .i64)) .unit)) (.pair (.int .i64) .unit)) (unpR (.pair (.int .i64) (.pair .bool .unit))) G) := ⟨_, fun _ => rfl, c_claims_place⟩
  obtain ⟨fns, hfns, hf⟩ : ∃ fns, fns = [(90, liftF (.pair (.pair .bool (.pair (.sl (.int .i64)) .unit)) (.pair (.int .i64) .unit)) (unpR (.pair (.int .i64) (.pair .bool .unit))) G90)] ∧ FnsOk Go.Proofs.Try.prog fns := ⟨_, rfl, FnsOk.cons cG90 (FnsOk.nil _)⟩
  refine lift_con (E := E_claims_Leave fns) (c := bodyOf Try.f76) (nt := 25) (rs := [.cell 4 31, .tmp 5]) (ts := [31, 4]) (EnvC.sub tt_ok et_ok hf (pr_claims_Leave_87_ok hf) (ItsOk.nil _) tt_claims_Leave_ok et_claims_Leave_ok) (PrOk.of mixed_ok) Go.Proofs.Try.func76 rfl (by decide) rfl rfl rfl (pureR_many (e := (.pair (.pair .bool (.pair (.sl (.int .i64)) .unit)) (.pair .bool .unit))) rfl) ?_
  subst hfns
  intro x r hw hs
  repeat'
    (try (conv => whnf)
     first
       | (have hs := letv_out hs)
       | (refine draw_and (by kernel_rfl) ?_)
       | (refine both_mk ?_ ?_)
       | (refine br_bool (fun h => ?_) (fun h => ?_) <;> first | have hs := cT h hs | have hs := cF h hs)
       | (refine bind_elim hs fun v hb hs => ?_; first | refine callK_liftG hG90 rfl hb ?_)
       | refine chk_elim hs fun hs => ?_
       | exact fin_some hs rfl
       | (intro b hb; first | have hs := nilq_elim hs b hb | have hs := nilqn_elim hs b hb)
       | (have hs := cT rfl hs)
       | (have hs := cF rfl hs)
       | exact (none_ne hs).elim)
end Go.Proofs.YtbkccpddkpclaaaV
