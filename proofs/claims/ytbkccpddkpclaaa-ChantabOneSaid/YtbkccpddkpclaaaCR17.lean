import Derived.Test.YtbkccpddkpclaaaVcTab
import Derived.Test.YtbkccpddkpclaaaDR17
namespace Go.Proofs.YtbkccpddkpclaaaV
open Go.Proofs
set_option linter.unusedVariables false
noncomputable def lf_R17_At : List AV → Option AV := liftF (.pair (.sl (.int .i64)) (.pair (.int .i64) .unit)) (unpack (.int .i64)) (fun x => R17_At x.1 x.2.1)
def tt_R17_At : List (Nat × Ty) := [(3, .int .i64), (24, .sl (.int .i64))]
def et_R17_At : List (Nat × Nat) := [(24, 3)]
theorem tt_R17_At_ok : subT tt tt_R17_At = true := by kernel_rfl
theorem et_R17_At_ok : subE et et_R17_At = true := by kernel_rfl
def R17_At_S1 (u0 : AV) (u1 : AV) (x1 : Int) : St :=
  ⟨[(0, u0), (1, u1), (5, .int .i64 x1)], [], none⟩
def R17_At_M1 : Msk := ⟨[0, 1, 5], [], [], [], [], [], [], [], []⟩
noncomputable def E_R17_At (fns : List (Nat × (List AV → Option AV))) : Env := ⟨0, 0, et_R17_At, tt_R17_At, fns, [], [], [(0, [0, 1]), (1, [0, 1, 5]), (2, [0, 1, 5, 9]), (3, [0, 1, 5]), (4, [0, 1, 5, 17]), (5, [4]), (6, [4]), (4000000, []), (4000001, []), (4000002, []), (4000003, []), (4000004, []), (4000005, []), (4000006, [])], none, []⟩
set_option maxRecDepth 100000 in
set_option maxHeartbeats 40000000 in
theorem c_R17_At : PCon Go.Proofs.Try.prog 64 lf_R17_At := by
  obtain ⟨fns, hfns, hf⟩ : ∃ fns, fns = [] ∧ FnsOk Go.Proofs.Try.prog fns := ⟨_, rfl, FnsOk.nil _⟩
  refine lift_con (E := E_R17_At fns) (c := bodyOf Try.f64) (nt := 19) (rs := [.tmp 4]) (ts := [3]) (EnvC.sub tt_ok et_ok hf (PrsOk.nil _) (ItsOk.nil _) tt_R17_At_ok et_R17_At_ok) (PrOk.of mixed_ok) Go.Proofs.Try.func64 rfl (by decide) rfl rfl rfl (pureR_one (e := (.int .i64)) rfl) ?_
  subst hfns
  intro x r hw hs
  repeat'
    (try (conv => whnf)
     first
       | (have hs := letv_out hs)
       | (refine draw_and (by kernel_rfl) ?_)
       | (refine both_mk ?_ ?_)
       | (refine br_bool (fun h => ?_) (fun h => ?_) <;> first | have hs := cT h hs | have hs := cF h hs)
       | refine chk_elim hs fun hs => ?_
       | exact fin_some hs rfl
       | (intro b hb; first | have hs := nilq_elim hs b hb | have hs := nilqn_elim hs b hb)
       | exact hJ1 _ hs
       | (have hs := cT rfl hs)
       | (have hs := cF rfl hs)
       | (refine vc_loop (R17_At_S1 _ _) R17_At_M1 hs rfl ?_; intro J1 k1 x1 hJ1 hs)
       | exact (none_ne hs).elim)
noncomputable def lf_R17_Fine : List AV → Option AV := liftF (.pair (.pair .bool (.pair (.sl (.int .i64)) .unit)) .unit) (unpack .bool) (fun x => R17_Fine x.1)
def tt_R17_Fine : List (Nat × Ty) := [(3, .int .i64), (4, .bool), (24, .sl (.int .i64)), (26, .pair .bool (.pair (.sl (.int .i64)) .unit))]
def et_R17_Fine : List (Nat × Nat) := [(24, 3)]
theorem tt_R17_Fine_ok : subT tt tt_R17_Fine = true := by kernel_rfl
theorem et_R17_Fine_ok : subE et et_R17_Fine = true := by kernel_rfl
def R17_Fine_S1 (u0 : AV) (B2 : Blk) (x1 : Int) : St :=
  ⟨[(1, u0), (3, .int .i64 x1)], [(1, B2)], none⟩
def R17_Fine_M1 : Msk := ⟨[1, 3], [1], [], [], [], [], [], [], []⟩
noncomputable def E_R17_Fine (fns : List (Nat × (List AV → Option AV))) : Env := ⟨0, 0, et_R17_Fine, tt_R17_Fine, fns, [], [(4, (.one 0 (.one 1 (.one 2 (.one 3 (.one 4 (.one 5 (.one 6 (.one 7 (.one 8 (.one 9 (.one 10 (.one 11 (.one 12 (.one 13 (.one 14 (.one 15 (.one 16 (.one 17 (.one 18 (.one 19 (.one 20 (.one 21 (.one 23 (.one 22 (.one 24 (.one 25 .nil)))))))))))))))))))))))))))], [(0, [1]), (1, [1, 3]), (2, [1, 3, 8]), (3, [1, 3]), (4, [1, 3, 36]), (5, [2]), (6, [2]), (4000000, [1]), (4000001, [1]), (4000002, [1]), (4000003, [1]), (4000004, [1]), (4000005, []), (4000006, [])], none, []⟩
set_option maxRecDepth 100000 in
set_option maxHeartbeats 40000000 in
theorem c_R17_Fine : PCon Go.Proofs.Try.prog 71 lf_R17_Fine := by
  obtain ⟨G64, hG64, cG64⟩ : ∃ G : ((.pair (.sl (.int .i64)) (.pair (.int .i64) .unit)) : Ty).den → Option Int, (∀ x, G x = R17_At x.1 x.2.1) ∧ PCon Go.Proofs.Try.prog 64 (liftF (.pair (.sl (.int .i64)) (.pair (.int .i64) .unit)) (unpack (.int .i64)) G) := ⟨_, fun _ => rfl, c_R17_At⟩
  obtain ⟨fns, hfns, hf⟩ : ∃ fns, fns = [(64, liftF (.pair (.sl (.int .i64)) (.pair (.int .i64) .unit)) (unpack (.int .i64)) G64)] ∧ FnsOk Go.Proofs.Try.prog fns := ⟨_, rfl, FnsOk.cons cG64 (FnsOk.nil _)⟩
  refine lift_con (E := E_R17_Fine fns) (c := bodyOf Try.f71) (nt := 45) (rs := [.tmp 2]) (ts := [4]) (EnvC.sub tt_ok et_ok hf (PrsOk.nil _) (ItsOk.nil _) tt_R17_Fine_ok et_R17_Fine_ok) (PrOk.of mixed_ok) Go.Proofs.Try.func71 rfl (by decide) rfl rfl rfl (pureR_one (e := .bool) rfl) ?_
  subst hfns
  intro x r hw hs
  repeat'
    (try (conv => whnf)
     first
       | (have hs := letv_out hs)
       | (refine draw_and (by kernel_rfl) ?_)
       | (refine both_mk ?_ ?_)
       | (refine br_bool (fun h => ?_) (fun h => ?_) <;> first | have hs := cT h hs | have hs := cF h hs)
       | (refine bind_elim hs fun v hb hs => ?_; first | refine callK_liftG hG64 rfl hb ?_)
       | refine chk_elim hs fun hs => ?_
       | exact fin_some hs rfl
       | (intro b hb; first | have hs := nilq_elim hs b hb | have hs := nilqn_elim hs b hb)
       | exact hJ1 _ hs
       | (have hs := cT rfl hs)
       | (have hs := cF rfl hs)
       | (refine vc_loop (R17_Fine_S1 _ _) R17_Fine_M1 hs rfl ?_; intro J1 k1 x1 hJ1 hs)
       | exact (none_ne hs).elim)
noncomputable def lf_R17_Leave : List AV → Option AV := liftF (.pair (.pair .bool (.pair (.sl (.int .i64)) .unit)) (.pair (.int .i64) .unit)) (unpR (.pair (.pair .bool (.pair (.sl (.int .i64)) .unit)) (.pair .bool .unit))) (fun x => R17_Leave x.1 x.2.1)
def tt_R17_Leave : List (Nat × Ty) := [(3, .int .i64), (4, .bool), (24, .sl (.int .i64)), (26, .pair .bool (.pair (.sl (.int .i64)) .unit))]
def et_R17_Leave : List (Nat × Nat) := [(24, 3)]
theorem tt_R17_Leave_ok : subT tt tt_R17_Leave = true := by kernel_rfl
theorem et_R17_Leave_ok : subE et et_R17_Leave = true := by kernel_rfl
noncomputable def E_R17_Leave (fns : List (Nat × (List AV → Option AV))) : Env := ⟨0, 0, et_R17_Leave, tt_R17_Leave, fns, [], [(4, (.one 0 (.one 1 (.one 2 (.one 3 (.one 5 (.one 6 (.one 7 (.one 8 (.one 9 (.one 4 (.one 100010 (.one 11 (.one 100012 .nil))))))))))))))], [(0, [1, 2, 4]), (1, [2, 4, 6]), (2, [2, 4, 6, 17]), (3, [4, 5]), (4, [2, 4]), (5, [4, 5]), (4000000, [2, 4]), (4000001, [2, 4]), (4000002, [2, 4]), (4000003, [4]), (4000004, [2, 4, 23]), (4000005, [4, 23])], none, []⟩
set_option maxRecDepth 100000 in
set_option maxHeartbeats 40000000 in
theorem c_R17_Leave : PCon Go.Proofs.Try.prog 77 lf_R17_Leave := by
  obtain ⟨G64, hG64, cG64⟩ : ∃ G : ((.pair (.sl (.int .i64)) (.pair (.int .i64) .unit)) : Ty).den → Option Int, (∀ x, G x = R17_At x.1 x.2.1) ∧ PCon Go.Proofs.Try.prog 64 (liftF (.pair (.sl (.int .i64)) (.pair (.int .i64) .unit)) (unpack (.int .i64)) G) := ⟨_, fun _ => rfl, c_R17_At⟩
  obtain ⟨G71, hG71, cG71⟩ : ∃ G : ((.pair (.pair .bool (.pair (.sl (.int .i64)) .unit)) .unit) : Ty).den → Option Bool, (∀ x, G x = R17_Fine x.1) ∧ PCon Go.Proofs.Try.prog 71 (liftF (.pair (.pair .bool (.pair (.sl (.int .i64)) .unit)) .unit) (unpack .bool) G) := ⟨_, fun _ => rfl, c_R17_Fine⟩
  obtain ⟨fns, hfns, hf⟩ : ∃ fns, fns = [(64, liftF (.pair (.sl (.int .i64)) (.pair (.int .i64) .unit)) (unpack (.int .i64)) G64), (71, liftF (.pair (.pair .bool (.pair (.sl (.int .i64)) .unit)) .unit) (unpack .bool) G71)] ∧ FnsOk Go.Proofs.Try.prog fns := ⟨_, rfl, FnsOk.cons cG64 (FnsOk.cons cG71 (FnsOk.nil _))⟩
  refine lift_con (E := E_R17_Leave fns) (c := bodyOf Try.f77) (nt := 32) (rs := [.cell 4 26, .tmp 5]) (ts := [26, 4]) (EnvC.sub tt_ok et_ok hf (PrsOk.nil _) (ItsOk.nil _) tt_R17_Leave_ok et_R17_Leave_ok) (PrOk.of mixed_ok) Go.Proofs.Try.func77 rfl (by decide) rfl rfl rfl (pureR_many (e := (.pair (.pair .bool (.pair (.sl (.int .i64)) .unit)) (.pair .bool .unit))) rfl) ?_
  subst hfns
  intro x r hw hs
  repeat'
    (try (conv => whnf)
     first
       | (have hs := letv_out hs)
       | (refine draw_and (by kernel_rfl) ?_)
       | (refine both_mk ?_ ?_)
       | (refine br_bool (fun h => ?_) (fun h => ?_) <;> first | have hs := cT h hs | have hs := cF h hs)
       | (refine bind_elim hs fun v hb hs => ?_; first | refine callK_liftG hG64 rfl hb ?_ | refine callK_liftG hG71 rfl hb ?_)
       | refine chk_elim hs fun hs => ?_
       | exact fin_some hs rfl
       | (intro b hb; first | have hs := nilq_elim hs b hb | have hs := nilqn_elim hs b hb)
       | (have hs := cT rfl hs)
       | (have hs := cF rfl hs)
       | exact (none_ne hs).elim)
end Go.Proofs.YtbkccpddkpclaaaV
