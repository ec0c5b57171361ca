import Derived.Test.YtbkccpddkpclaaaVcTab
import Derived.Test.YtbkccpddkpclaaaDslices
namespace Go.Proofs.YtbkccpddkpclaaaV
open Go.Proofs
set_option linter.unusedVariables false
noncomputable def lf_slices_Index_int_int : List AV → Option AV := liftF (.pair (.sl (.int .i64)) (.pair (.int .i64) .unit)) (unpack (.int .i64)) (fun x => slices_Index_int_int x.1 x.2.1)
def tt_slices_Index_int_int : List (Nat × Ty) := [(3, .int .i64), (24, .sl (.int .i64))]
def et_slices_Index_int_int : List (Nat × Nat) := [(24, 3)]
theorem tt_slices_Index_int_int_ok : subT tt tt_slices_Index_int_int = true := by kernel_rfl
theorem et_slices_Index_int_int_ok : subE et et_slices_Index_int_int = true := by kernel_rfl
def slices_Index_int_int_S1 (u0 : AV) (u1 : AV) (u2 : AV) (x1 : Int) : St :=
  ⟨[(0, u0), (1, u1), (7, u2), (8, .int .i64 x1)], [], none⟩
def slices_Index_int_int_M1 : Msk := ⟨[0, 1, 7, 8], [], [], [], [], [], [], [], []⟩
noncomputable def E_slices_Index_int_int (fns : List (Nat × (List AV → Option AV))) : Env := ⟨0, 0, et_slices_Index_int_int, tt_slices_Index_int_int, fns, [], [], [(0, [0, 1]), (1, [0, 1, 7, 8]), (2, [0, 1, 7, 8, 9]), (3, [0, 1, 5, 7, 8]), (4, [0, 1, 5, 7, 8, 16]), (5, [4]), (6, [0, 1, 7, 8]), (7, [4]), (4000000, []), (4000001, []), (4000002, []), (4000003, []), (4000004, []), (4000005, []), (4000006, []), (4000007, [])], none, []⟩
set_option maxRecDepth 100000 in
set_option maxHeartbeats 40000000 in
theorem c_slices_Index_int_int : PCon Go.Proofs.Try.prog 92 lf_slices_Index_int_int := by
  obtain ⟨fns, hfns, hf⟩ : ∃ fns, fns = [] ∧ FnsOk Go.Proofs.Try.prog fns := ⟨_, rfl, FnsOk.nil _⟩
  refine lift_con (E := E_slices_Index_int_int fns) (c := bodyOf Try.f92) (nt := 19) (rs := [.tmp 4]) (ts := [3]) (EnvC.sub tt_ok et_ok hf (PrsOk.nil _) (ItsOk.nil _) tt_slices_Index_int_int_ok et_slices_Index_int_int_ok) (PrOk.of mixed_ok) Go.Proofs.Try.func92 rfl (by decide) rfl rfl rfl (pureR_one (e := (.int .i64)) rfl) ?_
  subst hfns
  intro x r hw hs
  repeat'
    (try (conv => whnf)
     first
       | (have hs := letv_out hs)
       | (refine draw_and (by kernel_rfl) ?_)
       | (refine both_mk ?_ ?_)
       | (refine br_bool (fun h => ?_) (fun h => ?_) <;> first | have hs := cT h hs | have hs := cF h hs)
       | refine chk_elim hs fun hs => ?_
       | exact fin_some hs rfl
       | (intro b hb; first | have hs := nilq_elim hs b hb | have hs := nilqn_elim hs b hb)
       | exact hJ1 _ hs
       | (have hs := cT rfl hs)
       | (have hs := cF rfl hs)
       | (refine vc_loop (slices_Index_int_int_S1 _ _ _) slices_Index_int_int_M1 hs rfl ?_; intro J1 k1 x1 hJ1 hs)
       | exact (none_ne hs).elim)
noncomputable def lf_slices_Contains_int_int : List AV → Option AV := liftF (.pair (.sl (.int .i64)) (.pair (.int .i64) .unit)) (unpack .bool) (fun x => slices_Contains_int_int x.1 x.2.1)
def tt_slices_Contains_int_int : List (Nat × Ty) := [(3, .int .i64), (4, .bool), (24, .sl (.int .i64))]
def et_slices_Contains_int_int : List (Nat × Nat) := [(24, 3)]
theorem tt_slices_Contains_int_int_ok : subT tt tt_slices_Contains_int_int = true := by kernel_rfl
theorem et_slices_Contains_int_int_ok : subE et et_slices_Contains_int_int = true := by kernel_rfl
noncomputable def E_slices_Contains_int_int (fns : List (Nat × (List AV → Option AV))) : Env := ⟨0, 0, et_slices_Contains_int_int, tt_slices_Contains_int_int, fns, [], [], [(0, [0, 1]), (1, [4]), (4000000, []), (4000001, [])], none, []⟩
set_option maxRecDepth 100000 in
set_option maxHeartbeats 40000000 in
theorem c_slices_Contains_int_int : PCon Go.Proofs.Try.prog 84 lf_slices_Contains_int_int := by
  obtain ⟨G92, hG92, cG92⟩ : ∃ G : ((.pair (.sl (.int .i64)) (.pair (.int .i64) .unit)) : Ty).den → Option Int, (∀ x, G x = slices_Index_int_int x.1 x.2.1) ∧ PCon Go.Proofs.Try.prog 92 (liftF (.pair (.sl (.int .i64)) (.pair (.int .i64) .unit)) (unpack (.int .i64)) G) := ⟨_, fun _ => rfl, c_slices_Index_int_int⟩
  obtain ⟨fns, hfns, hf⟩ : ∃ fns, fns = [(92, liftF (.pair (.sl (.int .i64)) (.pair (.int .i64) .unit)) (unpack (.int .i64)) G92)] ∧ FnsOk Go.Proofs.Try.prog fns := ⟨_, rfl, FnsOk.cons cG92 (FnsOk.nil _)⟩
  refine lift_con (E := E_slices_Contains_int_int fns) (c := bodyOf Try.f84) (nt := 9) (rs := [.tmp 4]) (ts := [4]) (EnvC.sub tt_ok et_ok hf (PrsOk.nil _) (ItsOk.nil _) tt_slices_Contains_int_int_ok et_slices_Contains_int_int_ok) (PrOk.of mixed_ok) Go.Proofs.Try.func84 rfl (by decide) rfl rfl rfl (pureR_one (e := .bool) rfl) ?_
  subst hfns
  intro x r hw hs
  repeat'
    (try (conv => whnf)
     first
       | (have hs := letv_out hs)
       | (refine draw_and (by kernel_rfl) ?_)
       | (refine both_mk ?_ ?_)
       | (refine br_bool (fun h => ?_) (fun h => ?_) <;> first | have hs := cT h hs | have hs := cF h hs)
       | (refine bind_elim hs fun v hb hs => ?_; first | refine callK_liftG hG92 rfl hb ?_)
       | refine chk_elim hs fun hs => ?_
       | exact fin_some hs rfl
       | (intro b hb; first | have hs := nilq_elim hs b hb | have hs := nilqn_elim hs b hb)
       | (have hs := cT rfl hs)
       | (have hs := cF rfl hs)
       | exact (none_ne hs).elim)
end Go.Proofs.YtbkccpddkpclaaaV
