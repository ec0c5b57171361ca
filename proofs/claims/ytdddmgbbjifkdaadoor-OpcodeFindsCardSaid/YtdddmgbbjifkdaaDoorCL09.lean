import Derived.Test.YtdddmgbbjifkdaaDoorVcTab
import Derived.Test.YtdddmgbbjifkdaaDoorDL09
import Derived.Test.YtdddmgbbjifkdaaDoorCR09
import Derived.Test.YtdddmgbbjifkdaaDoorCopcode
namespace Go.Proofs.YtdddmgbbjifkdaaDoorV
open Go.Proofs
set_option linter.unusedVariables false
noncomputable def lf_L09_alive : List AV → Option AV := liftF .unit (unpack .bool) (fun x => L09_alive)
def tt_L09_alive : List (Nat × Ty) := [(3, .int .i64), (4, .bool), (9, .str)]
def et_L09_alive : List (Nat × Nat) := []
theorem tt_L09_alive_ok : subT tt tt_L09_alive = true := by kernel_rfl
theorem et_L09_alive_ok : subE et et_L09_alive = true := by kernel_rfl
def kp_L09_alive : List (Nat × List Nat) := [(0, []), (1, [1, 2]), (2, [1, 2, 4]), (3, [0]), (4000000, []), (4000001, []), (4000002, []), (4000003, [])]
def od_L09_alive : List (Nat × Ord) := []
noncomputable def E_L09_alive (fns : List (Nat × (List AV → Option AV))) : Env := ⟨0, 0, et_L09_alive, tt_L09_alive, fns, [], od_L09_alive, kp_L09_alive, none, []⟩
set_option maxRecDepth 100000 in
set_option maxHeartbeats 40000000 in
theorem c_L09_alive : PCon Go.Proofs.Tryd.prog 10 lf_L09_alive := by
  obtain ⟨G7, hG7, cG7⟩ : ∃ G : ((.pair (.int .i64) .unit) : Ty).den → Option ByteArray, (∀ x, G x = opcode_Name x.1) ∧ PCon Go.Proofs.Tryd.prog 7 (liftF (.pair (.int .i64) .unit) (unpack .str) G) := ⟨_, fun _ => rfl, c_opcode_Name⟩
  obtain ⟨G8, hG8, cG8⟩ : ∃ G : ((.pair (.int .i64) .unit) : Ty).den → Option ByteArray, (∀ x, G x = opcode_Form x.1) ∧ PCon Go.Proofs.Tryd.prog 8 (liftF (.pair (.int .i64) .unit) (unpack .str) G) := ⟨_, fun _ => rfl, c_opcode_Form⟩
  obtain ⟨G9, hG9, cG9⟩ : ∃ G : ((.pair (.int .i64) .unit) : Ty).den → Option Int, (∀ x, G x = opcode_Class x.1) ∧ PCon Go.Proofs.Tryd.prog 9 (liftF (.pair (.int .i64) .unit) (unpack (.int .i64)) G) := ⟨_, fun _ => rfl, c_opcode_Class⟩
  obtain ⟨G11, hG11, cG11⟩ : ∃ G : ((.pair .str .unit) : Ty).den → Option (Int × Bool × Unit), (∀ x, G x = opcode_Find x.1) ∧ PCon Go.Proofs.Tryd.prog 11 (liftF (.pair .str .unit) (unpR (.pair (.int .i64) (.pair .bool .unit))) G) := ⟨_, fun _ => rfl, c_opcode_Find⟩
  obtain ⟨fns, hfns, hf⟩ : ∃ fns, fns = [(7, liftF (.pair (.int .i64) .unit) (unpack .str) G7), (8, liftF (.pair (.int .i64) .unit) (unpack .str) G8), (9, liftF (.pair (.int .i64) .unit) (unpack (.int .i64)) G9), (11, liftF (.pair .str .unit) (unpR (.pair (.int .i64) (.pair .bool .unit))) G11)] ∧ FnsOk Go.Proofs.Tryd.prog fns := ⟨_, rfl, FnsOk.cons cG7 (FnsOk.cons cG8 (FnsOk.cons cG9 (FnsOk.cons cG11 (FnsOk.nil _))))⟩
  refine lift_con (E := E_L09_alive fns) (c := bodyOf Tryd.f10) (nt := 40) (rs := [.tmp 0]) (ts := [4]) (EnvC.sub tt_ok et_ok hf (PrsOk.nil _) (ItsOk.nil _) tt_L09_alive_ok et_L09_alive_ok) (PrOk.of mixed_ok) Go.Proofs.Tryd.func10 rfl (by decide) rfl rfl rfl (pureR_one (e := .bool) rfl) ?_
  subst hfns
  intro x r hw hs
  repeat'
    (try (conv => whnf)
     first
       | (with_reducible have hs := letv_out hs)
       | (refine draw_and (by kernel_rfl) ?_)
       | (refine both_mk ?_ ?_)
       | (refine br_bool (fun h => ?_) (fun h => ?_) <;> first | have hs := cT h hs | have hs := cF h hs)
       | (refine bind_elim hs fun v hb hs => ?_; first | refine callK_liftG hG7 rfl hb ?_ | refine callK_liftG hG8 rfl hb ?_ | refine callK_liftG hG9 rfl hb ?_ | refine callK_liftG hG11 rfl hb ?_)
       | refine chk_elim hs fun hs => ?_
       | (have hs := letv_out hs)
       | exact fin_some hs rfl
       | (intro b hb; first | have hs := nilq_elim hs b hb | have hs := nilqn_elim hs b hb)
       | (have hs := cT rfl hs)
       | (have hs := cF rfl hs)
       | exact (none_ne hs).elim)
end Go.Proofs.YtdddmgbbjifkdaaDoorV
