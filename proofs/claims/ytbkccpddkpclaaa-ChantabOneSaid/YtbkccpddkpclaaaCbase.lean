import Derived.Test.YtbkccpddkpclaaaVcTab
import Derived.Test.YtbkccpddkpclaaaDbase
namespace Go.Proofs.YtbkccpddkpclaaaV
open Go.Proofs
set_option linter.unusedVariables false
noncomputable def lf_poison_Fine : List AV → Option AV := liftF (.pair (.int .i64) .unit) (unpack .bool) (fun x => poison_Fine x.1)
def tt_poison_Fine : List (Nat × Ty) := [(3, .int .i64), (4, .bool)]
def et_poison_Fine : List (Nat × Nat) := []
theorem tt_poison_Fine_ok : subT tt tt_poison_Fine = true := by kernel_rfl
theorem et_poison_Fine_ok : subE et et_poison_Fine = true := by kernel_rfl
noncomputable def E_poison_Fine (fns : List (Nat × (List AV → Option AV))) : Env := ⟨0, 0, et_poison_Fine, tt_poison_Fine, fns, [], [], [(0, [0]), (1, [2]), (4000000, []), (4000001, [])], none, []⟩
set_option maxRecDepth 100000 in
set_option maxHeartbeats 40000000 in
theorem c_poison_Fine : PCon Go.Proofs.Try.prog 66 lf_poison_Fine := by
  obtain ⟨fns, hfns, hf⟩ : ∃ fns, fns = [] ∧ FnsOk Go.Proofs.Try.prog fns := ⟨_, rfl, FnsOk.nil _⟩
  refine lift_con (E := E_poison_Fine fns) (c := bodyOf Try.f66) (nt := 9) (rs := [.tmp 2]) (ts := [4]) (EnvC.sub tt_ok et_ok hf (PrsOk.nil _) (ItsOk.nil _) tt_poison_Fine_ok et_poison_Fine_ok) (PrOk.of mixed_ok) Go.Proofs.Try.func66 rfl (by decide) rfl rfl rfl (pureR_one (e := .bool) rfl) ?_
  subst hfns
  intro x r hw hs
  repeat'
    (try (conv => whnf)
     first
       | (have hs := letv_out hs)
       | (refine draw_and (by kernel_rfl) ?_)
       | (refine both_mk ?_ ?_)
       | (refine br_bool (fun h => ?_) (fun h => ?_) <;> first | have hs := cT h hs | have hs := cF h hs)
       | refine chk_elim hs fun hs => ?_
       | exact fin_some hs rfl
       | (intro b hb; first | have hs := nilq_elim hs b hb | have hs := nilqn_elim hs b hb)
       | (have hs := cT rfl hs)
       | (have hs := cF rfl hs)
       | exact (none_ne hs).elim)
noncomputable def lf_word_Fine : List AV → Option AV := liftF (.pair (.int .i64) .unit) (unpack .bool) (fun x => word_Fine x.1)
def tt_word_Fine : List (Nat × Ty) := [(3, .int .i64), (4, .bool)]
def et_word_Fine : List (Nat × Nat) := []
theorem tt_word_Fine_ok : subT tt tt_word_Fine = true := by kernel_rfl
theorem et_word_Fine_ok : subE et et_word_Fine = true := by kernel_rfl
noncomputable def E_word_Fine (fns : List (Nat × (List AV → Option AV))) : Env := ⟨0, 0, et_word_Fine, tt_word_Fine, fns, [], [], [(0, [0]), (1, [2]), (4000000, []), (4000001, [])], none, []⟩
set_option maxRecDepth 100000 in
set_option maxHeartbeats 40000000 in
theorem c_word_Fine : PCon Go.Proofs.Try.prog 53 lf_word_Fine := by
  obtain ⟨fns, hfns, hf⟩ : ∃ fns, fns = [] ∧ FnsOk Go.Proofs.Try.prog fns := ⟨_, rfl, FnsOk.nil _⟩
  refine lift_con (E := E_word_Fine fns) (c := bodyOf Try.f53) (nt := 9) (rs := [.tmp 2]) (ts := [4]) (EnvC.sub tt_ok et_ok hf (PrsOk.nil _) (ItsOk.nil _) tt_word_Fine_ok et_word_Fine_ok) (PrOk.of mixed_ok) Go.Proofs.Try.func53 rfl (by decide) rfl rfl rfl (pureR_one (e := .bool) rfl) ?_
  subst hfns
  intro x r hw hs
  repeat'
    (try (conv => whnf)
     first
       | (have hs := letv_out hs)
       | (refine draw_and (by kernel_rfl) ?_)
       | (refine both_mk ?_ ?_)
       | (refine br_bool (fun h => ?_) (fun h => ?_) <;> first | have hs := cT h hs | have hs := cF h hs)
       | refine chk_elim hs fun hs => ?_
       | exact fin_some hs rfl
       | (intro b hb; first | have hs := nilq_elim hs b hb | have hs := nilqn_elim hs b hb)
       | (have hs := cT rfl hs)
       | (have hs := cF rfl hs)
       | exact (none_ne hs).elim)
noncomputable def lf_poison_Hit : List AV → Option AV := liftF (.pair (.int .i64) (.pair (.int .i64) .unit)) (unpack .bool) (fun x => poison_Hit x.1 x.2.1)
def tt_poison_Hit : List (Nat × Ty) := [(3, .int .i64), (4, .bool)]
def et_poison_Hit : List (Nat × Nat) := []
theorem tt_poison_Hit_ok : subT tt tt_poison_Hit = true := by kernel_rfl
theorem et_poison_Hit_ok : subE et et_poison_Hit = true := by kernel_rfl
noncomputable def E_poison_Hit (fns : List (Nat × (List AV → Option AV))) : Env := ⟨0, 0, et_poison_Hit, tt_poison_Hit, fns, [], [], [(0, [0, 1]), (1, [4]), (4000000, []), (4000001, [])], none, []⟩
set_option maxRecDepth 100000 in
set_option maxHeartbeats 40000000 in
theorem c_poison_Hit : PCon Go.Proofs.Try.prog 73 lf_poison_Hit := by
  obtain ⟨G66, hG66, cG66⟩ : ∃ G : ((.pair (.int .i64) .unit) : Ty).den → Option Bool, (∀ x, G x = poison_Fine x.1) ∧ PCon Go.Proofs.Try.prog 66 (liftF (.pair (.int .i64) .unit) (unpack .bool) G) := ⟨_, fun _ => rfl, c_poison_Fine⟩
  obtain ⟨fns, hfns, hf⟩ : ∃ fns, fns = [(66, liftF (.pair (.int .i64) .unit) (unpack .bool) G66)] ∧ FnsOk Go.Proofs.Try.prog fns := ⟨_, rfl, FnsOk.cons cG66 (FnsOk.nil _)⟩
  refine lift_con (E := E_poison_Hit fns) (c := bodyOf Try.f73) (nt := 16) (rs := [.tmp 4]) (ts := [4]) (EnvC.sub tt_ok et_ok hf (PrsOk.nil _) (ItsOk.nil _) tt_poison_Hit_ok et_poison_Hit_ok) (PrOk.of mixed_ok) Go.Proofs.Try.func73 rfl (by decide) rfl rfl rfl (pureR_one (e := .bool) rfl) ?_
  subst hfns
  intro x r hw hs
  repeat'
    (try (conv => whnf)
     first
       | (have hs := letv_out hs)
       | (refine draw_and (by kernel_rfl) ?_)
       | (refine both_mk ?_ ?_)
       | (refine br_bool (fun h => ?_) (fun h => ?_) <;> first | have hs := cT h hs | have hs := cF h hs)
       | (refine bind_elim hs fun v hb hs => ?_; first | refine callK_liftG hG66 rfl hb ?_)
       | refine chk_elim hs fun hs => ?_
       | exact fin_some hs rfl
       | (intro b hb; first | have hs := nilq_elim hs b hb | have hs := nilqn_elim hs b hb)
       | (have hs := cT rfl hs)
       | (have hs := cF rfl hs)
       | exact (none_ne hs).elim)
noncomputable def lf_R16_Fine : List AV → Option AV := liftF (.pair (.int .i64) .unit) (unpack .bool) (fun x => R16_Fine x.1)
def tt_R16_Fine : List (Nat × Ty) := [(3, .int .i64), (4, .bool)]
def et_R16_Fine : List (Nat × Nat) := []
theorem tt_R16_Fine_ok : subT tt tt_R16_Fine = true := by kernel_rfl
theorem et_R16_Fine_ok : subE et et_R16_Fine = true := by kernel_rfl
noncomputable def E_R16_Fine (fns : List (Nat × (List AV → Option AV))) : Env := ⟨0, 0, et_R16_Fine, tt_R16_Fine, fns, [], [], [(0, [0]), (1, [2]), (4000000, []), (4000001, [])], none, []⟩
set_option maxRecDepth 100000 in
set_option maxHeartbeats 40000000 in
theorem c_R16_Fine : PCon Go.Proofs.Try.prog 69 lf_R16_Fine := by
  obtain ⟨fns, hfns, hf⟩ : ∃ fns, fns = [] ∧ FnsOk Go.Proofs.Try.prog fns := ⟨_, rfl, FnsOk.nil _⟩
  refine lift_con (E := E_R16_Fine fns) (c := bodyOf Try.f69) (nt := 9) (rs := [.tmp 2]) (ts := [4]) (EnvC.sub tt_ok et_ok hf (PrsOk.nil _) (ItsOk.nil _) tt_R16_Fine_ok et_R16_Fine_ok) (PrOk.of mixed_ok) Go.Proofs.Try.func69 rfl (by decide) rfl rfl rfl (pureR_one (e := .bool) rfl) ?_
  subst hfns
  intro x r hw hs
  repeat'
    (try (conv => whnf)
     first
       | (have hs := letv_out hs)
       | (refine draw_and (by kernel_rfl) ?_)
       | (refine both_mk ?_ ?_)
       | (refine br_bool (fun h => ?_) (fun h => ?_) <;> first | have hs := cT h hs | have hs := cF h hs)
       | refine chk_elim hs fun hs => ?_
       | exact fin_some hs rfl
       | (intro b hb; first | have hs := nilq_elim hs b hb | have hs := nilqn_elim hs b hb)
       | (have hs := cT rfl hs)
       | (have hs := cF rfl hs)
       | exact (none_ne hs).elim)
noncomputable def lf_R08_Fine : List AV → Option AV := liftF (.pair (.int .i64) .unit) (unpack .bool) (fun x => R08_Fine x.1)
def tt_R08_Fine : List (Nat × Ty) := [(3, .int .i64), (4, .bool)]
def et_R08_Fine : List (Nat × Nat) := []
theorem tt_R08_Fine_ok : subT tt tt_R08_Fine = true := by kernel_rfl
theorem et_R08_Fine_ok : subE et et_R08_Fine = true := by kernel_rfl
noncomputable def E_R08_Fine (fns : List (Nat × (List AV → Option AV))) : Env := ⟨0, 0, et_R08_Fine, tt_R08_Fine, fns, [], [], [(0, [0]), (1, [2]), (4000000, []), (4000001, [])], none, []⟩
set_option maxRecDepth 100000 in
set_option maxHeartbeats 40000000 in
theorem c_R08_Fine : PCon Go.Proofs.Try.prog 56 lf_R08_Fine := by
  obtain ⟨fns, hfns, hf⟩ : ∃ fns, fns = [] ∧ FnsOk Go.Proofs.Try.prog fns := ⟨_, rfl, FnsOk.nil _⟩
  refine lift_con (E := E_R08_Fine fns) (c := bodyOf Try.f56) (nt := 9) (rs := [.tmp 2]) (ts := [4]) (EnvC.sub tt_ok et_ok hf (PrsOk.nil _) (ItsOk.nil _) tt_R08_Fine_ok et_R08_Fine_ok) (PrOk.of mixed_ok) Go.Proofs.Try.func56 rfl (by decide) rfl rfl rfl (pureR_one (e := .bool) rfl) ?_
  subst hfns
  intro x r hw hs
  repeat'
    (try (conv => whnf)
     first
       | (have hs := letv_out hs)
       | (refine draw_and (by kernel_rfl) ?_)
       | (refine both_mk ?_ ?_)
       | (refine br_bool (fun h => ?_) (fun h => ?_) <;> first | have hs := cT h hs | have hs := cF h hs)
       | refine chk_elim hs fun hs => ?_
       | exact fin_some hs rfl
       | (intro b hb; first | have hs := nilq_elim hs b hb | have hs := nilqn_elim hs b hb)
       | (have hs := cT rfl hs)
       | (have hs := cF rfl hs)
       | exact (none_ne hs).elim)
noncomputable def lf_R16_Hit : List AV → Option AV := liftF (.pair (.int .i64) (.pair (.int .i64) .unit)) (unpack .bool) (fun x => R16_Hit x.1 x.2.1)
def tt_R16_Hit : List (Nat × Ty) := [(3, .int .i64), (4, .bool)]
def et_R16_Hit : List (Nat × Nat) := []
theorem tt_R16_Hit_ok : subT tt tt_R16_Hit = true := by kernel_rfl
theorem et_R16_Hit_ok : subE et et_R16_Hit = true := by kernel_rfl
noncomputable def E_R16_Hit (fns : List (Nat × (List AV → Option AV))) : Env := ⟨0, 0, et_R16_Hit, tt_R16_Hit, fns, [], [], [(0, [0, 1]), (1, [4]), (4000000, []), (4000001, [])], none, []⟩
set_option maxRecDepth 100000 in
set_option maxHeartbeats 40000000 in
theorem c_R16_Hit : PCon Go.Proofs.Try.prog 91 lf_R16_Hit := by
  obtain ⟨G69, hG69, cG69⟩ : ∃ G : ((.pair (.int .i64) .unit) : Ty).den → Option Bool, (∀ x, G x = R16_Fine x.1) ∧ PCon Go.Proofs.Try.prog 69 (liftF (.pair (.int .i64) .unit) (unpack .bool) G) := ⟨_, fun _ => rfl, c_R16_Fine⟩
  obtain ⟨fns, hfns, hf⟩ : ∃ fns, fns = [(69, liftF (.pair (.int .i64) .unit) (unpack .bool) G69)] ∧ FnsOk Go.Proofs.Try.prog fns := ⟨_, rfl, FnsOk.cons cG69 (FnsOk.nil _)⟩
  refine lift_con (E := E_R16_Hit fns) (c := bodyOf Try.f91) (nt := 16) (rs := [.tmp 4]) (ts := [4]) (EnvC.sub tt_ok et_ok hf (PrsOk.nil _) (ItsOk.nil _) tt_R16_Hit_ok et_R16_Hit_ok) (PrOk.of mixed_ok) Go.Proofs.Try.func91 rfl (by decide) rfl rfl rfl (pureR_one (e := .bool) rfl) ?_
  subst hfns
  intro x r hw hs
  repeat'
    (try (conv => whnf)
     first
       | (have hs := letv_out hs)
       | (refine draw_and (by kernel_rfl) ?_)
       | (refine both_mk ?_ ?_)
       | (refine br_bool (fun h => ?_) (fun h => ?_) <;> first | have hs := cT h hs | have hs := cF h hs)
       | (refine bind_elim hs fun v hb hs => ?_; first | refine callK_liftG hG69 rfl hb ?_)
       | refine chk_elim hs fun hs => ?_
       | exact fin_some hs rfl
       | (intro b hb; first | have hs := nilq_elim hs b hb | have hs := nilqn_elim hs b hb)
       | (have hs := cT rfl hs)
       | (have hs := cF rfl hs)
       | exact (none_ne hs).elim)
noncomputable def lf_poison_Raise : List AV → Option AV := liftF (.pair (.int .i64) (.pair (.int .i64) .unit)) (unpR (.pair (.int .i64) (.pair (.int .i64) .unit))) (fun x => poison_Raise x.1 x.2.1)
def tt_poison_Raise : List (Nat × Ty) := [(3, .int .i64), (4, .bool), (35, .int .i64)]
def et_poison_Raise : List (Nat × Nat) := []
theorem tt_poison_Raise_ok : subT tt tt_poison_Raise = true := by kernel_rfl
theorem et_poison_Raise_ok : subE et et_poison_Raise = true := by kernel_rfl
noncomputable def E_poison_Raise (fns : List (Nat × (List AV → Option AV))) : Env := ⟨0, 0, et_poison_Raise, tt_poison_Raise, fns, [], [], [(0, [0, 1]), (1, [0, 1, 17]), (2, [4, 5]), (3, [4, 5]), (4000000, []), (4000001, []), (4000002, []), (4000003, [])], none, []⟩
set_option maxRecDepth 100000 in
set_option maxHeartbeats 40000000 in
theorem c_poison_Raise : PCon Go.Proofs.Try.prog 58 lf_poison_Raise := by
  obtain ⟨G66, hG66, cG66⟩ : ∃ G : ((.pair (.int .i64) .unit) : Ty).den → Option Bool, (∀ x, G x = poison_Fine x.1) ∧ PCon Go.Proofs.Try.prog 66 (liftF (.pair (.int .i64) .unit) (unpack .bool) G) := ⟨_, fun _ => rfl, c_poison_Fine⟩
  obtain ⟨fns, hfns, hf⟩ : ∃ fns, fns = [(66, liftF (.pair (.int .i64) .unit) (unpack .bool) G66)] ∧ FnsOk Go.Proofs.Try.prog fns := ⟨_, rfl, FnsOk.cons cG66 (FnsOk.nil _)⟩
  refine lift_con (E := E_poison_Raise fns) (c := bodyOf Try.f58) (nt := 21) (rs := [.tmp 4, .tmp 5]) (ts := [3, 35]) (EnvC.sub tt_ok et_ok hf (PrsOk.nil _) (ItsOk.nil _) tt_poison_Raise_ok et_poison_Raise_ok) (PrOk.of mixed_ok) Go.Proofs.Try.func58 rfl (by decide) rfl rfl rfl (pureR_many (e := (.pair (.int .i64) (.pair (.int .i64) .unit))) rfl) ?_
  subst hfns
  intro x r hw hs
  repeat'
    (try (conv => whnf)
     first
       | (have hs := letv_out hs)
       | (refine draw_and (by kernel_rfl) ?_)
       | (refine both_mk ?_ ?_)
       | (refine br_bool (fun h => ?_) (fun h => ?_) <;> first | have hs := cT h hs | have hs := cF h hs)
       | (refine bind_elim hs fun v hb hs => ?_; first | refine callK_liftG hG66 rfl hb ?_)
       | refine chk_elim hs fun hs => ?_
       | exact fin_some hs rfl
       | (intro b hb; first | have hs := nilq_elim hs b hb | have hs := nilqn_elim hs b hb)
       | (have hs := cT rfl hs)
       | (have hs := cF rfl hs)
       | exact (none_ne hs).elim)
noncomputable def lf_R16_Raise : List AV → Option AV := liftF (.pair (.int .i64) (.pair (.int .i64) .unit)) (unpR (.pair (.int .i64) (.pair (.int .i64) .unit))) (fun x => R16_Raise x.1 x.2.1)
def tt_R16_Raise : List (Nat × Ty) := [(3, .int .i64), (4, .bool)]
def et_R16_Raise : List (Nat × Nat) := []
theorem tt_R16_Raise_ok : subT tt tt_R16_Raise = true := by kernel_rfl
theorem et_R16_Raise_ok : subE et et_R16_Raise = true := by kernel_rfl
noncomputable def E_R16_Raise (fns : List (Nat × (List AV → Option AV))) : Env := ⟨0, 0, et_R16_Raise, tt_R16_Raise, fns, [], [], [(0, [0, 1]), (1, [0, 1, 16]), (2, [4, 5]), (3, [0, 1, 19]), (4, [4, 5]), (5, [4, 5]), (4000000, []), (4000001, []), (4000002, []), (4000003, []), (4000004, []), (4000005, [])], none, []⟩
set_option maxRecDepth 100000 in
set_option maxHeartbeats 40000000 in
theorem c_R16_Raise : PCon Go.Proofs.Try.prog 59 lf_R16_Raise := by
  obtain ⟨G69, hG69, cG69⟩ : ∃ G : ((.pair (.int .i64) .unit) : Ty).den → Option Bool, (∀ x, G x = R16_Fine x.1) ∧ PCon Go.Proofs.Try.prog 69 (liftF (.pair (.int .i64) .unit) (unpack .bool) G) := ⟨_, fun _ => rfl, c_R16_Fine⟩
  obtain ⟨fns, hfns, hf⟩ : ∃ fns, fns = [(69, liftF (.pair (.int .i64) .unit) (unpack .bool) G69)] ∧ FnsOk Go.Proofs.Try.prog fns := ⟨_, rfl, FnsOk.cons cG69 (FnsOk.nil _)⟩
  refine lift_con (E := E_R16_Raise fns) (c := bodyOf Try.f59) (nt := 22) (rs := [.tmp 4, .tmp 5]) (ts := [3, 3]) (EnvC.sub tt_ok et_ok hf (PrsOk.nil _) (ItsOk.nil _) tt_R16_Raise_ok et_R16_Raise_ok) (PrOk.of mixed_ok) Go.Proofs.Try.func59 rfl (by decide) rfl rfl rfl (pureR_many (e := (.pair (.int .i64) (.pair (.int .i64) .unit))) rfl) ?_
  subst hfns
  intro x r hw hs
  repeat'
    (try (conv => whnf)
     first
       | (have hs := letv_out hs)
       | (refine draw_and (by kernel_rfl) ?_)
       | (refine both_mk ?_ ?_)
       | (refine br_bool (fun h => ?_) (fun h => ?_) <;> first | have hs := cT h hs | have hs := cF h hs)
       | (refine bind_elim hs fun v hb hs => ?_; first | refine callK_liftG hG69 rfl hb ?_)
       | refine chk_elim hs fun hs => ?_
       | exact fin_some hs rfl
       | (intro b hb; first | have hs := nilq_elim hs b hb | have hs := nilqn_elim hs b hb)
       | (have hs := cT rfl hs)
       | (have hs := cF rfl hs)
       | exact (none_ne hs).elim)
end Go.Proofs.YtbkccpddkpclaaaV
