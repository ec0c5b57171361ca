import Derived.Test.YtdddmgbbjifkdaaVcTab
import Derived.Test.YtdddmgbbjifkdaaDR20
namespace Go.Proofs.YtdddmgbbjifkdaaV
open Go.Proofs
set_option linter.unusedVariables false
noncomputable def lf_R20_Fine : List AV → Option AV := liftF (.pair (.int .i64) (.pair (.int .i64) .unit)) (unpack .bool) (fun x => R20_Fine x.1 x.2.1)
def tt_R20_Fine : List (Nat × Ty) := [(3, .int .i64), (4, .bool)]
def et_R20_Fine : List (Nat × Nat) := []
theorem tt_R20_Fine_ok : subT tt tt_R20_Fine = true := by kernel_rfl
theorem et_R20_Fine_ok : subE et et_R20_Fine = true := by kernel_rfl
noncomputable def E_R20_Fine (fns : List (Nat × (List AV → Option AV))) : Env := ⟨0, 0, et_R20_Fine, tt_R20_Fine, fns, [], [], [(0, [0, 1]), (1, [4])]⟩
set_option maxRecDepth 100000 in
set_option maxHeartbeats 4000000 in
theorem c_R20_Fine : PCon Go.Proofs.Try.prog 26 lf_R20_Fine := by
  obtain ⟨fns, hfns, hf⟩ : ∃ fns, fns = [] ∧ FnsOk Go.Proofs.Try.prog fns := ⟨_, rfl, FnsOk.nil _⟩
  refine lift_con (E := E_R20_Fine fns) (c := bodyOf Try.f26) (nt := 20) (rs := [.tmp 4]) (ts := [4]) (EnvC.sub tt_ok et_ok hf (PrsOk.nil _) tt_R20_Fine_ok et_R20_Fine_ok) (PrOk.of mixed_ok) Go.Proofs.Try.func26 rfl (by decide) rfl rfl rfl (pureR_one (e := .bool) rfl) ?_
  subst hfns
  intro x r hw hs
  repeat'
    (try (conv => whnf)
     first
       | (have hs := letv_out hs)
       | (refine br_bool (fun h => ?_) (fun h => ?_) <;> first | have hs := cT h hs | have hs := cF h hs)
       | refine chk_elim hs fun hs => ?_
       | exact fin_some hs rfl
       | (intro b hb; first | have hs := nilq_elim hs b hb | have hs := nilqn_elim hs b hb)
       | (have hs := cT rfl hs)
       | (have hs := cF rfl hs)
       | exact (none_ne hs).elim
       | (refine draw_and (by kernel_rfl) ?_))
noncomputable def lf_R20_Next : List AV → Option AV := liftF (.pair (.int .i64) (.pair (.int .i64) .unit)) (unpR (.pair (.int .i64) (.pair (.int .i64) .unit))) (fun x => R20_Next x.1 x.2.1)
def tt_R20_Next : List (Nat × Ty) := [(3, .int .i64), (4, .bool)]
def et_R20_Next : List (Nat × Nat) := []
theorem tt_R20_Next_ok : subT tt tt_R20_Next = true := by kernel_rfl
theorem et_R20_Next_ok : subE et et_R20_Next = true := by kernel_rfl
noncomputable def E_R20_Next (fns : List (Nat × (List AV → Option AV))) : Env := ⟨0, 0, et_R20_Next, tt_R20_Next, fns, [], [], [(0, [0, 1]), (1, [0, 1, 9]), (2, [4, 5]), (3, [0, 12]), (4, [4, 5]), (5, [4, 5])]⟩
set_option maxRecDepth 100000 in
set_option maxHeartbeats 4000000 in
theorem c_R20_Next : PCon Go.Proofs.Try.prog 24 lf_R20_Next := by
  obtain ⟨G26, hG26, cG26⟩ : ∃ G : ((.pair (.int .i64) (.pair (.int .i64) .unit)) : Ty).den → Option Bool, (∀ x, G x = R20_Fine x.1 x.2.1) ∧ PCon Go.Proofs.Try.prog 26 (liftF (.pair (.int .i64) (.pair (.int .i64) .unit)) (unpack .bool) G) := ⟨_, fun _ => rfl, c_R20_Fine⟩
  obtain ⟨fns, hfns, hf⟩ : ∃ fns, fns = [(26, liftF (.pair (.int .i64) (.pair (.int .i64) .unit)) (unpack .bool) G26)] ∧ FnsOk Go.Proofs.Try.prog fns := ⟨_, rfl, FnsOk.cons cG26 (FnsOk.nil _)⟩
  refine lift_con (E := E_R20_Next fns) (c := bodyOf Try.f24) (nt := 15) (rs := [.tmp 4, .tmp 5]) (ts := [3, 3]) (EnvC.sub tt_ok et_ok hf (PrsOk.nil _) tt_R20_Next_ok et_R20_Next_ok) (PrOk.of mixed_ok) Go.Proofs.Try.func24 rfl (by decide) rfl rfl rfl (pureR_many (e := (.pair (.int .i64) (.pair (.int .i64) .unit))) rfl) ?_
  subst hfns
  intro x r hw hs
  repeat'
    (try (conv => whnf)
     first
       | (have hs := letv_out hs)
       | (refine br_bool (fun h => ?_) (fun h => ?_) <;> first | have hs := cT h hs | have hs := cF h hs)
       | (refine bind_elim hs fun v hb hs => ?_; first | refine callK_lift rfl ((hG26 _).trans hb) ?_)
       | refine chk_elim hs fun hs => ?_
       | exact fin_some hs rfl
       | (intro b hb; first | have hs := nilq_elim hs b hb | have hs := nilqn_elim hs b hb)
       | (have hs := cT rfl hs)
       | (have hs := cF rfl hs)
       | exact (none_ne hs).elim
       | (refine draw_and (by kernel_rfl) ?_))
noncomputable def lf_R20_Left : List AV → Option AV := liftF (.pair (.int .i64) (.pair (.int .i64) .unit)) (unpack (.int .i64)) (fun x => R20_Left x.1 x.2.1)
def tt_R20_Left : List (Nat × Ty) := [(3, .int .i64), (4, .bool)]
def et_R20_Left : List (Nat × Nat) := []
theorem tt_R20_Left_ok : subT tt tt_R20_Left = true := by kernel_rfl
theorem et_R20_Left_ok : subE et et_R20_Left = true := by kernel_rfl
noncomputable def E_R20_Left (fns : List (Nat × (List AV → Option AV))) : Env := ⟨0, 0, et_R20_Left, tt_R20_Left, fns, [], [], [(0, [0, 1]), (1, [0, 1, 8]), (2, [4]), (3, [4])]⟩
set_option maxRecDepth 100000 in
set_option maxHeartbeats 4000000 in
theorem c_R20_Left : PCon Go.Proofs.Try.prog 28 lf_R20_Left := by
  obtain ⟨G26, hG26, cG26⟩ : ∃ G : ((.pair (.int .i64) (.pair (.int .i64) .unit)) : Ty).den → Option Bool, (∀ x, G x = R20_Fine x.1 x.2.1) ∧ PCon Go.Proofs.Try.prog 26 (liftF (.pair (.int .i64) (.pair (.int .i64) .unit)) (unpack .bool) G) := ⟨_, fun _ => rfl, c_R20_Fine⟩
  obtain ⟨fns, hfns, hf⟩ : ∃ fns, fns = [(26, liftF (.pair (.int .i64) (.pair (.int .i64) .unit)) (unpack .bool) G26)] ∧ FnsOk Go.Proofs.Try.prog fns := ⟨_, rfl, FnsOk.cons cG26 (FnsOk.nil _)⟩
  refine lift_con (E := E_R20_Left fns) (c := bodyOf Try.f28) (nt := 12) (rs := [.tmp 4]) (ts := [3]) (EnvC.sub tt_ok et_ok hf (PrsOk.nil _) tt_R20_Left_ok et_R20_Left_ok) (PrOk.of mixed_ok) Go.Proofs.Try.func28 rfl (by decide) rfl rfl rfl (pureR_one (e := (.int .i64)) rfl) ?_
  subst hfns
  intro x r hw hs
  repeat'
    (try (conv => whnf)
     first
       | (have hs := letv_out hs)
       | (refine br_bool (fun h => ?_) (fun h => ?_) <;> first | have hs := cT h hs | have hs := cF h hs)
       | (refine bind_elim hs fun v hb hs => ?_; first | refine callK_lift rfl ((hG26 _).trans hb) ?_)
       | refine chk_elim hs fun hs => ?_
       | exact fin_some hs rfl
       | (intro b hb; first | have hs := nilq_elim hs b hb | have hs := nilqn_elim hs b hb)
       | (have hs := cT rfl hs)
       | (have hs := cF rfl hs)
       | exact (none_ne hs).elim
       | (refine draw_and (by kernel_rfl) ?_))
noncomputable def lf_R20_Goes : List AV → Option AV := liftF (.pair (.int .i64) (.pair (.int .i64) (.pair (.int .i64) .unit))) (unpR (.pair (.int .i64) (.pair (.int .i64) .unit))) (fun x => R20_Goes x.1 x.2.1 x.2.2.1)
def tt_R20_Goes : List (Nat × Ty) := [(3, .int .i64), (4, .bool)]
def et_R20_Goes : List (Nat × Nat) := []
theorem tt_R20_Goes_ok : subT tt tt_R20_Goes = true := by kernel_rfl
theorem et_R20_Goes_ok : subE et et_R20_Goes = true := by kernel_rfl
noncomputable def E_R20_Goes (fns : List (Nat × (List AV → Option AV))) : Env := ⟨0, 0, et_R20_Goes, tt_R20_Goes, fns, [], [], [(0, [0, 1, 2]), (1, [0, 1, 8]), (2, [0, 8, 18]), (3, [6, 7]), (4, [6, 7])]⟩
set_option maxRecDepth 100000 in
set_option maxHeartbeats 4000000 in
theorem c_R20_Goes : PCon Go.Proofs.Try.prog 31 lf_R20_Goes := by
  obtain ⟨G26, hG26, cG26⟩ : ∃ G : ((.pair (.int .i64) (.pair (.int .i64) .unit)) : Ty).den → Option Bool, (∀ x, G x = R20_Fine x.1 x.2.1) ∧ PCon Go.Proofs.Try.prog 26 (liftF (.pair (.int .i64) (.pair (.int .i64) .unit)) (unpack .bool) G) := ⟨_, fun _ => rfl, c_R20_Fine⟩
  obtain ⟨G28, hG28, cG28⟩ : ∃ G : ((.pair (.int .i64) (.pair (.int .i64) .unit)) : Ty).den → Option Int, (∀ x, G x = R20_Left x.1 x.2.1) ∧ PCon Go.Proofs.Try.prog 28 (liftF (.pair (.int .i64) (.pair (.int .i64) .unit)) (unpack (.int .i64)) G) := ⟨_, fun _ => rfl, c_R20_Left⟩
  obtain ⟨fns, hfns, hf⟩ : ∃ fns, fns = [(26, liftF (.pair (.int .i64) (.pair (.int .i64) .unit)) (unpack .bool) G26), (28, liftF (.pair (.int .i64) (.pair (.int .i64) .unit)) (unpack (.int .i64)) G28)] ∧ FnsOk Go.Proofs.Try.prog fns := ⟨_, rfl, FnsOk.cons cG26 (FnsOk.cons cG28 (FnsOk.nil _))⟩
  refine lift_con (E := E_R20_Goes fns) (c := bodyOf Try.f31) (nt := 23) (rs := [.tmp 6, .tmp 7]) (ts := [3, 3]) (EnvC.sub tt_ok et_ok hf (PrsOk.nil _) tt_R20_Goes_ok et_R20_Goes_ok) (PrOk.of mixed_ok) Go.Proofs.Try.func31 rfl (by decide) rfl rfl rfl (pureR_many (e := (.pair (.int .i64) (.pair (.int .i64) .unit))) rfl) ?_
  subst hfns
  intro x r hw hs
  repeat'
    (try (conv => whnf)
     first
       | (have hs := letv_out hs)
       | (refine br_bool (fun h => ?_) (fun h => ?_) <;> first | have hs := cT h hs | have hs := cF h hs)
       | (refine bind_elim hs fun v hb hs => ?_; first | refine callK_lift rfl ((hG26 _).trans hb) ?_ | refine callK_lift rfl ((hG28 _).trans hb) ?_)
       | refine chk_elim hs fun hs => ?_
       | exact fin_some hs rfl
       | (intro b hb; first | have hs := nilq_elim hs b hb | have hs := nilqn_elim hs b hb)
       | (have hs := cT rfl hs)
       | (have hs := cF rfl hs)
       | exact (none_ne hs).elim
       | (refine draw_and (by kernel_rfl) ?_))
end Go.Proofs.YtdddmgbbjifkdaaV
