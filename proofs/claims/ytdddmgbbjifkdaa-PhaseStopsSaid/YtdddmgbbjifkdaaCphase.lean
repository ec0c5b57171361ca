import Derived.Test.YtdddmgbbjifkdaaVcTab
import Derived.Test.YtdddmgbbjifkdaaDphase
namespace Go.Proofs.YtdddmgbbjifkdaaV
open Go.Proofs
set_option linter.unusedVariables false
noncomputable def lf_phase_Fine : List AV → Option AV := liftF (.pair (.int .i64) (.pair (.int .i64) .unit)) (unpack .bool) (fun x => phase_Fine x.1 x.2.1)
def tt_phase_Fine : List (Nat × Ty) := [(3, .int .i64), (4, .bool)]
def et_phase_Fine : List (Nat × Nat) := []
theorem tt_phase_Fine_ok : subT tt tt_phase_Fine = true := by kernel_rfl
theorem et_phase_Fine_ok : subE et et_phase_Fine = true := by kernel_rfl
noncomputable def E_phase_Fine (fns : List (Nat × (List AV → Option AV))) : Env := ⟨0, 0, et_phase_Fine, tt_phase_Fine, fns, [], [], [(0, [0, 1]), (1, [4])]⟩
set_option maxRecDepth 100000 in
set_option maxHeartbeats 4000000 in
theorem c_phase_Fine : PCon Go.Proofs.Try.prog 25 lf_phase_Fine := by
  obtain ⟨fns, hfns, hf⟩ : ∃ fns, fns = [] ∧ FnsOk Go.Proofs.Try.prog fns := ⟨_, rfl, FnsOk.nil _⟩
  refine lift_con (E := E_phase_Fine fns) (c := bodyOf Try.f25) (nt := 20) (rs := [.tmp 4]) (ts := [4]) (EnvC.sub tt_ok et_ok hf (PrsOk.nil _) tt_phase_Fine_ok et_phase_Fine_ok) (PrOk.of mixed_ok) Go.Proofs.Try.func25 rfl (by decide) rfl rfl rfl (pureR_one (e := .bool) rfl) ?_
  subst hfns
  intro x r hw hs
  repeat'
    (try (conv => whnf)
     first
       | (have hs := letv_out hs)
       | (refine br_bool (fun h => ?_) (fun h => ?_) <;> first | have hs := cT h hs | have hs := cF h hs)
       | refine chk_elim hs fun hs => ?_
       | exact fin_some hs rfl
       | (intro b hb; first | have hs := nilq_elim hs b hb | have hs := nilqn_elim hs b hb)
       | (have hs := cT rfl hs)
       | (have hs := cF rfl hs)
       | exact (none_ne hs).elim
       | (refine draw_and (by kernel_rfl) ?_))
noncomputable def lf_phase_Next : List AV → Option AV := liftF (.pair (.int .i64) (.pair (.int .i64) .unit)) (unpR (.pair (.int .i64) (.pair (.int .i64) .unit))) (fun x => phase_Next x.1 x.2.1)
def tt_phase_Next : List (Nat × Ty) := [(3, .int .i64), (4, .bool), (22, .int .i64)]
def et_phase_Next : List (Nat × Nat) := []
theorem tt_phase_Next_ok : subT tt tt_phase_Next = true := by kernel_rfl
theorem et_phase_Next_ok : subE et et_phase_Next = true := by kernel_rfl
noncomputable def E_phase_Next (fns : List (Nat × (List AV → Option AV))) : Env := ⟨0, 0, et_phase_Next, tt_phase_Next, fns, [], [], [(0, [0, 1]), (1, [0, 1, 6]), (2, [4, 5]), (3, [0, 11]), (4, [4, 5]), (5, [4, 5])]⟩
set_option maxRecDepth 100000 in
set_option maxHeartbeats 4000000 in
theorem c_phase_Next : PCon Go.Proofs.Try.prog 23 lf_phase_Next := by
  obtain ⟨G25, hG25, cG25⟩ : ∃ G : ((.pair (.int .i64) (.pair (.int .i64) .unit)) : Ty).den → Option Bool, (∀ x, G x = phase_Fine x.1 x.2.1) ∧ PCon Go.Proofs.Try.prog 25 (liftF (.pair (.int .i64) (.pair (.int .i64) .unit)) (unpack .bool) G) := ⟨_, fun _ => rfl, c_phase_Fine⟩
  obtain ⟨fns, hfns, hf⟩ : ∃ fns, fns = [(25, liftF (.pair (.int .i64) (.pair (.int .i64) .unit)) (unpack .bool) G25)] ∧ FnsOk Go.Proofs.Try.prog fns := ⟨_, rfl, FnsOk.cons cG25 (FnsOk.nil _)⟩
  refine lift_con (E := E_phase_Next fns) (c := bodyOf Try.f23) (nt := 17) (rs := [.tmp 4, .tmp 5]) (ts := [3, 22]) (EnvC.sub tt_ok et_ok hf (PrsOk.nil _) tt_phase_Next_ok et_phase_Next_ok) (PrOk.of mixed_ok) Go.Proofs.Try.func23 rfl (by decide) rfl rfl rfl (pureR_many (e := (.pair (.int .i64) (.pair (.int .i64) .unit))) rfl) ?_
  subst hfns
  intro x r hw hs
  repeat'
    (try (conv => whnf)
     first
       | (have hs := letv_out hs)
       | (refine br_bool (fun h => ?_) (fun h => ?_) <;> first | have hs := cT h hs | have hs := cF h hs)
       | (refine bind_elim hs fun v hb hs => ?_; first | refine callK_lift rfl ((hG25 _).trans hb) ?_)
       | refine chk_elim hs fun hs => ?_
       | exact fin_some hs rfl
       | (intro b hb; first | have hs := nilq_elim hs b hb | have hs := nilqn_elim hs b hb)
       | (have hs := cT rfl hs)
       | (have hs := cF rfl hs)
       | exact (none_ne hs).elim
       | (refine draw_and (by kernel_rfl) ?_))
noncomputable def lf_phase_Left : List AV → Option AV := liftF (.pair (.int .i64) (.pair (.int .i64) .unit)) (unpack (.int .i64)) (fun x => phase_Left x.1 x.2.1)
def tt_phase_Left : List (Nat × Ty) := [(3, .int .i64), (4, .bool)]
def et_phase_Left : List (Nat × Nat) := []
theorem tt_phase_Left_ok : subT tt tt_phase_Left = true := by kernel_rfl
theorem et_phase_Left_ok : subE et et_phase_Left = true := by kernel_rfl
noncomputable def E_phase_Left (fns : List (Nat × (List AV → Option AV))) : Env := ⟨0, 0, et_phase_Left, tt_phase_Left, fns, [], [], [(0, [0, 1]), (1, [0, 1, 8]), (2, [4]), (3, [4])]⟩
set_option maxRecDepth 100000 in
set_option maxHeartbeats 4000000 in
theorem c_phase_Left : PCon Go.Proofs.Try.prog 27 lf_phase_Left := by
  obtain ⟨G25, hG25, cG25⟩ : ∃ G : ((.pair (.int .i64) (.pair (.int .i64) .unit)) : Ty).den → Option Bool, (∀ x, G x = phase_Fine x.1 x.2.1) ∧ PCon Go.Proofs.Try.prog 25 (liftF (.pair (.int .i64) (.pair (.int .i64) .unit)) (unpack .bool) G) := ⟨_, fun _ => rfl, c_phase_Fine⟩
  obtain ⟨fns, hfns, hf⟩ : ∃ fns, fns = [(25, liftF (.pair (.int .i64) (.pair (.int .i64) .unit)) (unpack .bool) G25)] ∧ FnsOk Go.Proofs.Try.prog fns := ⟨_, rfl, FnsOk.cons cG25 (FnsOk.nil _)⟩
  refine lift_con (E := E_phase_Left fns) (c := bodyOf Try.f27) (nt := 12) (rs := [.tmp 4]) (ts := [3]) (EnvC.sub tt_ok et_ok hf (PrsOk.nil _) tt_phase_Left_ok et_phase_Left_ok) (PrOk.of mixed_ok) Go.Proofs.Try.func27 rfl (by decide) rfl rfl rfl (pureR_one (e := (.int .i64)) rfl) ?_
  subst hfns
  intro x r hw hs
  repeat'
    (try (conv => whnf)
     first
       | (have hs := letv_out hs)
       | (refine br_bool (fun h => ?_) (fun h => ?_) <;> first | have hs := cT h hs | have hs := cF h hs)
       | (refine bind_elim hs fun v hb hs => ?_; first | refine callK_lift rfl ((hG25 _).trans hb) ?_)
       | refine chk_elim hs fun hs => ?_
       | exact fin_some hs rfl
       | (intro b hb; first | have hs := nilq_elim hs b hb | have hs := nilqn_elim hs b hb)
       | (have hs := cT rfl hs)
       | (have hs := cF rfl hs)
       | exact (none_ne hs).elim
       | (refine draw_and (by kernel_rfl) ?_))
noncomputable def lf_phase_Goes : List AV → Option AV := liftF (.pair (.int .i64) (.pair (.int .i64) (.pair (.int .i64) .unit))) (unpR (.pair (.int .i64) (.pair (.int .i64) .unit))) (fun x => phase_Goes x.1 x.2.1 x.2.2.1)
def tt_phase_Goes : List (Nat × Ty) := [(3, .int .i64), (4, .bool)]
def et_phase_Goes : List (Nat × Nat) := []
theorem tt_phase_Goes_ok : subT tt tt_phase_Goes = true := by kernel_rfl
theorem et_phase_Goes_ok : subE et et_phase_Goes = true := by kernel_rfl
def phase_Goes_S1 (u0 : AV) (u1 : AV) (x1 : Int × Int × Int) : St :=
  ⟨[(0, .int .i64 x1.1), (1, u0), (8, .int .i64 x1.2.1), (18, u1), (19, .int .i64 x1.2.2)], [], none⟩
def phase_Goes_M1 : Msk := ⟨[0, 1, 8, 18, 19], [], [], [], [], [], [], [], []⟩
noncomputable def E_phase_Goes (fns : List (Nat × (List AV → Option AV))) : Env := ⟨0, 0, et_phase_Goes, tt_phase_Goes, fns, [], [], [(0, [0, 1, 2]), (1, [0, 1, 2, 12]), (2, [6, 7]), (3, [0, 1, 2, 8]), (4, [0, 1, 8, 18, 19]), (5, [0, 1, 8, 18, 19, 20]), (6, [0, 1, 8, 18, 19]), (7, [0, 1, 8, 18, 19]), (8, [0, 1, 8, 18, 19]), (9, [6, 7])]⟩
set_option maxRecDepth 100000 in
set_option maxHeartbeats 4000000 in
theorem c_phase_Goes : PCon Go.Proofs.Try.prog 30 lf_phase_Goes := by
  obtain ⟨G23, hG23, cG23⟩ : ∃ G : ((.pair (.int .i64) (.pair (.int .i64) .unit)) : Ty).den → Option (Int × Int × Unit), (∀ x, G x = phase_Next x.1 x.2.1) ∧ PCon Go.Proofs.Try.prog 23 (liftF (.pair (.int .i64) (.pair (.int .i64) .unit)) (unpR (.pair (.int .i64) (.pair (.int .i64) .unit))) G) := ⟨_, fun _ => rfl, c_phase_Next⟩
  obtain ⟨G25, hG25, cG25⟩ : ∃ G : ((.pair (.int .i64) (.pair (.int .i64) .unit)) : Ty).den → Option Bool, (∀ x, G x = phase_Fine x.1 x.2.1) ∧ PCon Go.Proofs.Try.prog 25 (liftF (.pair (.int .i64) (.pair (.int .i64) .unit)) (unpack .bool) G) := ⟨_, fun _ => rfl, c_phase_Fine⟩
  obtain ⟨G27, hG27, cG27⟩ : ∃ G : ((.pair (.int .i64) (.pair (.int .i64) .unit)) : Ty).den → Option Int, (∀ x, G x = phase_Left x.1 x.2.1) ∧ PCon Go.Proofs.Try.prog 27 (liftF (.pair (.int .i64) (.pair (.int .i64) .unit)) (unpack (.int .i64)) G) := ⟨_, fun _ => rfl, c_phase_Left⟩
  obtain ⟨fns, hfns, hf⟩ : ∃ fns, fns = [(23, liftF (.pair (.int .i64) (.pair (.int .i64) .unit)) (unpR (.pair (.int .i64) (.pair (.int .i64) .unit))) G23), (25, liftF (.pair (.int .i64) (.pair (.int .i64) .unit)) (unpack .bool) G25), (27, liftF (.pair (.int .i64) (.pair (.int .i64) .unit)) (unpack (.int .i64)) G27)] ∧ FnsOk Go.Proofs.Try.prog fns := ⟨_, rfl, FnsOk.cons cG23 (FnsOk.cons cG25 (FnsOk.cons cG27 (FnsOk.nil _)))⟩
  refine lift_con (E := E_phase_Goes fns) (c := bodyOf Try.f30) (nt := 32) (rs := [.tmp 6, .tmp 7]) (ts := [3, 3]) (EnvC.sub tt_ok et_ok hf (PrsOk.nil _) tt_phase_Goes_ok et_phase_Goes_ok) (PrOk.of mixed_ok) Go.Proofs.Try.func30 rfl (by decide) rfl rfl rfl (pureR_many (e := (.pair (.int .i64) (.pair (.int .i64) .unit))) rfl) ?_
  subst hfns
  intro x r hw hs
  repeat'
    (try (conv => whnf)
     first
       | (have hs := letv_out hs)
       | (refine br_bool (fun h => ?_) (fun h => ?_) <;> first | have hs := cT h hs | have hs := cF h hs)
       | (refine bind_elim hs fun v hb hs => ?_; first | refine callK_lift rfl ((hG23 _).trans hb) ?_ | refine callK_lift rfl ((hG25 _).trans hb) ?_ | refine callK_lift rfl ((hG27 _).trans hb) ?_)
       | refine chk_elim hs fun hs => ?_
       | exact fin_some hs rfl
       | (intro b hb; first | have hs := nilq_elim hs b hb | have hs := nilqn_elim hs b hb)
       | exact hJ1 _ hs
       | (have hs := cT rfl hs)
       | (have hs := cF rfl hs)
       | exact (none_ne hs).elim
       | (refine draw_and (by kernel_rfl) ?_)
       | (refine vc_loop (phase_Goes_S1 _ _) phase_Goes_M1 hs rfl ?_; intro J1 k1 x1 hJ1 hs))
end Go.Proofs.YtdddmgbbjifkdaaV
