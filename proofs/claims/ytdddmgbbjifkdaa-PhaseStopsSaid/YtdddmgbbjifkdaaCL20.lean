import Derived.Test.YtdddmgbbjifkdaaVcTab
import Derived.Test.YtdddmgbbjifkdaaDL20
import Derived.Test.YtdddmgbbjifkdaaCR20
import Derived.Test.YtdddmgbbjifkdaaCphase
namespace Go.Proofs.YtdddmgbbjifkdaaV
open Go.Proofs
set_option linter.unusedVariables false
noncomputable def lf_L20_alive : List AV → Option AV := liftF .unit (unpack .bool) (fun x => L20_alive)
def tt_L20_alive : List (Nat × Ty) := [(3, .int .i64), (4, .bool), (22, .int .i64)]
def et_L20_alive : List (Nat × Nat) := []
theorem tt_L20_alive_ok : subT tt tt_L20_alive = true := by kernel_rfl
theorem et_L20_alive_ok : subE et et_L20_alive = true := by kernel_rfl
noncomputable def E_L20_alive (fns : List (Nat × (List AV → Option AV))) : Env := ⟨0, 0, et_L20_alive, tt_L20_alive, fns, [], [], [(0, []), (1, [1, 2]), (2, [1, 2, 4]), (3, [1, 2, 4, 5, 6]), (4, [0])]⟩
set_option maxRecDepth 100000 in
set_option maxHeartbeats 4000000 in
theorem c_L20_alive : PCon Go.Proofs.Try.prog 29 lf_L20_alive := by
  obtain ⟨G23, hG23, cG23⟩ : ∃ G : ((.pair (.int .i64) (.pair (.int .i64) .unit)) : Ty).den → Option (Int × Int × Unit), (∀ x, G x = phase_Next x.1 x.2.1) ∧ PCon Go.Proofs.Try.prog 23 (liftF (.pair (.int .i64) (.pair (.int .i64) .unit)) (unpR (.pair (.int .i64) (.pair (.int .i64) .unit))) G) := ⟨_, fun _ => rfl, c_phase_Next⟩
  obtain ⟨G25, hG25, cG25⟩ : ∃ G : ((.pair (.int .i64) (.pair (.int .i64) .unit)) : Ty).den → Option Bool, (∀ x, G x = phase_Fine x.1 x.2.1) ∧ PCon Go.Proofs.Try.prog 25 (liftF (.pair (.int .i64) (.pair (.int .i64) .unit)) (unpack .bool) G) := ⟨_, fun _ => rfl, c_phase_Fine⟩
  obtain ⟨G27, hG27, cG27⟩ : ∃ G : ((.pair (.int .i64) (.pair (.int .i64) .unit)) : Ty).den → Option Int, (∀ x, G x = phase_Left x.1 x.2.1) ∧ PCon Go.Proofs.Try.prog 27 (liftF (.pair (.int .i64) (.pair (.int .i64) .unit)) (unpack (.int .i64)) G) := ⟨_, fun _ => rfl, c_phase_Left⟩
  obtain ⟨G30, hG30, cG30⟩ : ∃ G : ((.pair (.int .i64) (.pair (.int .i64) (.pair (.int .i64) .unit))) : Ty).den → Option (Int × Int × Unit), (∀ x, G x = phase_Goes x.1 x.2.1 x.2.2.1) ∧ PCon Go.Proofs.Try.prog 30 (liftF (.pair (.int .i64) (.pair (.int .i64) (.pair (.int .i64) .unit))) (unpR (.pair (.int .i64) (.pair (.int .i64) .unit))) G) := ⟨_, fun _ => rfl, c_phase_Goes⟩
  obtain ⟨fns, hfns, hf⟩ : ∃ fns, fns = [(23, liftF (.pair (.int .i64) (.pair (.int .i64) .unit)) (unpR (.pair (.int .i64) (.pair (.int .i64) .unit))) G23), (25, liftF (.pair (.int .i64) (.pair (.int .i64) .unit)) (unpack .bool) G25), (27, liftF (.pair (.int .i64) (.pair (.int .i64) .unit)) (unpack (.int .i64)) G27), (30, liftF (.pair (.int .i64) (.pair (.int .i64) (.pair (.int .i64) .unit))) (unpR (.pair (.int .i64) (.pair (.int .i64) .unit))) G30)] ∧ FnsOk Go.Proofs.Try.prog fns := ⟨_, rfl, FnsOk.cons cG23 (FnsOk.cons cG25 (FnsOk.cons cG27 (FnsOk.cons cG30 (FnsOk.nil _))))⟩
  refine lift_con (E := E_L20_alive fns) (c := bodyOf Try.f29) (nt := 48) (rs := [.tmp 0]) (ts := [4]) (EnvC.sub tt_ok et_ok hf (PrsOk.nil _) tt_L20_alive_ok et_L20_alive_ok) (PrOk.of mixed_ok) Go.Proofs.Try.func29 rfl (by decide) rfl rfl rfl (pureR_one (e := .bool) rfl) ?_
  subst hfns
  intro x r hw hs
  repeat'
    (try (conv => whnf)
     first
       | (have hs := letv_out hs)
       | (refine br_bool (fun h => ?_) (fun h => ?_) <;> first | have hs := cT h hs | have hs := cF h hs)
       | (refine bind_elim hs fun v hb hs => ?_; first | refine callK_lift rfl ((hG23 _).trans hb) ?_ | refine callK_lift rfl ((hG25 _).trans hb) ?_ | refine callK_lift rfl ((hG27 _).trans hb) ?_ | refine callK_lift rfl ((hG30 _).trans hb) ?_)
       | refine chk_elim hs fun hs => ?_
       | exact fin_some hs rfl
       | (intro b hb; first | have hs := nilq_elim hs b hb | have hs := nilqn_elim hs b hb)
       | (have hs := cT rfl hs)
       | (have hs := cF rfl hs)
       | exact (none_ne hs).elim
       | (refine draw_and (by kernel_rfl) ?_))
noncomputable def lf_L20_PhaseTells : List AV → Option AV := liftF (.pair (.int .i64) (.pair (.int .i64) .unit)) (unpack .bool) (fun x => L20_PhaseTells x.1 x.2.1)
def tt_L20_PhaseTells : List (Nat × Ty) := [(3, .int .i64), (4, .bool)]
def et_L20_PhaseTells : List (Nat × Nat) := []
theorem tt_L20_PhaseTells_ok : subT tt tt_L20_PhaseTells = true := by kernel_rfl
theorem et_L20_PhaseTells_ok : subE et et_L20_PhaseTells = true := by kernel_rfl
noncomputable def E_L20_PhaseTells (fns : List (Nat × (List AV → Option AV))) : Env := ⟨0, 0, et_L20_PhaseTells, tt_L20_PhaseTells, fns, [], [], [(0, [0, 1]), (1, [0, 1, 5, 6]), (2, [0, 1, 5, 6, 7, 8]), (3, [4])]⟩
set_option maxRecDepth 100000 in
set_option maxHeartbeats 4000000 in
theorem c_L20_PhaseTells : PCon Go.Proofs.Try.prog 6 lf_L20_PhaseTells := by
  obtain ⟨G23, hG23, cG23⟩ : ∃ G : ((.pair (.int .i64) (.pair (.int .i64) .unit)) : Ty).den → Option (Int × Int × Unit), (∀ x, G x = phase_Next x.1 x.2.1) ∧ PCon Go.Proofs.Try.prog 23 (liftF (.pair (.int .i64) (.pair (.int .i64) .unit)) (unpR (.pair (.int .i64) (.pair (.int .i64) .unit))) G) := ⟨_, fun _ => rfl, c_phase_Next⟩
  obtain ⟨G24, hG24, cG24⟩ : ∃ G : ((.pair (.int .i64) (.pair (.int .i64) .unit)) : Ty).den → Option (Int × Int × Unit), (∀ x, G x = R20_Next x.1 x.2.1) ∧ PCon Go.Proofs.Try.prog 24 (liftF (.pair (.int .i64) (.pair (.int .i64) .unit)) (unpR (.pair (.int .i64) (.pair (.int .i64) .unit))) G) := ⟨_, fun _ => rfl, c_R20_Next⟩
  obtain ⟨G25, hG25, cG25⟩ : ∃ G : ((.pair (.int .i64) (.pair (.int .i64) .unit)) : Ty).den → Option Bool, (∀ x, G x = phase_Fine x.1 x.2.1) ∧ PCon Go.Proofs.Try.prog 25 (liftF (.pair (.int .i64) (.pair (.int .i64) .unit)) (unpack .bool) G) := ⟨_, fun _ => rfl, c_phase_Fine⟩
  obtain ⟨G26, hG26, cG26⟩ : ∃ G : ((.pair (.int .i64) (.pair (.int .i64) .unit)) : Ty).den → Option Bool, (∀ x, G x = R20_Fine x.1 x.2.1) ∧ PCon Go.Proofs.Try.prog 26 (liftF (.pair (.int .i64) (.pair (.int .i64) .unit)) (unpack .bool) G) := ⟨_, fun _ => rfl, c_R20_Fine⟩
  obtain ⟨G27, hG27, cG27⟩ : ∃ G : ((.pair (.int .i64) (.pair (.int .i64) .unit)) : Ty).den → Option Int, (∀ x, G x = phase_Left x.1 x.2.1) ∧ PCon Go.Proofs.Try.prog 27 (liftF (.pair (.int .i64) (.pair (.int .i64) .unit)) (unpack (.int .i64)) G) := ⟨_, fun _ => rfl, c_phase_Left⟩
  obtain ⟨G28, hG28, cG28⟩ : ∃ G : ((.pair (.int .i64) (.pair (.int .i64) .unit)) : Ty).den → Option Int, (∀ x, G x = R20_Left x.1 x.2.1) ∧ PCon Go.Proofs.Try.prog 28 (liftF (.pair (.int .i64) (.pair (.int .i64) .unit)) (unpack (.int .i64)) G) := ⟨_, fun _ => rfl, c_R20_Left⟩
  obtain ⟨G29, hG29, cG29⟩ : ∃ G : (.unit : Ty).den → Option Bool, (∀ x, G x = L20_alive) ∧ PCon Go.Proofs.Try.prog 29 (liftF .unit (unpack .bool) G) := ⟨_, fun _ => rfl, c_L20_alive⟩
  obtain ⟨fns, hfns, hf⟩ : ∃ fns, fns = [(23, liftF (.pair (.int .i64) (.pair (.int .i64) .unit)) (unpR (.pair (.int .i64) (.pair (.int .i64) .unit))) G23), (24, liftF (.pair (.int .i64) (.pair (.int .i64) .unit)) (unpR (.pair (.int .i64) (.pair (.int .i64) .unit))) G24), (25, liftF (.pair (.int .i64) (.pair (.int .i64) .unit)) (unpack .bool) G25), (26, liftF (.pair (.int .i64) (.pair (.int .i64) .unit)) (unpack .bool) G26), (27, liftF (.pair (.int .i64) (.pair (.int .i64) .unit)) (unpack (.int .i64)) G27), (28, liftF (.pair (.int .i64) (.pair (.int .i64) .unit)) (unpack (.int .i64)) G28), (29, liftF .unit (unpack .bool) G29)] ∧ FnsOk Go.Proofs.Try.prog fns := ⟨_, rfl, FnsOk.cons cG23 (FnsOk.cons cG24 (FnsOk.cons cG25 (FnsOk.cons cG26 (FnsOk.cons cG27 (FnsOk.cons cG28 (FnsOk.cons cG29 (FnsOk.nil _)))))))⟩
  refine lift_con (E := E_L20_PhaseTells fns) (c := bodyOf Try.f6) (nt := 50) (rs := [.tmp 4]) (ts := [4]) (EnvC.sub tt_ok et_ok hf (PrsOk.nil _) tt_L20_PhaseTells_ok et_L20_PhaseTells_ok) (PrOk.of mixed_ok) Go.Proofs.Try.func6 rfl (by decide) rfl rfl rfl (pureR_one (e := .bool) rfl) ?_
  subst hfns
  intro x r hw hs
  repeat'
    (try (conv => whnf)
     first
       | (have hs := letv_out hs)
       | (refine br_bool (fun h => ?_) (fun h => ?_) <;> first | have hs := cT h hs | have hs := cF h hs)
       | (refine bind_elim hs fun v hb hs => ?_; first | refine callK_lift rfl ((hG23 _).trans hb) ?_ | refine callK_lift rfl ((hG24 _).trans hb) ?_ | refine callK_lift rfl ((hG25 _).trans hb) ?_ | refine callK_lift rfl ((hG26 _).trans hb) ?_ | refine callK_lift rfl ((hG27 _).trans hb) ?_ | refine callK_lift rfl ((hG28 _).trans hb) ?_ | refine callK_lift rfl ((hG29 _).trans hb) ?_)
       | refine chk_elim hs fun hs => ?_
       | exact fin_some hs rfl
       | (intro b hb; first | have hs := nilq_elim hs b hb | have hs := nilqn_elim hs b hb)
       | (have hs := cT rfl hs)
       | (have hs := cF rfl hs)
       | exact (none_ne hs).elim
       | (refine draw_and (by kernel_rfl) ?_))
noncomputable def lf_L20_PhaseGoes : List AV → Option AV := liftF (.pair (.int .i64) (.pair (.int .i64) (.pair (.int .i64) .unit))) (unpack .bool) (fun x => L20_PhaseGoes x.1 x.2.1 x.2.2.1)
def tt_L20_PhaseGoes : List (Nat × Ty) := [(3, .int .i64), (4, .bool)]
def et_L20_PhaseGoes : List (Nat × Nat) := []
theorem tt_L20_PhaseGoes_ok : subT tt tt_L20_PhaseGoes = true := by kernel_rfl
theorem et_L20_PhaseGoes_ok : subE et et_L20_PhaseGoes = true := by kernel_rfl
noncomputable def E_L20_PhaseGoes (fns : List (Nat × (List AV → Option AV))) : Env := ⟨0, 0, et_L20_PhaseGoes, tt_L20_PhaseGoes, fns, [], [], [(0, [0, 1, 2]), (1, [0, 1, 2, 7, 8]), (2, [7, 8, 9, 10]), (3, [6])]⟩
set_option maxRecDepth 100000 in
set_option maxHeartbeats 4000000 in
theorem c_L20_PhaseGoes : PCon Go.Proofs.Try.prog 7 lf_L20_PhaseGoes := by
  obtain ⟨G29, hG29, cG29⟩ : ∃ G : (.unit : Ty).den → Option Bool, (∀ x, G x = L20_alive) ∧ PCon Go.Proofs.Try.prog 29 (liftF .unit (unpack .bool) G) := ⟨_, fun _ => rfl, c_L20_alive⟩
  obtain ⟨G30, hG30, cG30⟩ : ∃ G : ((.pair (.int .i64) (.pair (.int .i64) (.pair (.int .i64) .unit))) : Ty).den → Option (Int × Int × Unit), (∀ x, G x = phase_Goes x.1 x.2.1 x.2.2.1) ∧ PCon Go.Proofs.Try.prog 30 (liftF (.pair (.int .i64) (.pair (.int .i64) (.pair (.int .i64) .unit))) (unpR (.pair (.int .i64) (.pair (.int .i64) .unit))) G) := ⟨_, fun _ => rfl, c_phase_Goes⟩
  obtain ⟨G31, hG31, cG31⟩ : ∃ G : ((.pair (.int .i64) (.pair (.int .i64) (.pair (.int .i64) .unit))) : Ty).den → Option (Int × Int × Unit), (∀ x, G x = R20_Goes x.1 x.2.1 x.2.2.1) ∧ PCon Go.Proofs.Try.prog 31 (liftF (.pair (.int .i64) (.pair (.int .i64) (.pair (.int .i64) .unit))) (unpR (.pair (.int .i64) (.pair (.int .i64) .unit))) G) := ⟨_, fun _ => rfl, c_R20_Goes⟩
  obtain ⟨fns, hfns, hf⟩ : ∃ fns, fns = [(29, liftF .unit (unpack .bool) G29), (30, liftF (.pair (.int .i64) (.pair (.int .i64) (.pair (.int .i64) .unit))) (unpR (.pair (.int .i64) (.pair (.int .i64) .unit))) G30), (31, liftF (.pair (.int .i64) (.pair (.int .i64) (.pair (.int .i64) .unit))) (unpR (.pair (.int .i64) (.pair (.int .i64) .unit))) G31)] ∧ FnsOk Go.Proofs.Try.prog fns := ⟨_, rfl, FnsOk.cons cG29 (FnsOk.cons cG30 (FnsOk.cons cG31 (FnsOk.nil _)))⟩
  refine lift_con (E := E_L20_PhaseGoes fns) (c := bodyOf Try.f7) (nt := 36) (rs := [.tmp 6]) (ts := [4]) (EnvC.sub tt_ok et_ok hf (PrsOk.nil _) tt_L20_PhaseGoes_ok et_L20_PhaseGoes_ok) (PrOk.of mixed_ok) Go.Proofs.Try.func7 rfl (by decide) rfl rfl rfl (pureR_one (e := .bool) rfl) ?_
  subst hfns
  intro x r hw hs
  repeat'
    (try (conv => whnf)
     first
       | (have hs := letv_out hs)
       | (refine br_bool (fun h => ?_) (fun h => ?_) <;> first | have hs := cT h hs | have hs := cF h hs)
       | (refine bind_elim hs fun v hb hs => ?_; first | refine callK_lift rfl ((hG29 _).trans hb) ?_ | refine callK_lift rfl ((hG30 _).trans hb) ?_ | refine callK_lift rfl ((hG31 _).trans hb) ?_)
       | refine chk_elim hs fun hs => ?_
       | exact fin_some hs rfl
       | (intro b hb; first | have hs := nilq_elim hs b hb | have hs := nilqn_elim hs b hb)
       | (have hs := cT rfl hs)
       | (have hs := cF rfl hs)
       | exact (none_ne hs).elim
       | (refine draw_and (by kernel_rfl) ?_))
noncomputable def lf_L20_PhaseStops : List AV → Option AV := liftF (.pair (.int .u16) (.pair (.int .u16) .unit)) (unpack .bool) (fun x => L20_PhaseStops x.1 x.2.1)
def tt_L20_PhaseStops : List (Nat × Ty) := [(3, .int .i64), (4, .bool), (22, .int .i64), (32, .int .u16)]
def et_L20_PhaseStops : List (Nat × Nat) := []
theorem tt_L20_PhaseStops_ok : subT tt tt_L20_PhaseStops = true := by kernel_rfl
theorem et_L20_PhaseStops_ok : subE et et_L20_PhaseStops = true := by kernel_rfl
def L20_PhaseStops_S1 (u0 : AV) (u1 : AV) (u2 : AV) (x1 : Int × Int) : St :=
  ⟨[(1, u0), (5, u1), (6, .int .i64 x1.1), (15, u2), (16, .int .i64 x1.2)], [], none⟩
def L20_PhaseStops_M1 : Msk := ⟨[1, 5, 6, 15, 16], [], [], [], [], [], [], [], []⟩
noncomputable def E_L20_PhaseStops (fns : List (Nat × (List AV → Option AV))) : Env := ⟨0, 0, et_L20_PhaseStops, tt_L20_PhaseStops, fns, [], [], [(0, [0, 1]), (1, [1, 5, 6]), (2, [1, 5, 6, 15, 16]), (3, [1, 5, 6, 15, 16, 17]), (4, [1, 5, 6, 7, 15, 16]), (5, [1, 5, 6, 7, 8, 9, 15, 16]), (6, [1, 5, 6, 8, 9, 15, 16, 58]), (7, [4]), (8, [1, 5, 6, 8, 15, 16, 60]), (9, [1, 5, 6, 15, 16]), (10, [1, 5, 6, 15, 16]), (11, [4])]⟩
set_option maxRecDepth 100000 in
set_option maxHeartbeats 4000000 in
theorem c_L20_PhaseStops : PCon Go.Proofs.Try.prog 8 lf_L20_PhaseStops := by
  obtain ⟨G23, hG23, cG23⟩ : ∃ G : ((.pair (.int .i64) (.pair (.int .i64) .unit)) : Ty).den → Option (Int × Int × Unit), (∀ x, G x = phase_Next x.1 x.2.1) ∧ PCon Go.Proofs.Try.prog 23 (liftF (.pair (.int .i64) (.pair (.int .i64) .unit)) (unpR (.pair (.int .i64) (.pair (.int .i64) .unit))) G) := ⟨_, fun _ => rfl, c_phase_Next⟩
  obtain ⟨G27, hG27, cG27⟩ : ∃ G : ((.pair (.int .i64) (.pair (.int .i64) .unit)) : Ty).den → Option Int, (∀ x, G x = phase_Left x.1 x.2.1) ∧ PCon Go.Proofs.Try.prog 27 (liftF (.pair (.int .i64) (.pair (.int .i64) .unit)) (unpack (.int .i64)) G) := ⟨_, fun _ => rfl, c_phase_Left⟩
  obtain ⟨G29, hG29, cG29⟩ : ∃ G : (.unit : Ty).den → Option Bool, (∀ x, G x = L20_alive) ∧ PCon Go.Proofs.Try.prog 29 (liftF .unit (unpack .bool) G) := ⟨_, fun _ => rfl, c_L20_alive⟩
  obtain ⟨fns, hfns, hf⟩ : ∃ fns, fns = [(23, liftF (.pair (.int .i64) (.pair (.int .i64) .unit)) (unpR (.pair (.int .i64) (.pair (.int .i64) .unit))) G23), (27, liftF (.pair (.int .i64) (.pair (.int .i64) .unit)) (unpack (.int .i64)) G27), (29, liftF .unit (unpack .bool) G29)] ∧ FnsOk Go.Proofs.Try.prog fns := ⟨_, rfl, FnsOk.cons cG23 (FnsOk.cons cG27 (FnsOk.cons cG29 (FnsOk.nil _)))⟩
  refine lift_con (E := E_L20_PhaseStops fns) (c := bodyOf Try.f8) (nt := 73) (rs := [.tmp 4]) (ts := [4]) (EnvC.sub tt_ok et_ok hf (PrsOk.nil _) tt_L20_PhaseStops_ok et_L20_PhaseStops_ok) (PrOk.of mixed_ok) Go.Proofs.Try.func8 rfl (by decide) rfl rfl rfl (pureR_one (e := .bool) rfl) ?_
  subst hfns
  intro x r hw hs
  repeat'
    (try (conv => whnf)
     first
       | (have hs := letv_out hs)
       | (refine br_bool (fun h => ?_) (fun h => ?_) <;> first | have hs := cT h hs | have hs := cF h hs)
       | (refine bind_elim hs fun v hb hs => ?_; first | refine callK_lift rfl ((hG23 _).trans hb) ?_ | refine callK_lift rfl ((hG27 _).trans hb) ?_ | refine callK_lift rfl ((hG29 _).trans hb) ?_)
       | refine chk_elim hs fun hs => ?_
       | exact fin_some hs rfl
       | (intro b hb; first | have hs := nilq_elim hs b hb | have hs := nilqn_elim hs b hb)
       | exact hJ1 _ hs
       | (have hs := cT rfl hs)
       | (have hs := cF rfl hs)
       | exact (none_ne hs).elim
       | (refine draw_and (by kernel_rfl) ?_)
       | (refine vc_loop (L20_PhaseStops_S1 _ _ _) L20_PhaseStops_M1 hs rfl ?_; intro J1 k1 x1 hJ1 hs))
end Go.Proofs.YtdddmgbbjifkdaaV
