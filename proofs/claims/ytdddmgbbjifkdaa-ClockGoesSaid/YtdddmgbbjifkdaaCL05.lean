import Derived.Test.YtdddmgbbjifkdaaVcTab
import Derived.Test.YtdddmgbbjifkdaaDL05
import Derived.Test.YtdddmgbbjifkdaaCR05
import Derived.Test.YtdddmgbbjifkdaaCclock
namespace Go.Proofs.YtdddmgbbjifkdaaV
open Go.Proofs
set_option linter.unusedVariables false
noncomputable def lf_L05_alive : List AV → Option AV := liftF .unit (unpack .bool) (fun x => L05_alive)
def tt_L05_alive : List (Nat × Ty) := [(3, .int .i64), (4, .bool), (22, .int .i64)]
def et_L05_alive : List (Nat × Nat) := []
theorem tt_L05_alive_ok : subT tt tt_L05_alive = true := by kernel_rfl
theorem et_L05_alive_ok : subE et et_L05_alive = true := by kernel_rfl
noncomputable def E_L05_alive (fns : List (Nat × (List AV → Option AV))) : Env := ⟨0, 0, et_L05_alive, tt_L05_alive, fns, [], [], [(0, []), (1, [1, 2]), (2, [1, 2, 3, 4]), (3, [1, 2, 3, 4, 6]), (4, [0])]⟩
set_option maxRecDepth 100000 in
set_option maxHeartbeats 4000000 in
theorem c_L05_alive : PCon Go.Proofs.Try.prog 22 lf_L05_alive := by
  obtain ⟨G12, hG12, cG12⟩ : ∃ G : ((.pair (.int .i64) (.pair (.int .i64) .unit)) : Ty).den → Option (Int × Int × Unit), (∀ x, G x = clock_Tick x.1 x.2.1) ∧ PCon Go.Proofs.Try.prog 12 (liftF (.pair (.int .i64) (.pair (.int .i64) .unit)) (unpR (.pair (.int .i64) (.pair (.int .i64) .unit))) G) := ⟨_, fun _ => rfl, c_clock_Tick⟩
  obtain ⟨G14, hG14, cG14⟩ : ∃ G : ((.pair (.int .i64) (.pair (.int .i64) .unit)) : Ty).den → Option (Int × Int × Unit), (∀ x, G x = clock_After x.1 x.2.1) ∧ PCon Go.Proofs.Try.prog 14 (liftF (.pair (.int .i64) (.pair (.int .i64) .unit)) (unpR (.pair (.int .i64) (.pair (.int .i64) .unit))) G) := ⟨_, fun _ => rfl, c_clock_After⟩
  obtain ⟨G16, hG16, cG16⟩ : ∃ G : ((.pair (.int .i64) .unit) : Ty).den → Option Bool, (∀ x, G x = clock_Fine x.1) ∧ PCon Go.Proofs.Try.prog 16 (liftF (.pair (.int .i64) .unit) (unpack .bool) G) := ⟨_, fun _ => rfl, c_clock_Fine⟩
  obtain ⟨G18, hG18, cG18⟩ : ∃ G : ((.pair (.int .i64) (.pair (.int .i64) .unit)) : Ty).den → Option Bool, (∀ x, G x = clock_Due x.1 x.2.1) ∧ PCon Go.Proofs.Try.prog 18 (liftF (.pair (.int .i64) (.pair (.int .i64) .unit)) (unpack .bool) G) := ⟨_, fun _ => rfl, c_clock_Due⟩
  obtain ⟨G20, hG20, cG20⟩ : ∃ G : ((.pair (.int .i64) (.pair (.int .i64) .unit)) : Ty).den → Option Int, (∀ x, G x = clock_Left x.1 x.2.1) ∧ PCon Go.Proofs.Try.prog 20 (liftF (.pair (.int .i64) (.pair (.int .i64) .unit)) (unpack (.int .i64)) G) := ⟨_, fun _ => rfl, c_clock_Left⟩
  obtain ⟨fns, hfns, hf⟩ : ∃ fns, fns = [(12, liftF (.pair (.int .i64) (.pair (.int .i64) .unit)) (unpR (.pair (.int .i64) (.pair (.int .i64) .unit))) G12), (14, liftF (.pair (.int .i64) (.pair (.int .i64) .unit)) (unpR (.pair (.int .i64) (.pair (.int .i64) .unit))) G14), (16, liftF (.pair (.int .i64) .unit) (unpack .bool) G16), (18, liftF (.pair (.int .i64) (.pair (.int .i64) .unit)) (unpack .bool) G18), (20, liftF (.pair (.int .i64) (.pair (.int .i64) .unit)) (unpack (.int .i64)) G20)] ∧ FnsOk Go.Proofs.Try.prog fns := ⟨_, rfl, FnsOk.cons cG12 (FnsOk.cons cG14 (FnsOk.cons cG16 (FnsOk.cons cG18 (FnsOk.cons cG20 (FnsOk.nil _)))))⟩
  refine lift_con (E := E_L05_alive fns) (c := bodyOf Try.f22) (nt := 51) (rs := [.tmp 0]) (ts := [4]) (EnvC.sub tt_ok et_ok hf (PrsOk.nil _) tt_L05_alive_ok et_L05_alive_ok) (PrOk.of mixed_ok) Go.Proofs.Try.func22 rfl (by decide) rfl rfl rfl (pureR_one (e := .bool) rfl) ?_
  subst hfns
  intro x r hw hs
  repeat'
    (try (conv => whnf)
     first
       | (have hs := letv_out hs)
       | (refine br_bool (fun h => ?_) (fun h => ?_) <;> first | have hs := cT h hs | have hs := cF h hs)
       | (refine bind_elim hs fun v hb hs => ?_; first | refine callK_lift rfl ((hG12 _).trans hb) ?_ | refine callK_lift rfl ((hG14 _).trans hb) ?_ | refine callK_lift rfl ((hG16 _).trans hb) ?_ | refine callK_lift rfl ((hG18 _).trans hb) ?_ | refine callK_lift rfl ((hG20 _).trans hb) ?_)
       | refine chk_elim hs fun hs => ?_
       | exact fin_some hs rfl
       | (intro b hb; first | have hs := nilq_elim hs b hb | have hs := nilqn_elim hs b hb)
       | (have hs := cT rfl hs)
       | (have hs := cF rfl hs)
       | exact (none_ne hs).elim
       | (refine draw_and (by kernel_rfl) ?_))
noncomputable def lf_L05_ClockTells : List AV → Option AV := liftF (.pair (.int .i64) (.pair (.int .i64) .unit)) (unpack .bool) (fun x => L05_ClockTells x.1 x.2.1)
def tt_L05_ClockTells : List (Nat × Ty) := [(3, .int .i64), (4, .bool)]
def et_L05_ClockTells : List (Nat × Nat) := []
theorem tt_L05_ClockTells_ok : subT tt tt_L05_ClockTells = true := by kernel_rfl
theorem et_L05_ClockTells_ok : subE et et_L05_ClockTells = true := by kernel_rfl
noncomputable def E_L05_ClockTells (fns : List (Nat × (List AV → Option AV))) : Env := ⟨0, 0, et_L05_ClockTells, tt_L05_ClockTells, fns, [], [], [(0, [0, 1]), (1, [0, 1, 5, 6]), (2, [0, 1, 5, 6, 7, 8]), (3, [0, 1, 5, 6, 7, 8, 9, 10]), (4, [0, 1, 5, 6, 7, 8, 9, 10, 11, 12]), (5, [4])]⟩
set_option maxRecDepth 100000 in
set_option maxHeartbeats 4000000 in
theorem c_L05_ClockTells : PCon Go.Proofs.Try.prog 3 lf_L05_ClockTells := by
  obtain ⟨G12, hG12, cG12⟩ : ∃ G : ((.pair (.int .i64) (.pair (.int .i64) .unit)) : Ty).den → Option (Int × Int × Unit), (∀ x, G x = clock_Tick x.1 x.2.1) ∧ PCon Go.Proofs.Try.prog 12 (liftF (.pair (.int .i64) (.pair (.int .i64) .unit)) (unpR (.pair (.int .i64) (.pair (.int .i64) .unit))) G) := ⟨_, fun _ => rfl, c_clock_Tick⟩
  obtain ⟨G13, hG13, cG13⟩ : ∃ G : ((.pair (.int .i64) (.pair (.int .i64) .unit)) : Ty).den → Option (Int × Int × Unit), (∀ x, G x = R05_Tick x.1 x.2.1) ∧ PCon Go.Proofs.Try.prog 13 (liftF (.pair (.int .i64) (.pair (.int .i64) .unit)) (unpR (.pair (.int .i64) (.pair (.int .i64) .unit))) G) := ⟨_, fun _ => rfl, c_R05_Tick⟩
  obtain ⟨G14, hG14, cG14⟩ : ∃ G : ((.pair (.int .i64) (.pair (.int .i64) .unit)) : Ty).den → Option (Int × Int × Unit), (∀ x, G x = clock_After x.1 x.2.1) ∧ PCon Go.Proofs.Try.prog 14 (liftF (.pair (.int .i64) (.pair (.int .i64) .unit)) (unpR (.pair (.int .i64) (.pair (.int .i64) .unit))) G) := ⟨_, fun _ => rfl, c_clock_After⟩
  obtain ⟨G15, hG15, cG15⟩ : ∃ G : ((.pair (.int .i64) (.pair (.int .i64) .unit)) : Ty).den → Option (Int × Int × Unit), (∀ x, G x = R05_After x.1 x.2.1) ∧ PCon Go.Proofs.Try.prog 15 (liftF (.pair (.int .i64) (.pair (.int .i64) .unit)) (unpR (.pair (.int .i64) (.pair (.int .i64) .unit))) G) := ⟨_, fun _ => rfl, c_R05_After⟩
  obtain ⟨G16, hG16, cG16⟩ : ∃ G : ((.pair (.int .i64) .unit) : Ty).den → Option Bool, (∀ x, G x = clock_Fine x.1) ∧ PCon Go.Proofs.Try.prog 16 (liftF (.pair (.int .i64) .unit) (unpack .bool) G) := ⟨_, fun _ => rfl, c_clock_Fine⟩
  obtain ⟨G17, hG17, cG17⟩ : ∃ G : ((.pair (.int .i64) .unit) : Ty).den → Option Bool, (∀ x, G x = R05_Fine x.1) ∧ PCon Go.Proofs.Try.prog 17 (liftF (.pair (.int .i64) .unit) (unpack .bool) G) := ⟨_, fun _ => rfl, c_R05_Fine⟩
  obtain ⟨G18, hG18, cG18⟩ : ∃ G : ((.pair (.int .i64) (.pair (.int .i64) .unit)) : Ty).den → Option Bool, (∀ x, G x = clock_Due x.1 x.2.1) ∧ PCon Go.Proofs.Try.prog 18 (liftF (.pair (.int .i64) (.pair (.int .i64) .unit)) (unpack .bool) G) := ⟨_, fun _ => rfl, c_clock_Due⟩
  obtain ⟨G19, hG19, cG19⟩ : ∃ G : ((.pair (.int .i64) (.pair (.int .i64) .unit)) : Ty).den → Option Bool, (∀ x, G x = R05_Due x.1 x.2.1) ∧ PCon Go.Proofs.Try.prog 19 (liftF (.pair (.int .i64) (.pair (.int .i64) .unit)) (unpack .bool) G) := ⟨_, fun _ => rfl, c_R05_Due⟩
  obtain ⟨G20, hG20, cG20⟩ : ∃ G : ((.pair (.int .i64) (.pair (.int .i64) .unit)) : Ty).den → Option Int, (∀ x, G x = clock_Left x.1 x.2.1) ∧ PCon Go.Proofs.Try.prog 20 (liftF (.pair (.int .i64) (.pair (.int .i64) .unit)) (unpack (.int .i64)) G) := ⟨_, fun _ => rfl, c_clock_Left⟩
  obtain ⟨G21, hG21, cG21⟩ : ∃ G : ((.pair (.int .i64) (.pair (.int .i64) .unit)) : Ty).den → Option Int, (∀ x, G x = R05_Left x.1 x.2.1) ∧ PCon Go.Proofs.Try.prog 21 (liftF (.pair (.int .i64) (.pair (.int .i64) .unit)) (unpack (.int .i64)) G) := ⟨_, fun _ => rfl, c_R05_Left⟩
  obtain ⟨G22, hG22, cG22⟩ : ∃ G : (.unit : Ty).den → Option Bool, (∀ x, G x = L05_alive) ∧ PCon Go.Proofs.Try.prog 22 (liftF .unit (unpack .bool) G) := ⟨_, fun _ => rfl, c_L05_alive⟩
  obtain ⟨fns, hfns, hf⟩ : ∃ fns, fns = [(12, liftF (.pair (.int .i64) (.pair (.int .i64) .unit)) (unpR (.pair (.int .i64) (.pair (.int .i64) .unit))) G12), (13, liftF (.pair (.int .i64) (.pair (.int .i64) .unit)) (unpR (.pair (.int .i64) (.pair (.int .i64) .unit))) G13), (14, liftF (.pair (.int .i64) (.pair (.int .i64) .unit)) (unpR (.pair (.int .i64) (.pair (.int .i64) .unit))) G14), (15, liftF (.pair (.int .i64) (.pair (.int .i64) .unit)) (unpR (.pair (.int .i64) (.pair (.int .i64) .unit))) G15), (16, liftF (.pair (.int .i64) .unit) (unpack .bool) G16), (17, liftF (.pair (.int .i64) .unit) (unpack .bool) G17), (18, liftF (.pair (.int .i64) (.pair (.int .i64) .unit)) (unpack .bool) G18), (19, liftF (.pair (.int .i64) (.pair (.int .i64) .unit)) (unpack .bool) G19), (20, liftF (.pair (.int .i64) (.pair (.int .i64) .unit)) (unpack (.int .i64)) G20), (21, liftF (.pair (.int .i64) (.pair (.int .i64) .unit)) (unpack (.int .i64)) G21), (22, liftF .unit (unpack .bool) G22)] ∧ FnsOk Go.Proofs.Try.prog fns := ⟨_, rfl, FnsOk.cons cG12 (FnsOk.cons cG13 (FnsOk.cons cG14 (FnsOk.cons cG15 (FnsOk.cons cG16 (FnsOk.cons cG17 (FnsOk.cons cG18 (FnsOk.cons cG19 (FnsOk.cons cG20 (FnsOk.cons cG21 (FnsOk.cons cG22 (FnsOk.nil _)))))))))))⟩
  refine lift_con (E := E_L05_ClockTells fns) (c := bodyOf Try.f3) (nt := 83) (rs := [.tmp 4]) (ts := [4]) (EnvC.sub tt_ok et_ok hf (PrsOk.nil _) tt_L05_ClockTells_ok et_L05_ClockTells_ok) (PrOk.of mixed_ok) Go.Proofs.Try.func3 rfl (by decide) rfl rfl rfl (pureR_one (e := .bool) rfl) ?_
  subst hfns
  intro x r hw hs
  repeat'
    (try (conv => whnf)
     first
       | (have hs := letv_out hs)
       | (refine br_bool (fun h => ?_) (fun h => ?_) <;> first | have hs := cT h hs | have hs := cF h hs)
       | (refine bind_elim hs fun v hb hs => ?_; first | refine callK_lift rfl ((hG12 _).trans hb) ?_ | refine callK_lift rfl ((hG13 _).trans hb) ?_ | refine callK_lift rfl ((hG14 _).trans hb) ?_ | refine callK_lift rfl ((hG15 _).trans hb) ?_ | refine callK_lift rfl ((hG16 _).trans hb) ?_ | refine callK_lift rfl ((hG17 _).trans hb) ?_ | refine callK_lift rfl ((hG18 _).trans hb) ?_ | refine callK_lift rfl ((hG19 _).trans hb) ?_ | refine callK_lift rfl ((hG20 _).trans hb) ?_ | refine callK_lift rfl ((hG21 _).trans hb) ?_ | refine callK_lift rfl ((hG22 _).trans hb) ?_)
       | refine chk_elim hs fun hs => ?_
       | exact fin_some hs rfl
       | (intro b hb; first | have hs := nilq_elim hs b hb | have hs := nilqn_elim hs b hb)
       | (have hs := cT rfl hs)
       | (have hs := cF rfl hs)
       | exact (none_ne hs).elim
       | (refine draw_and (by kernel_rfl) ?_))
noncomputable def lf_L05_ClockGoes : List AV → Option AV := liftF (.pair (.int .u32) (.pair (.arr 2 (.int .u16)) (.pair (.int .u32) .unit))) (unpack .bool) (fun x => L05_ClockGoes x.1 x.2.1 x.2.2.1)
def tt_L05_ClockGoes : List (Nat × Ty) := [(3, .int .i64), (4, .bool), (22, .int .i64), (31, .int .u32), (32, .int .u16), (33, .arr 2 (.int .u16))]
def et_L05_ClockGoes : List (Nat × Nat) := []
theorem tt_L05_ClockGoes_ok : subT tt tt_L05_ClockGoes = true := by kernel_rfl
theorem et_L05_ClockGoes_ok : subE et et_L05_ClockGoes = true := by kernel_rfl
noncomputable def E_L05_ClockGoes (fns : List (Nat × (List AV → Option AV))) : Env := ⟨0, 0, et_L05_ClockGoes, tt_L05_ClockGoes, fns, [], [(1, [0, 1, 2, 3, 4, 5])], [(0, [0, 2, 4]), (1, [0, 2, 7, 8]), (2, [0, 2, 7, 8, 9, 10]), (3, [0, 2, 7, 8, 9, 10, 11, 12]), (4, [0, 2, 8, 9, 10, 11, 12, 13, 14]), (5, [2, 8, 9, 11, 70]), (6, [6]), (7, [2, 8, 9, 11, 93]), (8, [6]), (9, [6])]⟩
set_option maxRecDepth 100000 in
set_option maxHeartbeats 4000000 in
theorem c_L05_ClockGoes : PCon Go.Proofs.Try.prog 4 lf_L05_ClockGoes := by
  obtain ⟨G12, hG12, cG12⟩ : ∃ G : ((.pair (.int .i64) (.pair (.int .i64) .unit)) : Ty).den → Option (Int × Int × Unit), (∀ x, G x = clock_Tick x.1 x.2.1) ∧ PCon Go.Proofs.Try.prog 12 (liftF (.pair (.int .i64) (.pair (.int .i64) .unit)) (unpR (.pair (.int .i64) (.pair (.int .i64) .unit))) G) := ⟨_, fun _ => rfl, c_clock_Tick⟩
  obtain ⟨G18, hG18, cG18⟩ : ∃ G : ((.pair (.int .i64) (.pair (.int .i64) .unit)) : Ty).den → Option Bool, (∀ x, G x = clock_Due x.1 x.2.1) ∧ PCon Go.Proofs.Try.prog 18 (liftF (.pair (.int .i64) (.pair (.int .i64) .unit)) (unpack .bool) G) := ⟨_, fun _ => rfl, c_clock_Due⟩
  obtain ⟨G20, hG20, cG20⟩ : ∃ G : ((.pair (.int .i64) (.pair (.int .i64) .unit)) : Ty).den → Option Int, (∀ x, G x = clock_Left x.1 x.2.1) ∧ PCon Go.Proofs.Try.prog 20 (liftF (.pair (.int .i64) (.pair (.int .i64) .unit)) (unpack (.int .i64)) G) := ⟨_, fun _ => rfl, c_clock_Left⟩
  obtain ⟨G22, hG22, cG22⟩ : ∃ G : (.unit : Ty).den → Option Bool, (∀ x, G x = L05_alive) ∧ PCon Go.Proofs.Try.prog 22 (liftF .unit (unpack .bool) G) := ⟨_, fun _ => rfl, c_L05_alive⟩
  obtain ⟨fns, hfns, hf⟩ : ∃ fns, fns = [(12, liftF (.pair (.int .i64) (.pair (.int .i64) .unit)) (unpR (.pair (.int .i64) (.pair (.int .i64) .unit))) G12), (18, liftF (.pair (.int .i64) (.pair (.int .i64) .unit)) (unpack .bool) G18), (20, liftF (.pair (.int .i64) (.pair (.int .i64) .unit)) (unpack (.int .i64)) G20), (22, liftF .unit (unpack .bool) G22)] ∧ FnsOk Go.Proofs.Try.prog fns := ⟨_, rfl, FnsOk.cons cG12 (FnsOk.cons cG18 (FnsOk.cons cG20 (FnsOk.cons cG22 (FnsOk.nil _))))⟩
  refine lift_con (E := E_L05_ClockGoes fns) (c := bodyOf Try.f4) (nt := 110) (rs := [.tmp 6]) (ts := [4]) (EnvC.sub tt_ok et_ok hf (PrsOk.nil _) tt_L05_ClockGoes_ok et_L05_ClockGoes_ok) (PrOk.of mixed_ok) Go.Proofs.Try.func4 rfl (by decide) rfl rfl rfl (pureR_one (e := .bool) rfl) ?_
  subst hfns
  intro x r hw hs
  repeat'
    (try (conv => whnf)
     first
       | (have hs := letv_out hs)
       | (refine br_bool (fun h => ?_) (fun h => ?_) <;> first | have hs := cT h hs | have hs := cF h hs)
       | (refine bind_elim hs fun v hb hs => ?_; first | refine callK_lift rfl ((hG12 _).trans hb) ?_ | refine callK_lift rfl ((hG18 _).trans hb) ?_ | refine callK_lift rfl ((hG20 _).trans hb) ?_ | refine callK_lift rfl ((hG22 _).trans hb) ?_)
       | refine chk_elim hs fun hs => ?_
       | exact fin_some hs rfl
       | (intro b hb; first | have hs := nilq_elim hs b hb | have hs := nilqn_elim hs b hb)
       | (have hs := cT rfl hs)
       | (have hs := cF rfl hs)
       | exact (none_ne hs).elim
       | (refine draw_and (by kernel_rfl) ?_))
noncomputable def lf_L05_ClockEnds : List AV → Option AV := liftF (.pair (.int .u64) (.pair (.int .u64) .unit)) (unpack .bool) (fun x => L05_ClockEnds x.1 x.2.1)
def tt_L05_ClockEnds : List (Nat × Ty) := [(3, .int .i64), (4, .bool), (22, .int .i64), (35, .int .u64)]
def et_L05_ClockEnds : List (Nat × Nat) := []
theorem tt_L05_ClockEnds_ok : subT tt tt_L05_ClockEnds = true := by kernel_rfl
theorem et_L05_ClockEnds_ok : subE et et_L05_ClockEnds = true := by kernel_rfl
noncomputable def E_L05_ClockEnds (fns : List (Nat × (List AV → Option AV))) : Env := ⟨0, 0, et_L05_ClockEnds, tt_L05_ClockEnds, fns, [], [], [(0, [0, 1]), (1, [5, 6]), (2, [5, 6, 7, 8]), (3, [6, 7, 8, 9, 10]), (4, [4])]⟩
set_option maxRecDepth 100000 in
set_option maxHeartbeats 4000000 in
theorem c_L05_ClockEnds : PCon Go.Proofs.Try.prog 5 lf_L05_ClockEnds := by
  obtain ⟨G12, hG12, cG12⟩ : ∃ G : ((.pair (.int .i64) (.pair (.int .i64) .unit)) : Ty).den → Option (Int × Int × Unit), (∀ x, G x = clock_Tick x.1 x.2.1) ∧ PCon Go.Proofs.Try.prog 12 (liftF (.pair (.int .i64) (.pair (.int .i64) .unit)) (unpR (.pair (.int .i64) (.pair (.int .i64) .unit))) G) := ⟨_, fun _ => rfl, c_clock_Tick⟩
  obtain ⟨G14, hG14, cG14⟩ : ∃ G : ((.pair (.int .i64) (.pair (.int .i64) .unit)) : Ty).den → Option (Int × Int × Unit), (∀ x, G x = clock_After x.1 x.2.1) ∧ PCon Go.Proofs.Try.prog 14 (liftF (.pair (.int .i64) (.pair (.int .i64) .unit)) (unpR (.pair (.int .i64) (.pair (.int .i64) .unit))) G) := ⟨_, fun _ => rfl, c_clock_After⟩
  obtain ⟨G18, hG18, cG18⟩ : ∃ G : ((.pair (.int .i64) (.pair (.int .i64) .unit)) : Ty).den → Option Bool, (∀ x, G x = clock_Due x.1 x.2.1) ∧ PCon Go.Proofs.Try.prog 18 (liftF (.pair (.int .i64) (.pair (.int .i64) .unit)) (unpack .bool) G) := ⟨_, fun _ => rfl, c_clock_Due⟩
  obtain ⟨G20, hG20, cG20⟩ : ∃ G : ((.pair (.int .i64) (.pair (.int .i64) .unit)) : Ty).den → Option Int, (∀ x, G x = clock_Left x.1 x.2.1) ∧ PCon Go.Proofs.Try.prog 20 (liftF (.pair (.int .i64) (.pair (.int .i64) .unit)) (unpack (.int .i64)) G) := ⟨_, fun _ => rfl, c_clock_Left⟩
  obtain ⟨G22, hG22, cG22⟩ : ∃ G : (.unit : Ty).den → Option Bool, (∀ x, G x = L05_alive) ∧ PCon Go.Proofs.Try.prog 22 (liftF .unit (unpack .bool) G) := ⟨_, fun _ => rfl, c_L05_alive⟩
  obtain ⟨fns, hfns, hf⟩ : ∃ fns, fns = [(12, liftF (.pair (.int .i64) (.pair (.int .i64) .unit)) (unpR (.pair (.int .i64) (.pair (.int .i64) .unit))) G12), (14, liftF (.pair (.int .i64) (.pair (.int .i64) .unit)) (unpR (.pair (.int .i64) (.pair (.int .i64) .unit))) G14), (18, liftF (.pair (.int .i64) (.pair (.int .i64) .unit)) (unpack .bool) G18), (20, liftF (.pair (.int .i64) (.pair (.int .i64) .unit)) (unpack (.int .i64)) G20), (22, liftF .unit (unpack .bool) G22)] ∧ FnsOk Go.Proofs.Try.prog fns := ⟨_, rfl, FnsOk.cons cG12 (FnsOk.cons cG14 (FnsOk.cons cG18 (FnsOk.cons cG20 (FnsOk.cons cG22 (FnsOk.nil _)))))⟩
  refine lift_con (E := E_L05_ClockEnds fns) (c := bodyOf Try.f5) (nt := 66) (rs := [.tmp 4]) (ts := [4]) (EnvC.sub tt_ok et_ok hf (PrsOk.nil _) tt_L05_ClockEnds_ok et_L05_ClockEnds_ok) (PrOk.of mixed_ok) Go.Proofs.Try.func5 rfl (by decide) rfl rfl rfl (pureR_one (e := .bool) rfl) ?_
  subst hfns
  intro x r hw hs
  repeat'
    (try (conv => whnf)
     first
       | (have hs := letv_out hs)
       | (refine br_bool (fun h => ?_) (fun h => ?_) <;> first | have hs := cT h hs | have hs := cF h hs)
       | (refine bind_elim hs fun v hb hs => ?_; first | refine callK_lift rfl ((hG12 _).trans hb) ?_ | refine callK_lift rfl ((hG14 _).trans hb) ?_ | refine callK_lift rfl ((hG18 _).trans hb) ?_ | refine callK_lift rfl ((hG20 _).trans hb) ?_ | refine callK_lift rfl ((hG22 _).trans hb) ?_)
       | refine chk_elim hs fun hs => ?_
       | exact fin_some hs rfl
       | (intro b hb; first | have hs := nilq_elim hs b hb | have hs := nilqn_elim hs b hb)
       | (have hs := cT rfl hs)
       | (have hs := cF rfl hs)
       | exact (none_ne hs).elim
       | (refine draw_and (by kernel_rfl) ?_))
end Go.Proofs.YtdddmgbbjifkdaaV
