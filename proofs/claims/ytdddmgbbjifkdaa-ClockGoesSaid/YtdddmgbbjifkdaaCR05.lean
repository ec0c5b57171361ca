import Derived.Test.YtdddmgbbjifkdaaVcTab
import Derived.Test.YtdddmgbbjifkdaaDR05
namespace Go.Proofs.YtdddmgbbjifkdaaV
open Go.Proofs
set_option linter.unusedVariables false
noncomputable def lf_R05_Fine : List AV → Option AV := liftF (.pair (.int .i64) .unit) (unpack .bool) (fun x => R05_Fine x.1)
def tt_R05_Fine : List (Nat × Ty) := [(3, .int .i64), (4, .bool)]
def et_R05_Fine : List (Nat × Nat) := []
theorem tt_R05_Fine_ok : subT tt tt_R05_Fine = true := by kernel_rfl
theorem et_R05_Fine_ok : subE et et_R05_Fine = true := by kernel_rfl
noncomputable def E_R05_Fine (fns : List (Nat × (List AV → Option AV))) : Env := ⟨0, 0, et_R05_Fine, tt_R05_Fine, fns, [], [], [(0, [0]), (1, [2])]⟩
set_option maxRecDepth 100000 in
set_option maxHeartbeats 4000000 in
theorem c_R05_Fine : PCon Go.Proofs.Try.prog 17 lf_R05_Fine := by
  obtain ⟨fns, hfns, hf⟩ : ∃ fns, fns = [] ∧ FnsOk Go.Proofs.Try.prog fns := ⟨_, rfl, FnsOk.nil _⟩
  refine lift_con (E := E_R05_Fine fns) (c := bodyOf Try.f17) (nt := 9) (rs := [.tmp 2]) (ts := [4]) (EnvC.sub tt_ok et_ok hf (PrsOk.nil _) tt_R05_Fine_ok et_R05_Fine_ok) (PrOk.of mixed_ok) Go.Proofs.Try.func17 rfl (by decide) rfl rfl rfl (pureR_one (e := .bool) rfl) ?_
  subst hfns
  intro x r hw hs
  repeat'
    (try (conv => whnf)
     first
       | (have hs := letv_out hs)
       | (refine br_bool (fun h => ?_) (fun h => ?_) <;> first | have hs := cT h hs | have hs := cF h hs)
       | refine chk_elim hs fun hs => ?_
       | exact fin_some hs rfl
       | (intro b hb; first | have hs := nilq_elim hs b hb | have hs := nilqn_elim hs b hb)
       | (have hs := cT rfl hs)
       | (have hs := cF rfl hs)
       | exact (none_ne hs).elim
       | (refine draw_and (by kernel_rfl) ?_))
noncomputable def lf_R05_Tick : List AV → Option AV := liftF (.pair (.int .i64) (.pair (.int .i64) .unit)) (unpR (.pair (.int .i64) (.pair (.int .i64) .unit))) (fun x => R05_Tick x.1 x.2.1)
def tt_R05_Tick : List (Nat × Ty) := [(3, .int .i64), (4, .bool)]
def et_R05_Tick : List (Nat × Nat) := []
theorem tt_R05_Tick_ok : subT tt tt_R05_Tick = true := by kernel_rfl
theorem et_R05_Tick_ok : subE et et_R05_Tick = true := by kernel_rfl
noncomputable def E_R05_Tick (fns : List (Nat × (List AV → Option AV))) : Env := ⟨0, 0, et_R05_Tick, tt_R05_Tick, fns, [], [], [(0, [0, 1]), (1, [0, 1, 8]), (2, [4, 5]), (3, [0, 1, 10]), (4, [4, 5]), (5, [0, 1, 14]), (6, [4, 5]), (7, [4, 5])]⟩
set_option maxRecDepth 100000 in
set_option maxHeartbeats 4000000 in
theorem c_R05_Tick : PCon Go.Proofs.Try.prog 13 lf_R05_Tick := by
  obtain ⟨G17, hG17, cG17⟩ : ∃ G : ((.pair (.int .i64) .unit) : Ty).den → Option Bool, (∀ x, G x = R05_Fine x.1) ∧ PCon Go.Proofs.Try.prog 17 (liftF (.pair (.int .i64) .unit) (unpack .bool) G) := ⟨_, fun _ => rfl, c_R05_Fine⟩
  obtain ⟨fns, hfns, hf⟩ : ∃ fns, fns = [(17, liftF (.pair (.int .i64) .unit) (unpack .bool) G17)] ∧ FnsOk Go.Proofs.Try.prog fns := ⟨_, rfl, FnsOk.cons cG17 (FnsOk.nil _)⟩
  refine lift_con (E := E_R05_Tick fns) (c := bodyOf Try.f13) (nt := 18) (rs := [.tmp 4, .tmp 5]) (ts := [3, 3]) (EnvC.sub tt_ok et_ok hf (PrsOk.nil _) tt_R05_Tick_ok et_R05_Tick_ok) (PrOk.of mixed_ok) Go.Proofs.Try.func13 rfl (by decide) rfl rfl rfl (pureR_many (e := (.pair (.int .i64) (.pair (.int .i64) .unit))) rfl) ?_
  subst hfns
  intro x r hw hs
  repeat'
    (try (conv => whnf)
     first
       | (have hs := letv_out hs)
       | (refine br_bool (fun h => ?_) (fun h => ?_) <;> first | have hs := cT h hs | have hs := cF h hs)
       | (refine bind_elim hs fun v hb hs => ?_; first | refine callK_lift rfl ((hG17 _).trans hb) ?_)
       | refine chk_elim hs fun hs => ?_
       | exact fin_some hs rfl
       | (intro b hb; first | have hs := nilq_elim hs b hb | have hs := nilqn_elim hs b hb)
       | (have hs := cT rfl hs)
       | (have hs := cF rfl hs)
       | exact (none_ne hs).elim
       | (refine draw_and (by kernel_rfl) ?_))
noncomputable def lf_R05_After : List AV → Option AV := liftF (.pair (.int .i64) (.pair (.int .i64) .unit)) (unpR (.pair (.int .i64) (.pair (.int .i64) .unit))) (fun x => R05_After x.1 x.2.1)
def tt_R05_After : List (Nat × Ty) := [(3, .int .i64), (4, .bool)]
def et_R05_After : List (Nat × Nat) := []
theorem tt_R05_After_ok : subT tt tt_R05_After = true := by kernel_rfl
theorem et_R05_After_ok : subE et et_R05_After = true := by kernel_rfl
noncomputable def E_R05_After (fns : List (Nat × (List AV → Option AV))) : Env := ⟨0, 0, et_R05_After, tt_R05_After, fns, [], [], [(0, [0, 1]), (1, [0, 1, 8]), (2, [4, 5]), (3, [0, 1, 10]), (4, [4, 5]), (5, [4, 5])]⟩
set_option maxRecDepth 100000 in
set_option maxHeartbeats 4000000 in
theorem c_R05_After : PCon Go.Proofs.Try.prog 15 lf_R05_After := by
  obtain ⟨G13, hG13, cG13⟩ : ∃ G : ((.pair (.int .i64) (.pair (.int .i64) .unit)) : Ty).den → Option (Int × Int × Unit), (∀ x, G x = R05_Tick x.1 x.2.1) ∧ PCon Go.Proofs.Try.prog 13 (liftF (.pair (.int .i64) (.pair (.int .i64) .unit)) (unpR (.pair (.int .i64) (.pair (.int .i64) .unit))) G) := ⟨_, fun _ => rfl, c_R05_Tick⟩
  obtain ⟨G17, hG17, cG17⟩ : ∃ G : ((.pair (.int .i64) .unit) : Ty).den → Option Bool, (∀ x, G x = R05_Fine x.1) ∧ PCon Go.Proofs.Try.prog 17 (liftF (.pair (.int .i64) .unit) (unpack .bool) G) := ⟨_, fun _ => rfl, c_R05_Fine⟩
  obtain ⟨fns, hfns, hf⟩ : ∃ fns, fns = [(13, liftF (.pair (.int .i64) (.pair (.int .i64) .unit)) (unpR (.pair (.int .i64) (.pair (.int .i64) .unit))) G13), (17, liftF (.pair (.int .i64) .unit) (unpack .bool) G17)] ∧ FnsOk Go.Proofs.Try.prog fns := ⟨_, rfl, FnsOk.cons cG13 (FnsOk.cons cG17 (FnsOk.nil _))⟩
  refine lift_con (E := E_R05_After fns) (c := bodyOf Try.f15) (nt := 17) (rs := [.tmp 4, .tmp 5]) (ts := [3, 3]) (EnvC.sub tt_ok et_ok hf (PrsOk.nil _) tt_R05_After_ok et_R05_After_ok) (PrOk.of mixed_ok) Go.Proofs.Try.func15 rfl (by decide) rfl rfl rfl (pureR_many (e := (.pair (.int .i64) (.pair (.int .i64) .unit))) rfl) ?_
  subst hfns
  intro x r hw hs
  repeat'
    (try (conv => whnf)
     first
       | (have hs := letv_out hs)
       | (refine br_bool (fun h => ?_) (fun h => ?_) <;> first | have hs := cT h hs | have hs := cF h hs)
       | (refine bind_elim hs fun v hb hs => ?_; first | refine callK_lift rfl ((hG13 _).trans hb) ?_ | refine callK_lift rfl ((hG17 _).trans hb) ?_)
       | refine chk_elim hs fun hs => ?_
       | exact fin_some hs rfl
       | (intro b hb; first | have hs := nilq_elim hs b hb | have hs := nilqn_elim hs b hb)
       | (have hs := cT rfl hs)
       | (have hs := cF rfl hs)
       | exact (none_ne hs).elim
       | (refine draw_and (by kernel_rfl) ?_))
noncomputable def lf_R05_Due : List AV → Option AV := liftF (.pair (.int .i64) (.pair (.int .i64) .unit)) (unpack .bool) (fun x => R05_Due x.1 x.2.1)
def tt_R05_Due : List (Nat × Ty) := [(3, .int .i64), (4, .bool)]
def et_R05_Due : List (Nat × Nat) := []
theorem tt_R05_Due_ok : subT tt tt_R05_Due = true := by kernel_rfl
theorem et_R05_Due_ok : subE et et_R05_Due = true := by kernel_rfl
noncomputable def E_R05_Due (fns : List (Nat × (List AV → Option AV))) : Env := ⟨0, 0, et_R05_Due, tt_R05_Due, fns, [], [], [(0, [0, 1]), (1, [4])]⟩
set_option maxRecDepth 100000 in
set_option maxHeartbeats 4000000 in
theorem c_R05_Due : PCon Go.Proofs.Try.prog 19 lf_R05_Due := by
  obtain ⟨G17, hG17, cG17⟩ : ∃ G : ((.pair (.int .i64) .unit) : Ty).den → Option Bool, (∀ x, G x = R05_Fine x.1) ∧ PCon Go.Proofs.Try.prog 17 (liftF (.pair (.int .i64) .unit) (unpack .bool) G) := ⟨_, fun _ => rfl, c_R05_Fine⟩
  obtain ⟨fns, hfns, hf⟩ : ∃ fns, fns = [(17, liftF (.pair (.int .i64) .unit) (unpack .bool) G17)] ∧ FnsOk Go.Proofs.Try.prog fns := ⟨_, rfl, FnsOk.cons cG17 (FnsOk.nil _)⟩
  refine lift_con (E := E_R05_Due fns) (c := bodyOf Try.f19) (nt := 16) (rs := [.tmp 4]) (ts := [4]) (EnvC.sub tt_ok et_ok hf (PrsOk.nil _) tt_R05_Due_ok et_R05_Due_ok) (PrOk.of mixed_ok) Go.Proofs.Try.func19 rfl (by decide) rfl rfl rfl (pureR_one (e := .bool) rfl) ?_
  subst hfns
  intro x r hw hs
  repeat'
    (try (conv => whnf)
     first
       | (have hs := letv_out hs)
       | (refine br_bool (fun h => ?_) (fun h => ?_) <;> first | have hs := cT h hs | have hs := cF h hs)
       | (refine bind_elim hs fun v hb hs => ?_; first | refine callK_lift rfl ((hG17 _).trans hb) ?_)
       | refine chk_elim hs fun hs => ?_
       | exact fin_some hs rfl
       | (intro b hb; first | have hs := nilq_elim hs b hb | have hs := nilqn_elim hs b hb)
       | (have hs := cT rfl hs)
       | (have hs := cF rfl hs)
       | exact (none_ne hs).elim
       | (refine draw_and (by kernel_rfl) ?_))
noncomputable def lf_R05_Left : List AV → Option AV := liftF (.pair (.int .i64) (.pair (.int .i64) .unit)) (unpack (.int .i64)) (fun x => R05_Left x.1 x.2.1)
def tt_R05_Left : List (Nat × Ty) := [(3, .int .i64), (4, .bool)]
def et_R05_Left : List (Nat × Nat) := []
theorem tt_R05_Left_ok : subT tt tt_R05_Left = true := by kernel_rfl
theorem et_R05_Left_ok : subE et et_R05_Left = true := by kernel_rfl
noncomputable def E_R05_Left (fns : List (Nat × (List AV → Option AV))) : Env := ⟨0, 0, et_R05_Left, tt_R05_Left, fns, [], [], [(0, [0, 1]), (1, [0, 1, 17]), (2, [4]), (3, [4])]⟩
set_option maxRecDepth 100000 in
set_option maxHeartbeats 4000000 in
theorem c_R05_Left : PCon Go.Proofs.Try.prog 21 lf_R05_Left := by
  obtain ⟨G17, hG17, cG17⟩ : ∃ G : ((.pair (.int .i64) .unit) : Ty).den → Option Bool, (∀ x, G x = R05_Fine x.1) ∧ PCon Go.Proofs.Try.prog 17 (liftF (.pair (.int .i64) .unit) (unpack .bool) G) := ⟨_, fun _ => rfl, c_R05_Fine⟩
  obtain ⟨fns, hfns, hf⟩ : ∃ fns, fns = [(17, liftF (.pair (.int .i64) .unit) (unpack .bool) G17)] ∧ FnsOk Go.Proofs.Try.prog fns := ⟨_, rfl, FnsOk.cons cG17 (FnsOk.nil _)⟩
  refine lift_con (E := E_R05_Left fns) (c := bodyOf Try.f21) (nt := 21) (rs := [.tmp 4]) (ts := [3]) (EnvC.sub tt_ok et_ok hf (PrsOk.nil _) tt_R05_Left_ok et_R05_Left_ok) (PrOk.of mixed_ok) Go.Proofs.Try.func21 rfl (by decide) rfl rfl rfl (pureR_one (e := (.int .i64)) rfl) ?_
  subst hfns
  intro x r hw hs
  repeat'
    (try (conv => whnf)
     first
       | (have hs := letv_out hs)
       | (refine br_bool (fun h => ?_) (fun h => ?_) <;> first | have hs := cT h hs | have hs := cF h hs)
       | (refine bind_elim hs fun v hb hs => ?_; first | refine callK_lift rfl ((hG17 _).trans hb) ?_)
       | refine chk_elim hs fun hs => ?_
       | exact fin_some hs rfl
       | (intro b hb; first | have hs := nilq_elim hs b hb | have hs := nilqn_elim hs b hb)
       | (have hs := cT rfl hs)
       | (have hs := cF rfl hs)
       | exact (none_ne hs).elim
       | (refine draw_and (by kernel_rfl) ?_))
end Go.Proofs.YtdddmgbbjifkdaaV
