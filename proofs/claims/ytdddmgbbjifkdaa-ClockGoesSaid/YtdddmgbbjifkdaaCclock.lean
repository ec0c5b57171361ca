import Derived.Test.YtdddmgbbjifkdaaVcTab
import Derived.Test.YtdddmgbbjifkdaaDclock
namespace Go.Proofs.YtdddmgbbjifkdaaV
open Go.Proofs
set_option linter.unusedVariables false
noncomputable def lf_clock_held_int : List AV → Option AV := liftF (.pair (.int .i64) (.pair (.int .i64) (.pair (.int .i64) .unit))) (unpack (.int .i64)) (fun x => clock_held_int x.1 x.2.1 x.2.2.1)
def tt_clock_held_int : List (Nat × Ty) := [(3, .int .i64)]
def et_clock_held_int : List (Nat × Nat) := []
theorem tt_clock_held_int_ok : subT tt tt_clock_held_int = true := by kernel_rfl
theorem et_clock_held_int_ok : subE et et_clock_held_int = true := by kernel_rfl
noncomputable def E_clock_held_int (fns : List (Nat × (List AV → Option AV))) : Env := ⟨0, 0, et_clock_held_int, tt_clock_held_int, fns, [], [], [(0, [0, 1, 2]), (1, [6])]⟩
set_option maxRecDepth 100000 in
set_option maxHeartbeats 4000000 in
theorem c_clock_held_int : PCon Go.Proofs.Try.prog 45 lf_clock_held_int := by
  obtain ⟨fns, hfns, hf⟩ : ∃ fns, fns = [] ∧ FnsOk Go.Proofs.Try.prog fns := ⟨_, rfl, FnsOk.nil _⟩
  refine lift_con (E := E_clock_held_int fns) (c := bodyOf Try.f45) (nt := 12) (rs := [.tmp 6]) (ts := [3]) (EnvC.sub tt_ok et_ok hf (PrsOk.nil _) tt_clock_held_int_ok et_clock_held_int_ok) (PrOk.of mixed_ok) Go.Proofs.Try.func45 rfl (by decide) rfl rfl rfl (pureR_one (e := (.int .i64)) rfl) ?_
  subst hfns
  intro x r hw hs
  repeat'
    (try (conv => whnf)
     first
       | (have hs := letv_out hs)
       | (refine br_bool (fun h => ?_) (fun h => ?_) <;> first | have hs := cT h hs | have hs := cF h hs)
       | refine chk_elim hs fun hs => ?_
       | exact fin_some hs rfl
       | (intro b hb; first | have hs := nilq_elim hs b hb | have hs := nilqn_elim hs b hb)
       | (have hs := cT rfl hs)
       | (have hs := cF rfl hs)
       | exact (none_ne hs).elim
       | (refine draw_and (by kernel_rfl) ?_))
noncomputable def lf_clock_Fine : List AV → Option AV := liftF (.pair (.int .i64) .unit) (unpack .bool) (fun x => clock_Fine x.1)
def tt_clock_Fine : List (Nat × Ty) := [(3, .int .i64), (4, .bool)]
def et_clock_Fine : List (Nat × Nat) := []
theorem tt_clock_Fine_ok : subT tt tt_clock_Fine = true := by kernel_rfl
theorem et_clock_Fine_ok : subE et et_clock_Fine = true := by kernel_rfl
noncomputable def E_clock_Fine (fns : List (Nat × (List AV → Option AV))) : Env := ⟨0, 0, et_clock_Fine, tt_clock_Fine, fns, [], [], [(0, [0]), (1, [2])]⟩
set_option maxRecDepth 100000 in
set_option maxHeartbeats 4000000 in
theorem c_clock_Fine : PCon Go.Proofs.Try.prog 16 lf_clock_Fine := by
  obtain ⟨G45, hG45, cG45⟩ : ∃ G : ((.pair (.int .i64) (.pair (.int .i64) (.pair (.int .i64) .unit))) : Ty).den → Option Int, (∀ x, G x = clock_held_int x.1 x.2.1 x.2.2.1) ∧ PCon Go.Proofs.Try.prog 45 (liftF (.pair (.int .i64) (.pair (.int .i64) (.pair (.int .i64) .unit))) (unpack (.int .i64)) G) := ⟨_, fun _ => rfl, c_clock_held_int⟩
  obtain ⟨fns, hfns, hf⟩ : ∃ fns, fns = [(45, liftF (.pair (.int .i64) (.pair (.int .i64) (.pair (.int .i64) .unit))) (unpack (.int .i64)) G45)] ∧ FnsOk Go.Proofs.Try.prog fns := ⟨_, rfl, FnsOk.cons cG45 (FnsOk.nil _)⟩
  refine lift_con (E := E_clock_Fine fns) (c := bodyOf Try.f16) (nt := 7) (rs := [.tmp 2]) (ts := [4]) (EnvC.sub tt_ok et_ok hf (PrsOk.nil _) tt_clock_Fine_ok et_clock_Fine_ok) (PrOk.of mixed_ok) Go.Proofs.Try.func16 rfl (by decide) rfl rfl rfl (pureR_one (e := .bool) rfl) ?_
  subst hfns
  intro x r hw hs
  repeat'
    (try (conv => whnf)
     first
       | (have hs := letv_out hs)
       | (refine br_bool (fun h => ?_) (fun h => ?_) <;> first | have hs := cT h hs | have hs := cF h hs)
       | (refine bind_elim hs fun v hb hs => ?_; first | refine callK_lift rfl ((hG45 _).trans hb) ?_)
       | refine chk_elim hs fun hs => ?_
       | exact fin_some hs rfl
       | (intro b hb; first | have hs := nilq_elim hs b hb | have hs := nilqn_elim hs b hb)
       | (have hs := cT rfl hs)
       | (have hs := cF rfl hs)
       | exact (none_ne hs).elim
       | (refine draw_and (by kernel_rfl) ?_))
noncomputable def lf_clock_later : List AV → Option AV := liftF (.pair (.int .i64) (.pair (.int .i64) .unit)) (unpack (.int .i64)) (fun x => clock_later x.1 x.2.1)
def tt_clock_later : List (Nat × Ty) := [(3, .int .i64)]
def et_clock_later : List (Nat × Nat) := []
theorem tt_clock_later_ok : subT tt tt_clock_later = true := by kernel_rfl
theorem et_clock_later_ok : subE et et_clock_later = true := by kernel_rfl
noncomputable def E_clock_later (fns : List (Nat × (List AV → Option AV))) : Env := ⟨0, 0, et_clock_later, tt_clock_later, fns, [], [], [(0, [0, 1]), (1, [4])]⟩
set_option maxRecDepth 100000 in
set_option maxHeartbeats 4000000 in
theorem c_clock_later : PCon Go.Proofs.Try.prog 44 lf_clock_later := by
  obtain ⟨G45, hG45, cG45⟩ : ∃ G : ((.pair (.int .i64) (.pair (.int .i64) (.pair (.int .i64) .unit))) : Ty).den → Option Int, (∀ x, G x = clock_held_int x.1 x.2.1 x.2.2.1) ∧ PCon Go.Proofs.Try.prog 45 (liftF (.pair (.int .i64) (.pair (.int .i64) (.pair (.int .i64) .unit))) (unpack (.int .i64)) G) := ⟨_, fun _ => rfl, c_clock_held_int⟩
  obtain ⟨fns, hfns, hf⟩ : ∃ fns, fns = [(45, liftF (.pair (.int .i64) (.pair (.int .i64) (.pair (.int .i64) .unit))) (unpack (.int .i64)) G45)] ∧ FnsOk Go.Proofs.Try.prog fns := ⟨_, rfl, FnsOk.cons cG45 (FnsOk.nil _)⟩
  refine lift_con (E := E_clock_later fns) (c := bodyOf Try.f44) (nt := 11) (rs := [.tmp 4]) (ts := [3]) (EnvC.sub tt_ok et_ok hf (PrsOk.nil _) tt_clock_later_ok et_clock_later_ok) (PrOk.of mixed_ok) Go.Proofs.Try.func44 rfl (by decide) rfl rfl rfl (pureR_one (e := (.int .i64)) rfl) ?_
  subst hfns
  intro x r hw hs
  repeat'
    (try (conv => whnf)
     first
       | (have hs := letv_out hs)
       | (refine br_bool (fun h => ?_) (fun h => ?_) <;> first | have hs := cT h hs | have hs := cF h hs)
       | (refine bind_elim hs fun v hb hs => ?_; first | refine callK_lift rfl ((hG45 _).trans hb) ?_)
       | refine chk_elim hs fun hs => ?_
       | exact fin_some hs rfl
       | (intro b hb; first | have hs := nilq_elim hs b hb | have hs := nilqn_elim hs b hb)
       | (have hs := cT rfl hs)
       | (have hs := cF rfl hs)
       | exact (none_ne hs).elim
       | (refine draw_and (by kernel_rfl) ?_))
noncomputable def lf_clock_Tick : List AV → Option AV := liftF (.pair (.int .i64) (.pair (.int .i64) .unit)) (unpR (.pair (.int .i64) (.pair (.int .i64) .unit))) (fun x => clock_Tick x.1 x.2.1)
def tt_clock_Tick : List (Nat × Ty) := [(3, .int .i64), (4, .bool), (22, .int .i64)]
def et_clock_Tick : List (Nat × Nat) := []
theorem tt_clock_Tick_ok : subT tt tt_clock_Tick = true := by kernel_rfl
theorem et_clock_Tick_ok : subE et et_clock_Tick = true := by kernel_rfl
noncomputable def E_clock_Tick (fns : List (Nat × (List AV → Option AV))) : Env := ⟨0, 0, et_clock_Tick, tt_clock_Tick, fns, [], [], [(0, [0, 1]), (1, [0, 1, 6]), (2, [4, 5]), (3, [0, 1, 10]), (4, [4, 5]), (5, [4, 5])]⟩
set_option maxRecDepth 100000 in
set_option maxHeartbeats 4000000 in
theorem c_clock_Tick : PCon Go.Proofs.Try.prog 12 lf_clock_Tick := by
  obtain ⟨G16, hG16, cG16⟩ : ∃ G : ((.pair (.int .i64) .unit) : Ty).den → Option Bool, (∀ x, G x = clock_Fine x.1) ∧ PCon Go.Proofs.Try.prog 16 (liftF (.pair (.int .i64) .unit) (unpack .bool) G) := ⟨_, fun _ => rfl, c_clock_Fine⟩
  obtain ⟨G44, hG44, cG44⟩ : ∃ G : ((.pair (.int .i64) (.pair (.int .i64) .unit)) : Ty).den → Option Int, (∀ x, G x = clock_later x.1 x.2.1) ∧ PCon Go.Proofs.Try.prog 44 (liftF (.pair (.int .i64) (.pair (.int .i64) .unit)) (unpack (.int .i64)) G) := ⟨_, fun _ => rfl, c_clock_later⟩
  obtain ⟨fns, hfns, hf⟩ : ∃ fns, fns = [(16, liftF (.pair (.int .i64) .unit) (unpack .bool) G16), (44, liftF (.pair (.int .i64) (.pair (.int .i64) .unit)) (unpack (.int .i64)) G44)] ∧ FnsOk Go.Proofs.Try.prog fns := ⟨_, rfl, FnsOk.cons cG16 (FnsOk.cons cG44 (FnsOk.nil _))⟩
  refine lift_con (E := E_clock_Tick fns) (c := bodyOf Try.f12) (nt := 16) (rs := [.tmp 4, .tmp 5]) (ts := [3, 22]) (EnvC.sub tt_ok et_ok hf (PrsOk.nil _) tt_clock_Tick_ok et_clock_Tick_ok) (PrOk.of mixed_ok) Go.Proofs.Try.func12 rfl (by decide) rfl rfl rfl (pureR_many (e := (.pair (.int .i64) (.pair (.int .i64) .unit))) rfl) ?_
  subst hfns
  intro x r hw hs
  repeat'
    (try (conv => whnf)
     first
       | (have hs := letv_out hs)
       | (refine br_bool (fun h => ?_) (fun h => ?_) <;> first | have hs := cT h hs | have hs := cF h hs)
       | (refine bind_elim hs fun v hb hs => ?_; first | refine callK_lift rfl ((hG16 _).trans hb) ?_ | refine callK_lift rfl ((hG44 _).trans hb) ?_)
       | refine chk_elim hs fun hs => ?_
       | exact fin_some hs rfl
       | (intro b hb; first | have hs := nilq_elim hs b hb | have hs := nilqn_elim hs b hb)
       | (have hs := cT rfl hs)
       | (have hs := cF rfl hs)
       | exact (none_ne hs).elim
       | (refine draw_and (by kernel_rfl) ?_))
noncomputable def lf_clock_After : List AV → Option AV := liftF (.pair (.int .i64) (.pair (.int .i64) .unit)) (unpR (.pair (.int .i64) (.pair (.int .i64) .unit))) (fun x => clock_After x.1 x.2.1)
def tt_clock_After : List (Nat × Ty) := [(3, .int .i64), (4, .bool), (22, .int .i64)]
def et_clock_After : List (Nat × Nat) := []
theorem tt_clock_After_ok : subT tt tt_clock_After = true := by kernel_rfl
theorem et_clock_After_ok : subE et et_clock_After = true := by kernel_rfl
noncomputable def E_clock_After (fns : List (Nat × (List AV → Option AV))) : Env := ⟨0, 0, et_clock_After, tt_clock_After, fns, [], [], [(0, [0, 1]), (1, [0, 1, 8]), (2, [4, 5]), (3, [4, 5])]⟩
set_option maxRecDepth 100000 in
set_option maxHeartbeats 4000000 in
theorem c_clock_After : PCon Go.Proofs.Try.prog 14 lf_clock_After := by
  obtain ⟨G16, hG16, cG16⟩ : ∃ G : ((.pair (.int .i64) .unit) : Ty).den → Option Bool, (∀ x, G x = clock_Fine x.1) ∧ PCon Go.Proofs.Try.prog 16 (liftF (.pair (.int .i64) .unit) (unpack .bool) G) := ⟨_, fun _ => rfl, c_clock_Fine⟩
  obtain ⟨G44, hG44, cG44⟩ : ∃ G : ((.pair (.int .i64) (.pair (.int .i64) .unit)) : Ty).den → Option Int, (∀ x, G x = clock_later x.1 x.2.1) ∧ PCon Go.Proofs.Try.prog 44 (liftF (.pair (.int .i64) (.pair (.int .i64) .unit)) (unpack (.int .i64)) G) := ⟨_, fun _ => rfl, c_clock_later⟩
  obtain ⟨fns, hfns, hf⟩ : ∃ fns, fns = [(16, liftF (.pair (.int .i64) .unit) (unpack .bool) G16), (44, liftF (.pair (.int .i64) (.pair (.int .i64) .unit)) (unpack (.int .i64)) G44)] ∧ FnsOk Go.Proofs.Try.prog fns := ⟨_, rfl, FnsOk.cons cG16 (FnsOk.cons cG44 (FnsOk.nil _))⟩
  refine lift_con (E := E_clock_After fns) (c := bodyOf Try.f14) (nt := 12) (rs := [.tmp 4, .tmp 5]) (ts := [3, 22]) (EnvC.sub tt_ok et_ok hf (PrsOk.nil _) tt_clock_After_ok et_clock_After_ok) (PrOk.of mixed_ok) Go.Proofs.Try.func14 rfl (by decide) rfl rfl rfl (pureR_many (e := (.pair (.int .i64) (.pair (.int .i64) .unit))) rfl) ?_
  subst hfns
  intro x r hw hs
  repeat'
    (try (conv => whnf)
     first
       | (have hs := letv_out hs)
       | (refine br_bool (fun h => ?_) (fun h => ?_) <;> first | have hs := cT h hs | have hs := cF h hs)
       | (refine bind_elim hs fun v hb hs => ?_; first | refine callK_lift rfl ((hG16 _).trans hb) ?_ | refine callK_lift rfl ((hG44 _).trans hb) ?_)
       | refine chk_elim hs fun hs => ?_
       | exact fin_some hs rfl
       | (intro b hb; first | have hs := nilq_elim hs b hb | have hs := nilqn_elim hs b hb)
       | (have hs := cT rfl hs)
       | (have hs := cF rfl hs)
       | exact (none_ne hs).elim
       | (refine draw_and (by kernel_rfl) ?_))
noncomputable def lf_clock_Due : List AV → Option AV := liftF (.pair (.int .i64) (.pair (.int .i64) .unit)) (unpack .bool) (fun x => clock_Due x.1 x.2.1)
def tt_clock_Due : List (Nat × Ty) := [(3, .int .i64), (4, .bool)]
def et_clock_Due : List (Nat × Nat) := []
theorem tt_clock_Due_ok : subT tt tt_clock_Due = true := by kernel_rfl
theorem et_clock_Due_ok : subE et et_clock_Due = true := by kernel_rfl
noncomputable def E_clock_Due (fns : List (Nat × (List AV → Option AV))) : Env := ⟨0, 0, et_clock_Due, tt_clock_Due, fns, [], [], [(0, [0, 1]), (1, [4])]⟩
set_option maxRecDepth 100000 in
set_option maxHeartbeats 4000000 in
theorem c_clock_Due : PCon Go.Proofs.Try.prog 18 lf_clock_Due := by
  obtain ⟨G16, hG16, cG16⟩ : ∃ G : ((.pair (.int .i64) .unit) : Ty).den → Option Bool, (∀ x, G x = clock_Fine x.1) ∧ PCon Go.Proofs.Try.prog 16 (liftF (.pair (.int .i64) .unit) (unpack .bool) G) := ⟨_, fun _ => rfl, c_clock_Fine⟩
  obtain ⟨fns, hfns, hf⟩ : ∃ fns, fns = [(16, liftF (.pair (.int .i64) .unit) (unpack .bool) G16)] ∧ FnsOk Go.Proofs.Try.prog fns := ⟨_, rfl, FnsOk.cons cG16 (FnsOk.nil _)⟩
  refine lift_con (E := E_clock_Due fns) (c := bodyOf Try.f18) (nt := 16) (rs := [.tmp 4]) (ts := [4]) (EnvC.sub tt_ok et_ok hf (PrsOk.nil _) tt_clock_Due_ok et_clock_Due_ok) (PrOk.of mixed_ok) Go.Proofs.Try.func18 rfl (by decide) rfl rfl rfl (pureR_one (e := .bool) rfl) ?_
  subst hfns
  intro x r hw hs
  repeat'
    (try (conv => whnf)
     first
       | (have hs := letv_out hs)
       | (refine br_bool (fun h => ?_) (fun h => ?_) <;> first | have hs := cT h hs | have hs := cF h hs)
       | (refine bind_elim hs fun v hb hs => ?_; first | refine callK_lift rfl ((hG16 _).trans hb) ?_)
       | refine chk_elim hs fun hs => ?_
       | exact fin_some hs rfl
       | (intro b hb; first | have hs := nilq_elim hs b hb | have hs := nilqn_elim hs b hb)
       | (have hs := cT rfl hs)
       | (have hs := cF rfl hs)
       | exact (none_ne hs).elim
       | (refine draw_and (by kernel_rfl) ?_))
noncomputable def lf_clock_Left : List AV → Option AV := liftF (.pair (.int .i64) (.pair (.int .i64) .unit)) (unpack (.int .i64)) (fun x => clock_Left x.1 x.2.1)
def tt_clock_Left : List (Nat × Ty) := [(3, .int .i64), (4, .bool)]
def et_clock_Left : List (Nat × Nat) := []
theorem tt_clock_Left_ok : subT tt tt_clock_Left = true := by kernel_rfl
theorem et_clock_Left_ok : subE et et_clock_Left = true := by kernel_rfl
noncomputable def E_clock_Left (fns : List (Nat × (List AV → Option AV))) : Env := ⟨0, 0, et_clock_Left, tt_clock_Left, fns, [], [], [(0, [0, 1]), (1, [0, 1, 12]), (2, [4]), (3, [4])]⟩
set_option maxRecDepth 100000 in
set_option maxHeartbeats 4000000 in
theorem c_clock_Left : PCon Go.Proofs.Try.prog 20 lf_clock_Left := by
  obtain ⟨G16, hG16, cG16⟩ : ∃ G : ((.pair (.int .i64) .unit) : Ty).den → Option Bool, (∀ x, G x = clock_Fine x.1) ∧ PCon Go.Proofs.Try.prog 16 (liftF (.pair (.int .i64) .unit) (unpack .bool) G) := ⟨_, fun _ => rfl, c_clock_Fine⟩
  obtain ⟨G45, hG45, cG45⟩ : ∃ G : ((.pair (.int .i64) (.pair (.int .i64) (.pair (.int .i64) .unit))) : Ty).den → Option Int, (∀ x, G x = clock_held_int x.1 x.2.1 x.2.2.1) ∧ PCon Go.Proofs.Try.prog 45 (liftF (.pair (.int .i64) (.pair (.int .i64) (.pair (.int .i64) .unit))) (unpack (.int .i64)) G) := ⟨_, fun _ => rfl, c_clock_held_int⟩
  obtain ⟨fns, hfns, hf⟩ : ∃ fns, fns = [(16, liftF (.pair (.int .i64) .unit) (unpack .bool) G16), (45, liftF (.pair (.int .i64) (.pair (.int .i64) (.pair (.int .i64) .unit))) (unpack (.int .i64)) G45)] ∧ FnsOk Go.Proofs.Try.prog fns := ⟨_, rfl, FnsOk.cons cG16 (FnsOk.cons cG45 (FnsOk.nil _))⟩
  refine lift_con (E := E_clock_Left fns) (c := bodyOf Try.f20) (nt := 18) (rs := [.tmp 4]) (ts := [3]) (EnvC.sub tt_ok et_ok hf (PrsOk.nil _) tt_clock_Left_ok et_clock_Left_ok) (PrOk.of mixed_ok) Go.Proofs.Try.func20 rfl (by decide) rfl rfl rfl (pureR_one (e := (.int .i64)) rfl) ?_
  subst hfns
  intro x r hw hs
  repeat'
    (try (conv => whnf)
     first
       | (have hs := letv_out hs)
       | (refine br_bool (fun h => ?_) (fun h => ?_) <;> first | have hs := cT h hs | have hs := cF h hs)
       | (refine bind_elim hs fun v hb hs => ?_; first | refine callK_lift rfl ((hG16 _).trans hb) ?_ | refine callK_lift rfl ((hG45 _).trans hb) ?_)
       | refine chk_elim hs fun hs => ?_
       | exact fin_some hs rfl
       | (intro b hb; first | have hs := nilq_elim hs b hb | have hs := nilqn_elim hs b hb)
       | (have hs := cT rfl hs)
       | (have hs := cF rfl hs)
       | exact (none_ne hs).elim
       | (refine draw_and (by kernel_rfl) ?_))
end Go.Proofs.YtdddmgbbjifkdaaV
