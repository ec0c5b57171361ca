import Derived.Test.YtiicmhholjpcbaaVcTab
import Derived.Test.YtiicmhholjpcbaaDR01
namespace Go.Proofs.YtiicmhholjpcbaaV
open Go.Proofs
set_option linter.unusedVariables false
noncomputable def lf_R01_Fine : List AV → Option AV := liftF (.pair (.int .i64) .unit) (unpack .bool) (fun x => R01_Fine x.1)
def tt_R01_Fine : List (Nat × Ty) := [(3, .int .i64), (4, .bool)]
def et_R01_Fine : List (Nat × Nat) := []
theorem tt_R01_Fine_ok : subT tt tt_R01_Fine = true := by kernel_rfl
theorem et_R01_Fine_ok : subE et et_R01_Fine = true := by kernel_rfl
noncomputable def E_R01_Fine (fns : List (Nat × (List AV → Option AV))) : Env := ⟨0, 0, et_R01_Fine, tt_R01_Fine, fns, [], [], [(0, [0]), (1, [2]), (4000000, []), (4000001, [])], none, []⟩
set_option maxRecDepth 100000 in
set_option maxHeartbeats 40000000 in
theorem c_R01_Fine : PCon Go.Proofs.Try.prog 120 lf_R01_Fine := by
  obtain ⟨fns, hfns, hf⟩ : ∃ fns, fns = [] ∧ FnsOk Go.Proofs.Try.prog fns := ⟨_, rfl, FnsOk.nil _⟩
  refine lift_con (E := E_R01_Fine fns) (c := bodyOf Try.f120) (nt := 9) (rs := [.tmp 2]) (ts := [4]) (EnvC.sub tt_ok et_ok hf (PrsOk.nil _) (ItsOk.nil _) tt_R01_Fine_ok et_R01_Fine_ok) (PrOk.of mixed_ok) Go.Proofs.Try.func120 rfl (by decide) rfl rfl rfl (pureR_one (e := .bool) rfl) ?_
  subst hfns
  intro x r hw hs
  repeat'
    (try (conv => whnf)
     first
       | (have hs := letv_out hs)
       | (refine draw_and (by kernel_rfl) ?_)
       | (refine both_mk ?_ ?_)
       | (refine br_bool (fun h => ?_) (fun h => ?_) <;> first | have hs := cT h hs | have hs := cF h hs)
       | refine chk_elim hs fun hs => ?_
       | exact fin_some hs rfl
       | (intro b hb; first | have hs := nilq_elim hs b hb | have hs := nilqn_elim hs b hb)
       | (have hs := cT rfl hs)
       | (have hs := cF rfl hs)
       | exact (none_ne hs).elim)
noncomputable def lf_R01_Slot : List AV → Option AV := liftF (.pair (.int .i64) .unit) (unpack (.int .i64)) (fun x => R01_Slot x.1)
def tt_R01_Slot : List (Nat × Ty) := [(3, .int .i64), (4, .bool)]
def et_R01_Slot : List (Nat × Nat) := []
theorem tt_R01_Slot_ok : subT tt tt_R01_Slot = true := by kernel_rfl
theorem et_R01_Slot_ok : subE et et_R01_Slot = true := by kernel_rfl
noncomputable def E_R01_Slot (fns : List (Nat × (List AV → Option AV))) : Env := ⟨0, 0, et_R01_Slot, tt_R01_Slot, fns, [], [], [(0, [0]), (1, [0, 5]), (2, [2]), (3, [2]), (4000000, []), (4000001, []), (4000002, []), (4000003, [])], none, []⟩
set_option maxRecDepth 100000 in
set_option maxHeartbeats 40000000 in
theorem c_R01_Slot : PCon Go.Proofs.Try.prog 110 lf_R01_Slot := by
  obtain ⟨G120, hG120, cG120⟩ : ∃ G : ((.pair (.int .i64) .unit) : Ty).den → Option Bool, (∀ x, G x = R01_Fine x.1) ∧ PCon Go.Proofs.Try.prog 120 (liftF (.pair (.int .i64) .unit) (unpack .bool) G) := ⟨_, fun _ => rfl, c_R01_Fine⟩
  obtain ⟨fns, hfns, hf⟩ : ∃ fns, fns = [(120, liftF (.pair (.int .i64) .unit) (unpack .bool) G120)] ∧ FnsOk Go.Proofs.Try.prog fns := ⟨_, rfl, FnsOk.cons cG120 (FnsOk.nil _)⟩
  refine lift_con (E := E_R01_Slot fns) (c := bodyOf Try.f110) (nt := 11) (rs := [.tmp 2]) (ts := [3]) (EnvC.sub tt_ok et_ok hf (PrsOk.nil _) (ItsOk.nil _) tt_R01_Slot_ok et_R01_Slot_ok) (PrOk.of mixed_ok) Go.Proofs.Try.func110 rfl (by decide) rfl rfl rfl (pureR_one (e := (.int .i64)) rfl) ?_
  subst hfns
  intro x r hw hs
  repeat'
    (try (conv => whnf)
     first
       | (have hs := letv_out hs)
       | (refine draw_and (by kernel_rfl) ?_)
       | (refine both_mk ?_ ?_)
       | (refine br_bool (fun h => ?_) (fun h => ?_) <;> first | have hs := cT h hs | have hs := cF h hs)
       | (refine bind_elim hs fun v hb hs => ?_; first | refine callK_liftG hG120 rfl hb ?_)
       | refine chk_elim hs fun hs => ?_
       | exact fin_some hs rfl
       | (intro b hb; first | have hs := nilq_elim hs b hb | have hs := nilqn_elim hs b hb)
       | (have hs := cT rfl hs)
       | (have hs := cF rfl hs)
       | exact (none_ne hs).elim)
noncomputable def lf_R01_Gen : List AV → Option AV := liftF (.pair (.int .i64) .unit) (unpack (.int .i64)) (fun x => R01_Gen x.1)
def tt_R01_Gen : List (Nat × Ty) := [(3, .int .i64), (4, .bool)]
def et_R01_Gen : List (Nat × Nat) := []
theorem tt_R01_Gen_ok : subT tt tt_R01_Gen = true := by kernel_rfl
theorem et_R01_Gen_ok : subE et et_R01_Gen = true := by kernel_rfl
noncomputable def E_R01_Gen (fns : List (Nat × (List AV → Option AV))) : Env := ⟨0, 0, et_R01_Gen, tt_R01_Gen, fns, [], [], [(0, [0]), (1, [0, 5]), (2, [2]), (3, [2]), (4000000, []), (4000001, []), (4000002, []), (4000003, [])], none, []⟩
set_option maxRecDepth 100000 in
set_option maxHeartbeats 40000000 in
theorem c_R01_Gen : PCon Go.Proofs.Try.prog 112 lf_R01_Gen := by
  obtain ⟨G120, hG120, cG120⟩ : ∃ G : ((.pair (.int .i64) .unit) : Ty).den → Option Bool, (∀ x, G x = R01_Fine x.1) ∧ PCon Go.Proofs.Try.prog 120 (liftF (.pair (.int .i64) .unit) (unpack .bool) G) := ⟨_, fun _ => rfl, c_R01_Fine⟩
  obtain ⟨fns, hfns, hf⟩ : ∃ fns, fns = [(120, liftF (.pair (.int .i64) .unit) (unpack .bool) G120)] ∧ FnsOk Go.Proofs.Try.prog fns := ⟨_, rfl, FnsOk.cons cG120 (FnsOk.nil _)⟩
  refine lift_con (E := E_R01_Gen fns) (c := bodyOf Try.f112) (nt := 8) (rs := [.tmp 2]) (ts := [3]) (EnvC.sub tt_ok et_ok hf (PrsOk.nil _) (ItsOk.nil _) tt_R01_Gen_ok et_R01_Gen_ok) (PrOk.of mixed_ok) Go.Proofs.Try.func112 rfl (by decide) rfl rfl rfl (pureR_one (e := (.int .i64)) rfl) ?_
  subst hfns
  intro x r hw hs
  repeat'
    (try (conv => whnf)
     first
       | (have hs := letv_out hs)
       | (refine draw_and (by kernel_rfl) ?_)
       | (refine both_mk ?_ ?_)
       | (refine br_bool (fun h => ?_) (fun h => ?_) <;> first | have hs := cT h hs | have hs := cF h hs)
       | (refine bind_elim hs fun v hb hs => ?_; first | refine callK_liftG hG120 rfl hb ?_)
       | refine chk_elim hs fun hs => ?_
       | exact fin_some hs rfl
       | (intro b hb; first | have hs := nilq_elim hs b hb | have hs := nilqn_elim hs b hb)
       | (have hs := cT rfl hs)
       | (have hs := cF rfl hs)
       | exact (none_ne hs).elim)
noncomputable def lf_R01_Make : List AV → Option AV := liftF (.pair (.int .i64) (.pair (.int .i64) .unit)) (unpR (.pair (.int .i64) (.pair (.int .i64) .unit))) (fun x => R01_Make x.1 x.2.1)
def tt_R01_Make : List (Nat × Ty) := [(3, .int .i64)]
def et_R01_Make : List (Nat × Nat) := []
theorem tt_R01_Make_ok : subT tt tt_R01_Make = true := by kernel_rfl
theorem et_R01_Make_ok : subE et et_R01_Make = true := by kernel_rfl
noncomputable def E_R01_Make (fns : List (Nat × (List AV → Option AV))) : Env := ⟨0, 0, et_R01_Make, tt_R01_Make, fns, [], [], [(0, [0, 1]), (1, [0, 1, 19]), (2, [4, 5]), (3, [4, 5]), (4000000, []), (4000001, []), (4000002, []), (4000003, [])], none, []⟩
set_option maxRecDepth 100000 in
set_option maxHeartbeats 40000000 in
theorem c_R01_Make : PCon Go.Proofs.Try.prog 80 lf_R01_Make := by
  obtain ⟨fns, hfns, hf⟩ : ∃ fns, fns = [] ∧ FnsOk Go.Proofs.Try.prog fns := ⟨_, rfl, FnsOk.nil _⟩
  refine lift_con (E := E_R01_Make fns) (c := bodyOf Try.f80) (nt := 24) (rs := [.tmp 4, .tmp 5]) (ts := [3, 3]) (EnvC.sub tt_ok et_ok hf (PrsOk.nil _) (ItsOk.nil _) tt_R01_Make_ok et_R01_Make_ok) (PrOk.of mixed_ok) Go.Proofs.Try.func80 rfl (by decide) rfl rfl rfl (pureR_many (e := (.pair (.int .i64) (.pair (.int .i64) .unit))) rfl) ?_
  subst hfns
  intro x r hw hs
  repeat'
    (try (conv => whnf)
     first
       | (have hs := letv_out hs)
       | (refine draw_and (by kernel_rfl) ?_)
       | (refine both_mk ?_ ?_)
       | (refine br_bool (fun h => ?_) (fun h => ?_) <;> first | have hs := cT h hs | have hs := cF h hs)
       | refine chk_elim hs fun hs => ?_
       | exact fin_some hs rfl
       | (intro b hb; first | have hs := nilq_elim hs b hb | have hs := nilqn_elim hs b hb)
       | (have hs := cT rfl hs)
       | (have hs := cF rfl hs)
       | exact (none_ne hs).elim)
end Go.Proofs.YtiicmhholjpcbaaV
