import Derived.Test.YtiicmhholjpcbaaVcTab
import Derived.Test.YtiicmhholjpcbaaDhandle
namespace Go.Proofs.YtiicmhholjpcbaaV
open Go.Proofs
set_option linter.unusedVariables false
noncomputable def lf_handle_within : List AV → Option AV := liftF (.pair (.int .i64) (.pair (.int .i64) (.pair (.int .i64) .unit))) (unpack .bool) (fun x => handle_within x.1 x.2.1 x.2.2.1)
def tt_handle_within : List (Nat × Ty) := [(3, .int .i64), (4, .bool)]
def et_handle_within : List (Nat × Nat) := []
theorem tt_handle_within_ok : subT tt tt_handle_within = true := by kernel_rfl
theorem et_handle_within_ok : subE et et_handle_within = true := by kernel_rfl
def kp_handle_within : List (Nat × List Nat) := [(0, [0, 1, 2]), (1, [6]), (4000000, []), (4000001, [])]
def od_handle_within : List (Nat × Ord) := []
noncomputable def E_handle_within (fns : List (Nat × (List AV → Option AV))) : Env := ⟨0, 0, et_handle_within, tt_handle_within, fns, [], od_handle_within, kp_handle_within, none, []⟩
set_option maxRecDepth 100000 in
set_option maxHeartbeats 40000000 in
theorem c_handle_within : PCon Go.Proofs.Try.prog 109 lf_handle_within := by
  obtain ⟨fns, hfns, hf⟩ : ∃ fns, fns = [] ∧ FnsOk Go.Proofs.Try.prog fns := ⟨_, rfl, FnsOk.nil _⟩
  refine lift_con (E := E_handle_within fns) (c := bodyOf Try.f109) (nt := 15) (rs := [.tmp 6]) (ts := [4]) (EnvC.sub tt_ok et_ok hf (PrsOk.nil _) (ItsOk.nil _) tt_handle_within_ok et_handle_within_ok) (PrOk.of mixed_ok) Go.Proofs.Try.func109 rfl (by decide) rfl rfl rfl (pureR_one (e := .bool) rfl) ?_
  subst hfns
  intro x r hw hs
  repeat'
    (try (conv => whnf)
     first
       | (with_reducible have hs := letv_out hs)
       | (refine draw_and (by kernel_rfl) ?_)
       | (refine both_mk ?_ ?_)
       | (refine br_bool (fun h => ?_) (fun h => ?_) <;> first | have hs := cT h hs | have hs := cF h hs)
       | refine chk_elim hs fun hs => ?_
       | (have hs := letv_out hs)
       | exact fin_some hs rfl
       | (intro b hb; first | have hs := nilq_elim hs b hb | have hs := nilqn_elim hs b hb)
       | (have hs := cT rfl hs)
       | (have hs := cF rfl hs)
       | exact (none_ne hs).elim)
noncomputable def lf_handle_Make : List AV → Option AV := liftF (.pair (.int .i64) (.pair (.int .i64) .unit)) (unpR (.pair (.int .i64) (.pair (.int .i64) .unit))) (fun x => handle_Make x.1 x.2.1)
def tt_handle_Make : List (Nat × Ty) := [(3, .int .i64), (4, .bool), (24, .int .i64)]
def et_handle_Make : List (Nat × Nat) := []
theorem tt_handle_Make_ok : subT tt tt_handle_Make = true := by kernel_rfl
theorem et_handle_Make_ok : subE et et_handle_Make = true := by kernel_rfl
def kp_handle_Make : List (Nat × List Nat) := [(0, [0, 1]), (1, [0, 1, 13]), (2, [4, 5]), (3, [4, 5]), (4000000, []), (4000001, []), (4000002, []), (4000003, [])]
def od_handle_Make : List (Nat × Ord) := []
noncomputable def E_handle_Make (fns : List (Nat × (List AV → Option AV))) : Env := ⟨0, 0, et_handle_Make, tt_handle_Make, fns, [], od_handle_Make, kp_handle_Make, none, []⟩
set_option maxRecDepth 100000 in
set_option maxHeartbeats 40000000 in
theorem c_handle_Make : PCon Go.Proofs.Try.prog 77 lf_handle_Make := by
  obtain ⟨G109, hG109, cG109⟩ : ∃ G : ((.pair (.int .i64) (.pair (.int .i64) (.pair (.int .i64) .unit))) : Ty).den → Option Bool, (∀ x, G x = handle_within x.1 x.2.1 x.2.2.1) ∧ PCon Go.Proofs.Try.prog 109 (liftF (.pair (.int .i64) (.pair (.int .i64) (.pair (.int .i64) .unit))) (unpack .bool) G) := ⟨_, fun _ => rfl, c_handle_within⟩
  obtain ⟨fns, hfns, hf⟩ : ∃ fns, fns = [(109, liftF (.pair (.int .i64) (.pair (.int .i64) (.pair (.int .i64) .unit))) (unpack .bool) G109)] ∧ FnsOk Go.Proofs.Try.prog fns := ⟨_, rfl, FnsOk.cons cG109 (FnsOk.nil _)⟩
  refine lift_con (E := E_handle_Make fns) (c := bodyOf Try.f77) (nt := 18) (rs := [.tmp 4, .tmp 5]) (ts := [3, 24]) (EnvC.sub tt_ok et_ok hf (PrsOk.nil _) (ItsOk.nil _) tt_handle_Make_ok et_handle_Make_ok) (PrOk.of mixed_ok) Go.Proofs.Try.func77 rfl (by decide) rfl rfl rfl (pureR_many (e := (.pair (.int .i64) (.pair (.int .i64) .unit))) rfl) ?_
  subst hfns
  intro x r hw hs
  repeat'
    (try (conv => whnf)
     first
       | (with_reducible have hs := letv_out hs)
       | (refine draw_and (by kernel_rfl) ?_)
       | (refine both_mk ?_ ?_)
       | (refine br_bool (fun h => ?_) (fun h => ?_) <;> first | have hs := cT h hs | have hs := cF h hs)
       | (refine bind_elim hs fun v hb hs => ?_; first | refine callK_liftG hG109 rfl hb ?_)
       | refine chk_elim hs fun hs => ?_
       | (have hs := letv_out hs)
       | exact fin_some hs rfl
       | (intro b hb; first | have hs := nilq_elim hs b hb | have hs := nilqn_elim hs b hb)
       | (have hs := cT rfl hs)
       | (have hs := cF rfl hs)
       | exact (none_ne hs).elim)
noncomputable def lf_handle_Fine : List AV → Option AV := liftF (.pair (.int .i64) .unit) (unpack .bool) (fun x => handle_Fine x.1)
def tt_handle_Fine : List (Nat × Ty) := [(3, .int .i64), (4, .bool)]
def et_handle_Fine : List (Nat × Nat) := []
theorem tt_handle_Fine_ok : subT tt tt_handle_Fine = true := by kernel_rfl
theorem et_handle_Fine_ok : subE et et_handle_Fine = true := by kernel_rfl
def kp_handle_Fine : List (Nat × List Nat) := [(0, [0]), (1, [2]), (4000000, []), (4000001, [])]
def od_handle_Fine : List (Nat × Ord) := []
noncomputable def E_handle_Fine (fns : List (Nat × (List AV → Option AV))) : Env := ⟨0, 0, et_handle_Fine, tt_handle_Fine, fns, [], od_handle_Fine, kp_handle_Fine, none, []⟩
set_option maxRecDepth 100000 in
set_option maxHeartbeats 40000000 in
theorem c_handle_Fine : PCon Go.Proofs.Try.prog 119 lf_handle_Fine := by
  obtain ⟨G109, hG109, cG109⟩ : ∃ G : ((.pair (.int .i64) (.pair (.int .i64) (.pair (.int .i64) .unit))) : Ty).den → Option Bool, (∀ x, G x = handle_within x.1 x.2.1 x.2.2.1) ∧ PCon Go.Proofs.Try.prog 109 (liftF (.pair (.int .i64) (.pair (.int .i64) (.pair (.int .i64) .unit))) (unpack .bool) G) := ⟨_, fun _ => rfl, c_handle_within⟩
  obtain ⟨fns, hfns, hf⟩ : ∃ fns, fns = [(109, liftF (.pair (.int .i64) (.pair (.int .i64) (.pair (.int .i64) .unit))) (unpack .bool) G109)] ∧ FnsOk Go.Proofs.Try.prog fns := ⟨_, rfl, FnsOk.cons cG109 (FnsOk.nil _)⟩
  refine lift_con (E := E_handle_Fine fns) (c := bodyOf Try.f119) (nt := 5) (rs := [.tmp 2]) (ts := [4]) (EnvC.sub tt_ok et_ok hf (PrsOk.nil _) (ItsOk.nil _) tt_handle_Fine_ok et_handle_Fine_ok) (PrOk.of mixed_ok) Go.Proofs.Try.func119 rfl (by decide) rfl rfl rfl (pureR_one (e := .bool) rfl) ?_
  subst hfns
  intro x r hw hs
  repeat'
    (try (conv => whnf)
     first
       | (with_reducible have hs := letv_out hs)
       | (refine draw_and (by kernel_rfl) ?_)
       | (refine both_mk ?_ ?_)
       | (refine br_bool (fun h => ?_) (fun h => ?_) <;> first | have hs := cT h hs | have hs := cF h hs)
       | (refine bind_elim hs fun v hb hs => ?_; first | refine callK_liftG hG109 rfl hb ?_)
       | refine chk_elim hs fun hs => ?_
       | (have hs := letv_out hs)
       | exact fin_some hs rfl
       | (intro b hb; first | have hs := nilq_elim hs b hb | have hs := nilqn_elim hs b hb)
       | (have hs := cT rfl hs)
       | (have hs := cF rfl hs)
       | exact (none_ne hs).elim)
noncomputable def lf_handle_Slot : List AV → Option AV := liftF (.pair (.int .i64) .unit) (unpack (.int .i64)) (fun x => handle_Slot x.1)
def tt_handle_Slot : List (Nat × Ty) := [(3, .int .i64), (4, .bool)]
def et_handle_Slot : List (Nat × Nat) := []
theorem tt_handle_Slot_ok : subT tt tt_handle_Slot = true := by kernel_rfl
theorem et_handle_Slot_ok : subE et et_handle_Slot = true := by kernel_rfl
def kp_handle_Slot : List (Nat × List Nat) := [(0, [0]), (1, [0, 5]), (2, [2]), (3, [2]), (4000000, []), (4000001, []), (4000002, []), (4000003, [])]
def od_handle_Slot : List (Nat × Ord) := []
noncomputable def E_handle_Slot (fns : List (Nat × (List AV → Option AV))) : Env := ⟨0, 0, et_handle_Slot, tt_handle_Slot, fns, [], od_handle_Slot, kp_handle_Slot, none, []⟩
set_option maxRecDepth 100000 in
set_option maxHeartbeats 40000000 in
theorem c_handle_Slot : PCon Go.Proofs.Try.prog 107 lf_handle_Slot := by
  obtain ⟨G119, hG119, cG119⟩ : ∃ G : ((.pair (.int .i64) .unit) : Ty).den → Option Bool, (∀ x, G x = handle_Fine x.1) ∧ PCon Go.Proofs.Try.prog 119 (liftF (.pair (.int .i64) .unit) (unpack .bool) G) := ⟨_, fun _ => rfl, c_handle_Fine⟩
  obtain ⟨fns, hfns, hf⟩ : ∃ fns, fns = [(119, liftF (.pair (.int .i64) .unit) (unpack .bool) G119)] ∧ FnsOk Go.Proofs.Try.prog fns := ⟨_, rfl, FnsOk.cons cG119 (FnsOk.nil _)⟩
  refine lift_con (E := E_handle_Slot fns) (c := bodyOf Try.f107) (nt := 8) (rs := [.tmp 2]) (ts := [3]) (EnvC.sub tt_ok et_ok hf (PrsOk.nil _) (ItsOk.nil _) tt_handle_Slot_ok et_handle_Slot_ok) (PrOk.of mixed_ok) Go.Proofs.Try.func107 rfl (by decide) rfl rfl rfl (pureR_one (e := (.int .i64)) rfl) ?_
  subst hfns
  intro x r hw hs
  repeat'
    (try (conv => whnf)
     first
       | (with_reducible have hs := letv_out hs)
       | (refine draw_and (by kernel_rfl) ?_)
       | (refine both_mk ?_ ?_)
       | (refine br_bool (fun h => ?_) (fun h => ?_) <;> first | have hs := cT h hs | have hs := cF h hs)
       | (refine bind_elim hs fun v hb hs => ?_; first | refine callK_liftG hG119 rfl hb ?_)
       | refine chk_elim hs fun hs => ?_
       | (have hs := letv_out hs)
       | exact fin_some hs rfl
       | (intro b hb; first | have hs := nilq_elim hs b hb | have hs := nilqn_elim hs b hb)
       | (have hs := cT rfl hs)
       | (have hs := cF rfl hs)
       | exact (none_ne hs).elim)
noncomputable def lf_handle_Gen : List AV → Option AV := liftF (.pair (.int .i64) .unit) (unpack (.int .i64)) (fun x => handle_Gen x.1)
def tt_handle_Gen : List (Nat × Ty) := [(3, .int .i64), (4, .bool)]
def et_handle_Gen : List (Nat × Nat) := []
theorem tt_handle_Gen_ok : subT tt tt_handle_Gen = true := by kernel_rfl
theorem et_handle_Gen_ok : subE et et_handle_Gen = true := by kernel_rfl
def kp_handle_Gen : List (Nat × List Nat) := [(0, [0]), (1, [0, 5]), (2, [2]), (3, [2]), (4000000, []), (4000001, []), (4000002, []), (4000003, [])]
def od_handle_Gen : List (Nat × Ord) := []
noncomputable def E_handle_Gen (fns : List (Nat × (List AV → Option AV))) : Env := ⟨0, 0, et_handle_Gen, tt_handle_Gen, fns, [], od_handle_Gen, kp_handle_Gen, none, []⟩
set_option maxRecDepth 100000 in
set_option maxHeartbeats 40000000 in
theorem c_handle_Gen : PCon Go.Proofs.Try.prog 108 lf_handle_Gen := by
  obtain ⟨G119, hG119, cG119⟩ : ∃ G : ((.pair (.int .i64) .unit) : Ty).den → Option Bool, (∀ x, G x = handle_Fine x.1) ∧ PCon Go.Proofs.Try.prog 119 (liftF (.pair (.int .i64) .unit) (unpack .bool) G) := ⟨_, fun _ => rfl, c_handle_Fine⟩
  obtain ⟨fns, hfns, hf⟩ : ∃ fns, fns = [(119, liftF (.pair (.int .i64) .unit) (unpack .bool) G119)] ∧ FnsOk Go.Proofs.Try.prog fns := ⟨_, rfl, FnsOk.cons cG119 (FnsOk.nil _)⟩
  refine lift_con (E := E_handle_Gen fns) (c := bodyOf Try.f108) (nt := 8) (rs := [.tmp 2]) (ts := [3]) (EnvC.sub tt_ok et_ok hf (PrsOk.nil _) (ItsOk.nil _) tt_handle_Gen_ok et_handle_Gen_ok) (PrOk.of mixed_ok) Go.Proofs.Try.func108 rfl (by decide) rfl rfl rfl (pureR_one (e := (.int .i64)) rfl) ?_
  subst hfns
  intro x r hw hs
  repeat'
    (try (conv => whnf)
     first
       | (with_reducible have hs := letv_out hs)
       | (refine draw_and (by kernel_rfl) ?_)
       | (refine both_mk ?_ ?_)
       | (refine br_bool (fun h => ?_) (fun h => ?_) <;> first | have hs := cT h hs | have hs := cF h hs)
       | (refine bind_elim hs fun v hb hs => ?_; first | refine callK_liftG hG119 rfl hb ?_)
       | refine chk_elim hs fun hs => ?_
       | (have hs := letv_out hs)
       | exact fin_some hs rfl
       | (intro b hb; first | have hs := nilq_elim hs b hb | have hs := nilqn_elim hs b hb)
       | (have hs := cT rfl hs)
       | (have hs := cF rfl hs)
       | exact (none_ne hs).elim)
end Go.Proofs.YtiicmhholjpcbaaV
