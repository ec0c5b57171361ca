import Derived.Test.YtdddmgbbjifkdaaDoorVcTab
import Derived.Test.YtdddmgbbjifkdaaDoorDopcode
namespace Go.Proofs.YtdddmgbbjifkdaaDoorV
open Go.Proofs
set_option linter.unusedVariables false
noncomputable def lf_opcode_fine : List AV → Option AV := liftF (.pair (.int .i64) .unit) (unpack .bool) (fun x => opcode_fine x.1)
def tt_opcode_fine : List (Nat × Ty) := [(3, .int .i64), (4, .bool)]
def et_opcode_fine : List (Nat × Nat) := []
theorem tt_opcode_fine_ok : subT tt tt_opcode_fine = true := by kernel_rfl
theorem et_opcode_fine_ok : subE et et_opcode_fine = true := by kernel_rfl
def kp_opcode_fine : List (Nat × List Nat) := [(0, [0]), (1, [2]), (4000000, []), (4000001, [])]
def od_opcode_fine : List (Nat × Ord) := []
noncomputable def E_opcode_fine (fns : List (Nat × (List AV → Option AV))) : Env := ⟨0, 0, et_opcode_fine, tt_opcode_fine, fns, [], od_opcode_fine, kp_opcode_fine, none, []⟩
set_option maxRecDepth 100000 in
set_option maxHeartbeats 40000000 in
theorem c_opcode_fine : PCon Go.Proofs.Tryd.prog 14 lf_opcode_fine := by
  obtain ⟨fns, hfns, hf⟩ : ∃ fns, fns = [] ∧ FnsOk Go.Proofs.Tryd.prog fns := ⟨_, rfl, FnsOk.nil _⟩
  refine lift_con (E := E_opcode_fine fns) (c := bodyOf Tryd.f14) (nt := 9) (rs := [.tmp 2]) (ts := [4]) (EnvC.sub tt_ok et_ok hf (PrsOk.nil _) (ItsOk.nil _) tt_opcode_fine_ok et_opcode_fine_ok) (PrOk.of mixed_ok) Go.Proofs.Tryd.func14 rfl (by decide) rfl rfl rfl (pureR_one (e := .bool) rfl) ?_
  subst hfns
  intro x r hw hs
  repeat'
    (try (conv => whnf)
     first
       | (with_reducible have hs := letv_out hs)
       | (refine draw_and (by kernel_rfl) ?_)
       | (refine both_mk ?_ ?_)
       | (refine br_bool (fun h => ?_) (fun h => ?_) <;> first | have hs := cT h hs | have hs := cF h hs)
       | refine chk_elim hs fun hs => ?_
       | (have hs := letv_out hs)
       | exact fin_some hs rfl
       | (intro b hb; first | have hs := nilq_elim hs b hb | have hs := nilqn_elim hs b hb)
       | (have hs := cT rfl hs)
       | (have hs := cF rfl hs)
       | exact (none_ne hs).elim)
noncomputable def lf_opcode_Name : List AV → Option AV := liftF (.pair (.int .i64) .unit) (unpack .str) (fun x => opcode_Name x.1)
def tt_opcode_Name : List (Nat × Ty) := [(3, .int .i64), (4, .bool), (9, .str), (36, .pair .str (.pair .str (.pair (.int .i64) .unit))), (37, .arr 48 (.pair .str (.pair .str (.pair (.int .i64) .unit))))]
def et_opcode_Name : List (Nat × Nat) := []
theorem tt_opcode_Name_ok : subT tt tt_opcode_Name = true := by kernel_rfl
theorem et_opcode_Name_ok : subE et et_opcode_Name = true := by kernel_rfl
def kp_opcode_Name : List (Nat × List Nat) := [(0, [0]), (1, [0, 5]), (2, [2]), (3, [2]), (4000000, []), (4000001, []), (4000002, []), (4000003, [])]
def od_opcode_Name : List (Nat × Ord) := []
noncomputable def E_opcode_Name (fns : List (Nat × (List AV → Option AV))) : Env := ⟨0, 0, et_opcode_Name, tt_opcode_Name, fns, [], od_opcode_Name, kp_opcode_Name, none, []⟩
set_option maxRecDepth 100000 in
set_option maxHeartbeats 40000000 in
theorem c_opcode_Name : PCon Go.Proofs.Tryd.prog 7 lf_opcode_Name := by
  obtain ⟨G14, hG14, cG14⟩ : ∃ G : ((.pair (.int .i64) .unit) : Ty).den → Option Bool, (∀ x, G x = opcode_fine x.1) ∧ PCon Go.Proofs.Tryd.prog 14 (liftF (.pair (.int .i64) .unit) (unpack .bool) G) := ⟨_, fun _ => rfl, c_opcode_fine⟩
  obtain ⟨fns, hfns, hf⟩ : ∃ fns, fns = [(14, liftF (.pair (.int .i64) .unit) (unpack .bool) G14)] ∧ FnsOk Go.Proofs.Tryd.prog fns := ⟨_, rfl, FnsOk.cons cG14 (FnsOk.nil _)⟩
  refine lift_con (E := E_opcode_Name fns) (c := bodyOf Tryd.f7) (nt := 10) (rs := [.tmp 2]) (ts := [9]) (EnvC.sub tt_ok et_ok hf (PrsOk.nil _) (ItsOk.nil _) tt_opcode_Name_ok et_opcode_Name_ok) (PrOk.of mixed_ok) Go.Proofs.Tryd.func7 rfl (by decide) rfl rfl rfl (pureR_one (e := .str) rfl) ?_
  subst hfns
  intro x r hw hs
  repeat'
    (try (conv => whnf)
     first
       | (with_reducible have hs := letv_out hs)
       | (refine draw_and (by kernel_rfl) ?_)
       | (refine both_mk ?_ ?_)
       | (refine br_bool (fun h => ?_) (fun h => ?_) <;> first | have hs := cT h hs | have hs := cF h hs)
       | (refine bind_elim hs fun v hb hs => ?_; first | refine callK_liftG hG14 rfl hb ?_)
       | refine chk_elim hs fun hs => ?_
       | (have hs := letv_out hs)
       | exact fin_some hs rfl
       | (intro b hb; first | have hs := nilq_elim hs b hb | have hs := nilqn_elim hs b hb)
       | (have hs := cT rfl hs)
       | (have hs := cF rfl hs)
       | exact (none_ne hs).elim)
noncomputable def lf_opcode_Form : List AV → Option AV := liftF (.pair (.int .i64) .unit) (unpack .str) (fun x => opcode_Form x.1)
def tt_opcode_Form : List (Nat × Ty) := [(3, .int .i64), (4, .bool), (9, .str), (36, .pair .str (.pair .str (.pair (.int .i64) .unit))), (37, .arr 48 (.pair .str (.pair .str (.pair (.int .i64) .unit))))]
def et_opcode_Form : List (Nat × Nat) := []
theorem tt_opcode_Form_ok : subT tt tt_opcode_Form = true := by kernel_rfl
theorem et_opcode_Form_ok : subE et et_opcode_Form = true := by kernel_rfl
def kp_opcode_Form : List (Nat × List Nat) := [(0, [0]), (1, [0, 5]), (2, [2]), (3, [2]), (4000000, []), (4000001, []), (4000002, []), (4000003, [])]
def od_opcode_Form : List (Nat × Ord) := []
noncomputable def E_opcode_Form (fns : List (Nat × (List AV → Option AV))) : Env := ⟨0, 0, et_opcode_Form, tt_opcode_Form, fns, [], od_opcode_Form, kp_opcode_Form, none, []⟩
set_option maxRecDepth 100000 in
set_option maxHeartbeats 40000000 in
theorem c_opcode_Form : PCon Go.Proofs.Tryd.prog 8 lf_opcode_Form := by
  obtain ⟨G14, hG14, cG14⟩ : ∃ G : ((.pair (.int .i64) .unit) : Ty).den → Option Bool, (∀ x, G x = opcode_fine x.1) ∧ PCon Go.Proofs.Tryd.prog 14 (liftF (.pair (.int .i64) .unit) (unpack .bool) G) := ⟨_, fun _ => rfl, c_opcode_fine⟩
  obtain ⟨fns, hfns, hf⟩ : ∃ fns, fns = [(14, liftF (.pair (.int .i64) .unit) (unpack .bool) G14)] ∧ FnsOk Go.Proofs.Tryd.prog fns := ⟨_, rfl, FnsOk.cons cG14 (FnsOk.nil _)⟩
  refine lift_con (E := E_opcode_Form fns) (c := bodyOf Tryd.f8) (nt := 10) (rs := [.tmp 2]) (ts := [9]) (EnvC.sub tt_ok et_ok hf (PrsOk.nil _) (ItsOk.nil _) tt_opcode_Form_ok et_opcode_Form_ok) (PrOk.of mixed_ok) Go.Proofs.Tryd.func8 rfl (by decide) rfl rfl rfl (pureR_one (e := .str) rfl) ?_
  subst hfns
  intro x r hw hs
  repeat'
    (try (conv => whnf)
     first
       | (with_reducible have hs := letv_out hs)
       | (refine draw_and (by kernel_rfl) ?_)
       | (refine both_mk ?_ ?_)
       | (refine br_bool (fun h => ?_) (fun h => ?_) <;> first | have hs := cT h hs | have hs := cF h hs)
       | (refine bind_elim hs fun v hb hs => ?_; first | refine callK_liftG hG14 rfl hb ?_)
       | refine chk_elim hs fun hs => ?_
       | (have hs := letv_out hs)
       | exact fin_some hs rfl
       | (intro b hb; first | have hs := nilq_elim hs b hb | have hs := nilqn_elim hs b hb)
       | (have hs := cT rfl hs)
       | (have hs := cF rfl hs)
       | exact (none_ne hs).elim)
noncomputable def lf_opcode_Class : List AV → Option AV := liftF (.pair (.int .i64) .unit) (unpack (.int .i64)) (fun x => opcode_Class x.1)
def tt_opcode_Class : List (Nat × Ty) := [(3, .int .i64), (4, .bool), (36, .pair .str (.pair .str (.pair (.int .i64) .unit))), (37, .arr 48 (.pair .str (.pair .str (.pair (.int .i64) .unit))))]
def et_opcode_Class : List (Nat × Nat) := []
theorem tt_opcode_Class_ok : subT tt tt_opcode_Class = true := by kernel_rfl
theorem et_opcode_Class_ok : subE et et_opcode_Class = true := by kernel_rfl
def kp_opcode_Class : List (Nat × List Nat) := [(0, [0]), (1, [0, 5]), (2, [2]), (3, [2]), (4000000, []), (4000001, []), (4000002, []), (4000003, [])]
def od_opcode_Class : List (Nat × Ord) := []
noncomputable def E_opcode_Class (fns : List (Nat × (List AV → Option AV))) : Env := ⟨0, 0, et_opcode_Class, tt_opcode_Class, fns, [], od_opcode_Class, kp_opcode_Class, none, []⟩
set_option maxRecDepth 100000 in
set_option maxHeartbeats 40000000 in
theorem c_opcode_Class : PCon Go.Proofs.Tryd.prog 9 lf_opcode_Class := by
  obtain ⟨G14, hG14, cG14⟩ : ∃ G : ((.pair (.int .i64) .unit) : Ty).den → Option Bool, (∀ x, G x = opcode_fine x.1) ∧ PCon Go.Proofs.Tryd.prog 14 (liftF (.pair (.int .i64) .unit) (unpack .bool) G) := ⟨_, fun _ => rfl, c_opcode_fine⟩
  obtain ⟨fns, hfns, hf⟩ : ∃ fns, fns = [(14, liftF (.pair (.int .i64) .unit) (unpack .bool) G14)] ∧ FnsOk Go.Proofs.Tryd.prog fns := ⟨_, rfl, FnsOk.cons cG14 (FnsOk.nil _)⟩
  refine lift_con (E := E_opcode_Class fns) (c := bodyOf Tryd.f9) (nt := 10) (rs := [.tmp 2]) (ts := [3]) (EnvC.sub tt_ok et_ok hf (PrsOk.nil _) (ItsOk.nil _) tt_opcode_Class_ok et_opcode_Class_ok) (PrOk.of mixed_ok) Go.Proofs.Tryd.func9 rfl (by decide) rfl rfl rfl (pureR_one (e := (.int .i64)) rfl) ?_
  subst hfns
  intro x r hw hs
  repeat'
    (try (conv => whnf)
     first
       | (with_reducible have hs := letv_out hs)
       | (refine draw_and (by kernel_rfl) ?_)
       | (refine both_mk ?_ ?_)
       | (refine br_bool (fun h => ?_) (fun h => ?_) <;> first | have hs := cT h hs | have hs := cF h hs)
       | (refine bind_elim hs fun v hb hs => ?_; first | refine callK_liftG hG14 rfl hb ?_)
       | refine chk_elim hs fun hs => ?_
       | (have hs := letv_out hs)
       | exact fin_some hs rfl
       | (intro b hb; first | have hs := nilq_elim hs b hb | have hs := nilqn_elim hs b hb)
       | (have hs := cT rfl hs)
       | (have hs := cF rfl hs)
       | exact (none_ne hs).elim)
noncomputable def lf_opcode_Find : List AV → Option AV := liftF (.pair .str .unit) (unpR (.pair (.int .i64) (.pair .bool .unit))) (fun x => opcode_Find x.1)
def tt_opcode_Find : List (Nat × Ty) := [(3, .int .i64), (4, .bool), (9, .str), (36, .pair .str (.pair .str (.pair (.int .i64) .unit))), (37, .arr 48 (.pair .str (.pair .str (.pair (.int .i64) .unit))))]
def et_opcode_Find : List (Nat × Nat) := []
theorem tt_opcode_Find_ok : subT tt tt_opcode_Find = true := by kernel_rfl
theorem et_opcode_Find_ok : subE et et_opcode_Find = true := by kernel_rfl
def opcode_Find_S1 (u0 : AV) (u1 : AV) (x1 : Int) : St :=
  ⟨[(0, u0), (6, u1), (7, .int .i64 x1)], [], none⟩
def opcode_Find_M1 : Msk := ⟨[0, 6, 7], [], [], [], [], [], [], [], []⟩
def kp_opcode_Find : List (Nat × List Nat) := [(0, [0]), (1, [0, 6, 7]), (2, [0, 6, 7, 8]), (3, [0, 4, 5, 6, 7]), (4, [0, 4, 6, 7, 14]), (5, [2, 3]), (6, [0, 6, 7]), (7, [2, 3]), (4000000, []), (4000001, []), (4000002, []), (4000003, [5]), (4000004, []), (4000005, []), (4000006, []), (4000007, [])]
def od_opcode_Find : List (Nat × Ord) := []
noncomputable def E_opcode_Find (fns : List (Nat × (List AV → Option AV))) : Env := ⟨0, 0, et_opcode_Find, tt_opcode_Find, fns, [], od_opcode_Find, kp_opcode_Find, none, []⟩
set_option maxRecDepth 100000 in
set_option maxHeartbeats 40000000 in
theorem c_opcode_Find : PCon Go.Proofs.Tryd.prog 11 lf_opcode_Find := by
  obtain ⟨fns, hfns, hf⟩ : ∃ fns, fns = [] ∧ FnsOk Go.Proofs.Tryd.prog fns := ⟨_, rfl, FnsOk.nil _⟩
  refine lift_con (E := E_opcode_Find fns) (c := bodyOf Tryd.f11) (nt := 17) (rs := [.tmp 2, .tmp 3]) (ts := [3, 4]) (EnvC.sub tt_ok et_ok hf (PrsOk.nil _) (ItsOk.nil _) tt_opcode_Find_ok et_opcode_Find_ok) (PrOk.of mixed_ok) Go.Proofs.Tryd.func11 rfl (by decide) rfl rfl rfl (pureR_many (e := (.pair (.int .i64) (.pair .bool .unit))) rfl) ?_
  subst hfns
  intro x r hw hs
  repeat'
    (try (conv => whnf)
     first
       | (with_reducible have hs := letv_out hs)
       | (refine draw_and (by kernel_rfl) ?_)
       | (refine both_mk ?_ ?_)
       | (refine br_bool (fun h => ?_) (fun h => ?_) <;> first | have hs := cT h hs | have hs := cF h hs)
       | refine chk_elim hs fun hs => ?_
       | (have hs := letv_out hs)
       | exact fin_some hs rfl
       | (intro b hb; first | have hs := nilq_elim hs b hb | have hs := nilqn_elim hs b hb)
       | exact hJ1 _ hs
       | (have hs := cT rfl hs)
       | (have hs := cF rfl hs)
       | (refine vc_loop (opcode_Find_S1 _ _) opcode_Find_M1 hs rfl ?_; intro J1 k1 x1 hJ1 hs)
       | exact (none_ne hs).elim)
end Go.Proofs.YtdddmgbbjifkdaaDoorV
