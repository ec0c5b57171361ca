import Derived.Test.YtdddmgbbjifkdaaDoorVcTab
import Derived.Test.YtdddmgbbjifkdaaDoorDR09
namespace Go.Proofs.YtdddmgbbjifkdaaDoorV
open Go.Proofs
set_option linter.unusedVariables false
noncomputable def lf_R09_Table : List AV → Option AV := liftF .unit (unpack (.sl (.pair .str (.pair .str (.pair (.int .i64) .unit))))) (fun x => R09_Table)
def tt_R09_Table : List (Nat × Ty) := [(23, .pair .str (.pair .str (.pair (.int .i64) .unit))), (33, .sl (.pair .str (.pair .str (.pair (.int .i64) .unit))))]
def et_R09_Table : List (Nat × Nat) := [(33, 23)]
theorem tt_R09_Table_ok : subT tt tt_R09_Table = true := by kernel_rfl
theorem et_R09_Table_ok : subE et et_R09_Table = true := by kernel_rfl
def kp_R09_Table : List (Nat × List Nat) := [(0, []), (1, [0]), (4000000, []), (4000001, [49])]
def od_R09_Table : List (Nat × Ord) := []
noncomputable def E_R09_Table (fns : List (Nat × (List AV → Option AV))) : Env := ⟨0, 0, et_R09_Table, tt_R09_Table, fns, [], od_R09_Table, kp_R09_Table, none, []⟩
set_option maxRecDepth 100000 in
set_option maxHeartbeats 40000000 in
theorem c_R09_Table : PCon Go.Proofs.Tryd.prog 13 lf_R09_Table := by
  obtain ⟨fns, hfns, hf⟩ : ∃ fns, fns = [] ∧ FnsOk Go.Proofs.Tryd.prog fns := ⟨_, rfl, FnsOk.nil _⟩
  refine lift_con (E := E_R09_Table fns) (c := bodyOf Tryd.f13) (nt := 50) (rs := [.tmp 0]) (ts := [33]) (EnvC.sub tt_ok et_ok hf (PrsOk.nil _) (ItsOk.nil _) tt_R09_Table_ok et_R09_Table_ok) (PrOk.of mixed_ok) Go.Proofs.Tryd.func13 rfl (by decide) rfl rfl rfl (pureR_one (e := (.sl (.pair .str (.pair .str (.pair (.int .i64) .unit))))) rfl) ?_
  subst hfns
  intro x r hw hs
  repeat'
    (try (conv => whnf)
     first
       | (with_reducible have hs := letv_out hs)
       | (refine draw_and (by kernel_rfl) ?_)
       | (refine both_mk ?_ ?_)
       | (refine br_bool (fun h => ?_) (fun h => ?_) <;> first | have hs := cT h hs | have hs := cF h hs)
       | refine chk_elim hs fun hs => ?_
       | (have hs := letv_out hs)
       | exact fin_some hs rfl
       | (intro b hb; first | have hs := nilq_elim hs b hb | have hs := nilqn_elim hs b hb)
       | (have hs := cT rfl hs)
       | (have hs := cF rfl hs)
       | exact (none_ne hs).elim)
noncomputable def lf_R09_Of : List AV → Option AV := liftF (.pair (.int .i64) .unit) (unpack (.pair .str (.pair .str (.pair (.int .i64) .unit)))) (fun x => R09_Of x.1)
def tt_R09_Of : List (Nat × Ty) := [(3, .int .i64), (23, .pair .str (.pair .str (.pair (.int .i64) .unit))), (33, .sl (.pair .str (.pair .str (.pair (.int .i64) .unit))))]
def et_R09_Of : List (Nat × Nat) := [(33, 23)]
theorem tt_R09_Of_ok : subT tt tt_R09_Of = true := by kernel_rfl
theorem et_R09_Of_ok : subE et et_R09_Of = true := by kernel_rfl
def kp_R09_Of : List (Nat × List Nat) := [(0, [0, 2]), (1, [0, 2, 3]), (2, [0, 2, 3, 12]), (3, [2]), (4, [2]), (4000000, [2]), (4000001, [2]), (4000002, [2]), (4000003, [2]), (4000004, [2])]
def od_R09_Of : List (Nat × Ord) := []
noncomputable def E_R09_Of (fns : List (Nat × (List AV → Option AV))) : Env := ⟨0, 0, et_R09_Of, tt_R09_Of, fns, [], od_R09_Of, kp_R09_Of, none, []⟩
set_option maxRecDepth 100000 in
set_option maxHeartbeats 40000000 in
theorem c_R09_Of : PCon Go.Proofs.Tryd.prog 6 lf_R09_Of := by
  obtain ⟨G13, hG13, cG13⟩ : ∃ G : (.unit : Ty).den → Option (List (ByteArray × ByteArray × Int × Unit)), (∀ x, G x = R09_Table) ∧ PCon Go.Proofs.Tryd.prog 13 (liftF .unit (unpack (.sl (.pair .str (.pair .str (.pair (.int .i64) .unit))))) G) := ⟨_, fun _ => rfl, c_R09_Table⟩
  obtain ⟨fns, hfns, hf⟩ : ∃ fns, fns = [(13, liftF .unit (unpack (.sl (.pair .str (.pair .str (.pair (.int .i64) .unit))))) G13)] ∧ FnsOk Go.Proofs.Tryd.prog fns := ⟨_, rfl, FnsOk.cons cG13 (FnsOk.nil _)⟩
  refine lift_con (E := E_R09_Of fns) (c := bodyOf Tryd.f6) (nt := 18) (rs := [.cell 2 23]) (ts := [23]) (EnvC.sub tt_ok et_ok hf (PrsOk.nil _) (ItsOk.nil _) tt_R09_Of_ok et_R09_Of_ok) (PrOk.of mixed_ok) Go.Proofs.Tryd.func6 rfl (by decide) rfl rfl rfl (pureR_one (e := (.pair .str (.pair .str (.pair (.int .i64) .unit)))) rfl) ?_
  subst hfns
  intro x r hw hs
  repeat'
    (try (conv => whnf)
     first
       | (with_reducible have hs := letv_out hs)
       | (refine draw_and (by kernel_rfl) ?_)
       | (refine both_mk ?_ ?_)
       | (refine br_bool (fun h => ?_) (fun h => ?_) <;> first | have hs := cT h hs | have hs := cF h hs)
       | (refine bind_elim hs fun v hb hs => ?_; first | refine callK_liftG hG13 rfl hb ?_)
       | refine chk_elim hs fun hs => ?_
       | (have hs := letv_out hs)
       | exact fin_some hs rfl
       | (intro b hb; first | have hs := nilq_elim hs b hb | have hs := nilqn_elim hs b hb)
       | (have hs := cT rfl hs)
       | (have hs := cF rfl hs)
       | exact (none_ne hs).elim)
noncomputable def lf_R09_Find : List AV → Option AV := liftF (.pair .str .unit) (unpR (.pair (.int .i64) (.pair .bool .unit))) (fun x => R09_Find x.1)
def tt_R09_Find : List (Nat × Ty) := [(3, .int .i64), (4, .bool), (9, .str), (23, .pair .str (.pair .str (.pair (.int .i64) .unit))), (33, .sl (.pair .str (.pair .str (.pair (.int .i64) .unit))))]
def et_R09_Find : List (Nat × Nat) := [(33, 23)]
theorem tt_R09_Find_ok : subT tt tt_R09_Find = true := by kernel_rfl
theorem et_R09_Find_ok : subE et et_R09_Find = true := by kernel_rfl
def R09_Find_S1 (u0 : AV) (u1 : AV) (x1 : Int) : St :=
  ⟨[(0, u0), (4, u1), (5, .int .i64 x1)], [], none⟩
def R09_Find_M1 : Msk := ⟨[0, 4, 5], [], [], [], [], [], [], [], []⟩
def kp_R09_Find : List (Nat × List Nat) := [(0, [0]), (1, [0, 4]), (2, [0, 4, 5]), (3, [0, 4, 5, 10]), (4, [0, 4, 5]), (5, [0, 4, 5, 19]), (6, [2, 3]), (7, [2, 3]), (4000000, []), (4000001, []), (4000002, []), (4000003, []), (4000004, []), (4000005, []), (4000006, []), (4000007, [])]
def od_R09_Find : List (Nat × Ord) := []
noncomputable def E_R09_Find (fns : List (Nat × (List AV → Option AV))) : Env := ⟨0, 0, et_R09_Find, tt_R09_Find, fns, [], od_R09_Find, kp_R09_Find, none, []⟩
set_option maxRecDepth 100000 in
set_option maxHeartbeats 40000000 in
theorem c_R09_Find : PCon Go.Proofs.Tryd.prog 12 lf_R09_Find := by
  obtain ⟨G13, hG13, cG13⟩ : ∃ G : (.unit : Ty).den → Option (List (ByteArray × ByteArray × Int × Unit)), (∀ x, G x = R09_Table) ∧ PCon Go.Proofs.Tryd.prog 13 (liftF .unit (unpack (.sl (.pair .str (.pair .str (.pair (.int .i64) .unit))))) G) := ⟨_, fun _ => rfl, c_R09_Table⟩
  obtain ⟨fns, hfns, hf⟩ : ∃ fns, fns = [(13, liftF .unit (unpack (.sl (.pair .str (.pair .str (.pair (.int .i64) .unit))))) G13)] ∧ FnsOk Go.Proofs.Tryd.prog fns := ⟨_, rfl, FnsOk.cons cG13 (FnsOk.nil _)⟩
  refine lift_con (E := E_R09_Find fns) (c := bodyOf Tryd.f12) (nt := 21) (rs := [.tmp 2, .tmp 3]) (ts := [3, 4]) (EnvC.sub tt_ok et_ok hf (PrsOk.nil _) (ItsOk.nil _) tt_R09_Find_ok et_R09_Find_ok) (PrOk.of mixed_ok) Go.Proofs.Tryd.func12 rfl (by decide) rfl rfl rfl (pureR_many (e := (.pair (.int .i64) (.pair .bool .unit))) rfl) ?_
  subst hfns
  intro x r hw hs
  repeat'
    (try (conv => whnf)
     first
       | (with_reducible have hs := letv_out hs)
       | (refine draw_and (by kernel_rfl) ?_)
       | (refine both_mk ?_ ?_)
       | (refine br_bool (fun h => ?_) (fun h => ?_) <;> first | have hs := cT h hs | have hs := cF h hs)
       | (refine bind_elim hs fun v hb hs => ?_; first | refine callK_liftG hG13 rfl hb ?_)
       | refine chk_elim hs fun hs => ?_
       | (have hs := letv_out hs)
       | exact fin_some hs rfl
       | (intro b hb; first | have hs := nilq_elim hs b hb | have hs := nilqn_elim hs b hb)
       | exact hJ1 _ hs
       | (have hs := cT rfl hs)
       | (have hs := cF rfl hs)
       | (refine vc_loop (R09_Find_S1 _ _) R09_Find_M1 hs rfl ?_; intro J1 k1 x1 hJ1 hs)
       | exact (none_ne hs).elim)
end Go.Proofs.YtdddmgbbjifkdaaDoorV
