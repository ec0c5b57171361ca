import Derived.Test.YtkpobmmabmelfaaDoorVcTab
import Derived.Test.YtkpobmmabmelfaaDoorDDBar
import Derived.Test.YtkpobmmabmelfaaDoorCR20
import Derived.Test.YtkpobmmabmelfaaDoorCR21
namespace Go.Proofs.YtkpobmmabmelfaaDoorV
open Go.Proofs
set_option linter.unusedVariables false
noncomputable def lf_R22_Fine : List AV → Option AV := liftF (.pair (.pair (.pair .bool (.pair (.int .i64) .unit)) (.pair (.pair (.sl (.int .i64)) (.pair (.sl (.int .i64)) .unit)) (.pair (.int .i64) .unit))) .unit) (unpack .bool) (fun x => R22_Fine x.1)
def tt_R22_Fine : List (Nat × Ty) := [(3, .int .i64), (4, .bool), (23, .pair .bool (.pair (.int .i64) .unit)), (26, .pair (.sl (.int .i64)) (.pair (.sl (.int .i64)) .unit)), (28, .pair (.pair .bool (.pair (.int .i64) .unit)) (.pair (.pair (.sl (.int .i64)) (.pair (.sl (.int .i64)) .unit)) (.pair (.int .i64) .unit)))]
def et_R22_Fine : List (Nat × Nat) := []
theorem tt_R22_Fine_ok : subT tt tt_R22_Fine = true := by kernel_rfl
theorem et_R22_Fine_ok : subE et et_R22_Fine = true := by kernel_rfl
def kp_R22_Fine : List (Nat × List Nat) := [(0, [1]), (1, [2]), (4000000, [1]), (4000001, [])]
def od_R22_Fine : List (Nat × Ord) := []
noncomputable def E_R22_Fine (fns : List (Nat × (List AV → Option AV))) : Env := ⟨0, 0, et_R22_Fine, tt_R22_Fine, fns, [], od_R22_Fine, kp_R22_Fine, none, []⟩
set_option maxRecDepth 100000 in
set_option maxHeartbeats 40000000 in
theorem c_R22_Fine : PCon Go.Proofs.Tryd.prog 32 lf_R22_Fine := by
  obtain ⟨G80, hG80, cG80⟩ : ∃ G : ((.pair (.int .i64) (.pair (.int .i64) .unit)) : Ty).den → Option Bool, (∀ x, G x = R20_Fine x.1 x.2.1) ∧ PCon Go.Proofs.Tryd.prog 80 (liftF (.pair (.int .i64) (.pair (.int .i64) .unit)) (unpack .bool) G) := ⟨_, fun _ => rfl, c_R20_Fine⟩
  obtain ⟨G81, hG81, cG81⟩ : ∃ G : ((.pair (.pair (.sl (.int .i64)) (.pair (.sl (.int .i64)) .unit)) .unit) : Ty).den → Option Bool, (∀ x, G x = R21_Fine x.1) ∧ PCon Go.Proofs.Tryd.prog 81 (liftF (.pair (.pair (.sl (.int .i64)) (.pair (.sl (.int .i64)) .unit)) .unit) (unpack .bool) G) := ⟨_, fun _ => rfl, c_R21_Fine⟩
  obtain ⟨fns, hfns, hf⟩ : ∃ fns, fns = [(80, liftF (.pair (.int .i64) (.pair (.int .i64) .unit)) (unpack .bool) G80), (81, liftF (.pair (.pair (.sl (.int .i64)) (.pair (.sl (.int .i64)) .unit)) .unit) (unpack .bool) G81)] ∧ FnsOk Go.Proofs.Tryd.prog fns := ⟨_, rfl, FnsOk.cons cG80 (FnsOk.cons cG81 (FnsOk.nil _))⟩
  refine lift_con (E := E_R22_Fine fns) (c := bodyOf Tryd.f32) (nt := 14) (rs := [.tmp 2]) (ts := [4]) (EnvC.sub tt_ok et_ok hf (PrsOk.nil _) (ItsOk.nil _) tt_R22_Fine_ok et_R22_Fine_ok) (PrOk.of mixed_ok) Go.Proofs.Tryd.func32 rfl (by decide) rfl rfl rfl (pureR_one (e := .bool) rfl) ?_
  subst hfns
  intro x r hw hs
  repeat'
    (try (conv => whnf)
     first
       | (with_reducible have hs := letv_out hs)
       | (refine draw_and (by kernel_rfl) ?_)
       | (refine both_mk ?_ ?_)
       | (refine br_bool (fun h => ?_) (fun h => ?_) <;> first | have hs := cT h hs | have hs := cF h hs)
       | (refine bind_elim hs fun v hb hs => ?_; first | refine callK_liftG hG80 rfl hb ?_ | refine callK_liftG hG81 rfl hb ?_)
       | refine chk_elim hs fun hs => ?_
       | (have hs := letv_out hs)
       | exact fin_some hs rfl
       | (intro b hb; first | have hs := nilq_elim hs b hb | have hs := nilqn_elim hs b hb)
       | (have hs := cT rfl hs)
       | (have hs := cF rfl hs)
       | exact (none_ne hs).elim)
noncomputable def lf_R22_Ready : List AV → Option AV := liftF (.pair (.pair (.pair .bool (.pair (.int .i64) .unit)) (.pair (.pair (.sl (.int .i64)) (.pair (.sl (.int .i64)) .unit)) (.pair (.int .i64) .unit))) .unit) (unpack .bool) (fun x => R22_Ready x.1)
def tt_R22_Ready : List (Nat × Ty) := [(3, .int .i64), (4, .bool), (23, .pair .bool (.pair (.int .i64) .unit)), (26, .pair (.sl (.int .i64)) (.pair (.sl (.int .i64)) .unit)), (28, .pair (.pair .bool (.pair (.int .i64) .unit)) (.pair (.pair (.sl (.int .i64)) (.pair (.sl (.int .i64)) .unit)) (.pair (.int .i64) .unit)))]
def et_R22_Ready : List (Nat × Nat) := []
theorem tt_R22_Ready_ok : subT tt tt_R22_Ready = true := by kernel_rfl
theorem et_R22_Ready_ok : subE et et_R22_Ready = true := by kernel_rfl
def kp_R22_Ready : List (Nat × List Nat) := [(0, [1]), (1, [2]), (4000000, [1]), (4000001, [])]
def od_R22_Ready : List (Nat × Ord) := []
noncomputable def E_R22_Ready (fns : List (Nat × (List AV → Option AV))) : Env := ⟨0, 0, et_R22_Ready, tt_R22_Ready, fns, [], od_R22_Ready, kp_R22_Ready, none, []⟩
set_option maxRecDepth 100000 in
set_option maxHeartbeats 40000000 in
theorem c_R22_Ready : PCon Go.Proofs.Tryd.prog 17 lf_R22_Ready := by
  obtain ⟨G32, hG32, cG32⟩ : ∃ G : ((.pair (.pair (.pair .bool (.pair (.int .i64) .unit)) (.pair (.pair (.sl (.int .i64)) (.pair (.sl (.int .i64)) .unit)) (.pair (.int .i64) .unit))) .unit) : Ty).den → Option Bool, (∀ x, G x = R22_Fine x.1) ∧ PCon Go.Proofs.Tryd.prog 32 (liftF (.pair (.pair (.pair .bool (.pair (.int .i64) .unit)) (.pair (.pair (.sl (.int .i64)) (.pair (.sl (.int .i64)) .unit)) (.pair (.int .i64) .unit))) .unit) (unpack .bool) G) := ⟨_, fun _ => rfl, c_R22_Fine⟩
  obtain ⟨G66, hG66, cG66⟩ : ∃ G : ((.pair (.pair (.sl (.int .i64)) (.pair (.sl (.int .i64)) .unit)) .unit) : Ty).den → Option Bool, (∀ x, G x = R21_Full x.1) ∧ PCon Go.Proofs.Tryd.prog 66 (liftF (.pair (.pair (.sl (.int .i64)) (.pair (.sl (.int .i64)) .unit)) .unit) (unpack .bool) G) := ⟨_, fun _ => rfl, c_R21_Full⟩
  obtain ⟨fns, hfns, hf⟩ : ∃ fns, fns = [(32, liftF (.pair (.pair (.pair .bool (.pair (.int .i64) .unit)) (.pair (.pair (.sl (.int .i64)) (.pair (.sl (.int .i64)) .unit)) (.pair (.int .i64) .unit))) .unit) (unpack .bool) G32), (66, liftF (.pair (.pair (.sl (.int .i64)) (.pair (.sl (.int .i64)) .unit)) .unit) (unpack .bool) G66)] ∧ FnsOk Go.Proofs.Tryd.prog fns := ⟨_, rfl, FnsOk.cons cG32 (FnsOk.cons cG66 (FnsOk.nil _))⟩
  refine lift_con (E := E_R22_Ready fns) (c := bodyOf Tryd.f17) (nt := 18) (rs := [.tmp 2]) (ts := [4]) (EnvC.sub tt_ok et_ok hf (PrsOk.nil _) (ItsOk.nil _) tt_R22_Ready_ok et_R22_Ready_ok) (PrOk.of mixed_ok) Go.Proofs.Tryd.func17 rfl (by decide) rfl rfl rfl (pureR_one (e := .bool) rfl) ?_
  subst hfns
  intro x r hw hs
  repeat'
    (try (conv => whnf)
     first
       | (with_reducible have hs := letv_out hs)
       | (refine draw_and (by kernel_rfl) ?_)
       | (refine both_mk ?_ ?_)
       | (refine br_bool (fun h => ?_) (fun h => ?_) <;> first | have hs := cT h hs | have hs := cF h hs)
       | (refine bind_elim hs fun v hb hs => ?_; first | refine callK_liftG hG32 rfl hb ?_ | refine callK_liftG hG66 rfl hb ?_)
       | refine chk_elim hs fun hs => ?_
       | (have hs := letv_out hs)
       | exact fin_some hs rfl
       | (intro b hb; first | have hs := nilq_elim hs b hb | have hs := nilqn_elim hs b hb)
       | (have hs := cT rfl hs)
       | (have hs := cF rfl hs)
       | exact (none_ne hs).elim)
noncomputable def lf_R22_Fire : List AV → Option AV := liftF (.pair (.pair (.pair .bool (.pair (.int .i64) .unit)) (.pair (.pair (.sl (.int .i64)) (.pair (.sl (.int .i64)) .unit)) (.pair (.int .i64) .unit))) .unit) (unpR (.pair (.pair (.pair .bool (.pair (.int .i64) .unit)) (.pair (.pair (.sl (.int .i64)) (.pair (.sl (.int .i64)) .unit)) (.pair (.int .i64) .unit))) (.pair (.sl (.int .i64)) (.pair (.int .i64) .unit)))) (fun x => R22_Fire x.1)
def tt_R22_Fire : List (Nat × Ty) := [(3, .int .i64), (4, .bool), (24, .sl (.int .i64)), (26, .pair (.sl (.int .i64)) (.pair (.sl (.int .i64)) .unit)), (28, .pair (.pair .bool (.pair (.int .i64) .unit)) (.pair (.pair (.sl (.int .i64)) (.pair (.sl (.int .i64)) .unit)) (.pair (.int .i64) .unit)))]
def et_R22_Fire : List (Nat × Nat) := [(24, 3)]
theorem tt_R22_Fire_ok : subT tt tt_R22_Fire = true := by kernel_rfl
theorem et_R22_Fire_ok : subE et et_R22_Fire = true := by kernel_rfl
def kp_R22_Fire : List (Nat × List Nat) := [(0, [1, 2]), (1, [1, 2, 10]), (2, [2, 3, 4]), (3, [1, 2, 14]), (4, [2, 3, 4]), (5, [1, 2, 5, 6]), (6, [1, 2, 6]), (7, [1, 2, 6]), (8, [2, 3, 4]), (4000000, [1, 2]), (4000001, [1, 2]), (4000002, [2]), (4000003, [1, 2]), (4000004, [2]), (4000005, [1, 2, 5]), (4000006, [1, 2]), (4000007, [1, 2]), (4000008, [2])]
def od_R22_Fire : List (Nat × Ord) := []
noncomputable def E_R22_Fire (fns : List (Nat × (List AV → Option AV))) : Env := ⟨0, 0, et_R22_Fire, tt_R22_Fire, fns, [], od_R22_Fire, kp_R22_Fire, none, []⟩
set_option maxRecDepth 100000 in
set_option maxHeartbeats 40000000 in
theorem c_R22_Fire : PCon Go.Proofs.Tryd.prog 15 lf_R22_Fire := by
  obtain ⟨G17, hG17, cG17⟩ : ∃ G : ((.pair (.pair (.pair .bool (.pair (.int .i64) .unit)) (.pair (.pair (.sl (.int .i64)) (.pair (.sl (.int .i64)) .unit)) (.pair (.int .i64) .unit))) .unit) : Ty).den → Option Bool, (∀ x, G x = R22_Ready x.1) ∧ PCon Go.Proofs.Tryd.prog 17 (liftF (.pair (.pair (.pair .bool (.pair (.int .i64) .unit)) (.pair (.pair (.sl (.int .i64)) (.pair (.sl (.int .i64)) .unit)) (.pair (.int .i64) .unit))) .unit) (unpack .bool) G) := ⟨_, fun _ => rfl, c_R22_Ready⟩
  obtain ⟨G32, hG32, cG32⟩ : ∃ G : ((.pair (.pair (.pair .bool (.pair (.int .i64) .unit)) (.pair (.pair (.sl (.int .i64)) (.pair (.sl (.int .i64)) .unit)) (.pair (.int .i64) .unit))) .unit) : Ty).den → Option Bool, (∀ x, G x = R22_Fine x.1) ∧ PCon Go.Proofs.Tryd.prog 32 (liftF (.pair (.pair (.pair .bool (.pair (.int .i64) .unit)) (.pair (.pair (.sl (.int .i64)) (.pair (.sl (.int .i64)) .unit)) (.pair (.int .i64) .unit))) .unit) (unpack .bool) G) := ⟨_, fun _ => rfl, c_R22_Fine⟩
  obtain ⟨G63, hG63, cG63⟩ : ∃ G : ((.pair (.pair (.sl (.int .i64)) (.pair (.sl (.int .i64)) .unit)) .unit) : Ty).den → Option (((List Int) × (List Int) × Unit) × (List Int) × Int × Unit), (∀ x, G x = R21_Fire x.1) ∧ PCon Go.Proofs.Tryd.prog 63 (liftF (.pair (.pair (.sl (.int .i64)) (.pair (.sl (.int .i64)) .unit)) .unit) (unpR (.pair (.pair (.sl (.int .i64)) (.pair (.sl (.int .i64)) .unit)) (.pair (.sl (.int .i64)) (.pair (.int .i64) .unit)))) G) := ⟨_, fun _ => rfl, c_R21_Fire⟩
  obtain ⟨fns, hfns, hf⟩ : ∃ fns, fns = [(17, liftF (.pair (.pair (.pair .bool (.pair (.int .i64) .unit)) (.pair (.pair (.sl (.int .i64)) (.pair (.sl (.int .i64)) .unit)) (.pair (.int .i64) .unit))) .unit) (unpack .bool) G17), (32, liftF (.pair (.pair (.pair .bool (.pair (.int .i64) .unit)) (.pair (.pair (.sl (.int .i64)) (.pair (.sl (.int .i64)) .unit)) (.pair (.int .i64) .unit))) .unit) (unpack .bool) G32), (63, liftF (.pair (.pair (.sl (.int .i64)) (.pair (.sl (.int .i64)) .unit)) .unit) (unpR (.pair (.pair (.sl (.int .i64)) (.pair (.sl (.int .i64)) .unit)) (.pair (.sl (.int .i64)) (.pair (.int .i64) .unit)))) G63)] ∧ FnsOk Go.Proofs.Tryd.prog fns := ⟨_, rfl, FnsOk.cons cG17 (FnsOk.cons cG32 (FnsOk.cons cG63 (FnsOk.nil _)))⟩
  refine lift_con (E := E_R22_Fire fns) (c := bodyOf Tryd.f15) (nt := 31) (rs := [.cell 2 28, .tmp 3, .tmp 4]) (ts := [28, 24, 3]) (EnvC.sub tt_ok et_ok hf (PrsOk.nil _) (ItsOk.nil _) tt_R22_Fire_ok et_R22_Fire_ok) (PrOk.of mixed_ok) Go.Proofs.Tryd.func15 rfl (by decide) rfl rfl rfl (pureR_many (e := (.pair (.pair (.pair .bool (.pair (.int .i64) .unit)) (.pair (.pair (.sl (.int .i64)) (.pair (.sl (.int .i64)) .unit)) (.pair (.int .i64) .unit))) (.pair (.sl (.int .i64)) (.pair (.int .i64) .unit)))) rfl) ?_
  subst hfns
  intro x r hw hs
  repeat'
    (try (conv => whnf)
     first
       | (with_reducible have hs := letv_out hs)
       | (refine draw_and (by kernel_rfl) ?_)
       | (refine both_mk ?_ ?_)
       | (refine br_bool (fun h => ?_) (fun h => ?_) <;> first | have hs := cT h hs | have hs := cF h hs)
       | (refine bind_elim hs fun v hb hs => ?_; first | refine callK_liftG hG17 rfl hb ?_ | refine callK_liftG hG32 rfl hb ?_ | refine callK_liftG hG63 rfl hb ?_)
       | refine chk_elim hs fun hs => ?_
       | (have hs := letv_out hs)
       | exact fin_some hs rfl
       | (intro b hb; first | have hs := nilq_elim hs b hb | have hs := nilqn_elim hs b hb)
       | (have hs := cT rfl hs)
       | (have hs := cF rfl hs)
       | exact (none_ne hs).elim)
noncomputable def lf_R22_Check : List AV → Option AV := liftF (.pair (.pair .bool (.pair (.int .i64) .unit)) .unit) (unpack (.int .i64)) (fun x => R22_Check x.1)
def tt_R22_Check : List (Nat × Ty) := [(3, .int .i64), (23, .pair .bool (.pair (.int .i64) .unit))]
def et_R22_Check : List (Nat × Nat) := []
theorem tt_R22_Check_ok : subT tt tt_R22_Check = true := by kernel_rfl
theorem et_R22_Check_ok : subE et et_R22_Check = true := by kernel_rfl
def kp_R22_Check : List (Nat × List Nat) := [(0, [1]), (1, [10]), (2, [2]), (3, [2]), (4000000, [1]), (4000001, []), (4000002, []), (4000003, [])]
def od_R22_Check : List (Nat × Ord) := []
noncomputable def E_R22_Check (fns : List (Nat × (List AV → Option AV))) : Env := ⟨0, 0, et_R22_Check, tt_R22_Check, fns, [], od_R22_Check, kp_R22_Check, none, []⟩
set_option maxRecDepth 100000 in
set_option maxHeartbeats 40000000 in
theorem c_R22_Check : PCon Go.Proofs.Tryd.prog 34 lf_R22_Check := by
  obtain ⟨fns, hfns, hf⟩ : ∃ fns, fns = [] ∧ FnsOk Go.Proofs.Tryd.prog fns := ⟨_, rfl, FnsOk.nil _⟩
  refine lift_con (E := E_R22_Check fns) (c := bodyOf Tryd.f34) (nt := 11) (rs := [.tmp 2]) (ts := [3]) (EnvC.sub tt_ok et_ok hf (PrsOk.nil _) (ItsOk.nil _) tt_R22_Check_ok et_R22_Check_ok) (PrOk.of mixed_ok) Go.Proofs.Tryd.func34 rfl (by decide) rfl rfl rfl (pureR_one (e := (.int .i64)) rfl) ?_
  subst hfns
  intro x r hw hs
  repeat'
    (try (conv => whnf)
     first
       | (with_reducible have hs := letv_out hs)
       | (refine draw_and (by kernel_rfl) ?_)
       | (refine both_mk ?_ ?_)
       | (refine br_bool (fun h => ?_) (fun h => ?_) <;> first | have hs := cT h hs | have hs := cF h hs)
       | refine chk_elim hs fun hs => ?_
       | (have hs := letv_out hs)
       | exact fin_some hs rfl
       | (intro b hb; first | have hs := nilq_elim hs b hb | have hs := nilqn_elim hs b hb)
       | (have hs := cT rfl hs)
       | (have hs := cF rfl hs)
       | exact (none_ne hs).elim)
noncomputable def lf_R22_New : List AV → Option AV := liftF (.pair (.pair .bool (.pair (.int .i64) .unit)) .unit) (unpR (.pair (.pair (.pair .bool (.pair (.int .i64) .unit)) (.pair (.pair (.sl (.int .i64)) (.pair (.sl (.int .i64)) .unit)) (.pair (.int .i64) .unit))) (.pair (.int .i64) .unit))) (fun x => R22_New x.1)
def tt_R22_New : List (Nat × Ty) := [(3, .int .i64), (23, .pair .bool (.pair (.int .i64) .unit)), (28, .pair (.pair .bool (.pair (.int .i64) .unit)) (.pair (.pair (.sl (.int .i64)) (.pair (.sl (.int .i64)) .unit)) (.pair (.int .i64) .unit)))]
def et_R22_New : List (Nat × Nat) := []
theorem tt_R22_New_ok : subT tt tt_R22_New = true := by kernel_rfl
theorem et_R22_New_ok : subE et et_R22_New = true := by kernel_rfl
def kp_R22_New : List (Nat × List Nat) := [(0, [1, 2]), (1, [1, 2, 4]), (2, [1, 2, 4, 8]), (3, [2, 3]), (4, [2, 3]), (4000000, [1, 2]), (4000001, [1, 2]), (4000002, [1, 2]), (4000003, [2]), (4000004, [2])]
def od_R22_New : List (Nat × Ord) := []
noncomputable def E_R22_New (fns : List (Nat × (List AV → Option AV))) : Env := ⟨0, 0, et_R22_New, tt_R22_New, fns, [], od_R22_New, kp_R22_New, none, []⟩
set_option maxRecDepth 100000 in
set_option maxHeartbeats 40000000 in
theorem c_R22_New : PCon Go.Proofs.Tryd.prog 22 lf_R22_New := by
  obtain ⟨G34, hG34, cG34⟩ : ∃ G : ((.pair (.pair .bool (.pair (.int .i64) .unit)) .unit) : Ty).den → Option Int, (∀ x, G x = R22_Check x.1) ∧ PCon Go.Proofs.Tryd.prog 34 (liftF (.pair (.pair .bool (.pair (.int .i64) .unit)) .unit) (unpack (.int .i64)) G) := ⟨_, fun _ => rfl, c_R22_Check⟩
  obtain ⟨fns, hfns, hf⟩ : ∃ fns, fns = [(34, liftF (.pair (.pair .bool (.pair (.int .i64) .unit)) .unit) (unpack (.int .i64)) G34)] ∧ FnsOk Go.Proofs.Tryd.prog fns := ⟨_, rfl, FnsOk.cons cG34 (FnsOk.nil _)⟩
  refine lift_con (E := E_R22_New fns) (c := bodyOf Tryd.f22) (nt := 13) (rs := [.cell 2 28, .tmp 3]) (ts := [28, 3]) (EnvC.sub tt_ok et_ok hf (PrsOk.nil _) (ItsOk.nil _) tt_R22_New_ok et_R22_New_ok) (PrOk.of mixed_ok) Go.Proofs.Tryd.func22 rfl (by decide) rfl rfl rfl (pureR_many (e := (.pair (.pair (.pair .bool (.pair (.int .i64) .unit)) (.pair (.pair (.sl (.int .i64)) (.pair (.sl (.int .i64)) .unit)) (.pair (.int .i64) .unit))) (.pair (.int .i64) .unit))) rfl) ?_
  subst hfns
  intro x r hw hs
  repeat'
    (try (conv => whnf)
     first
       | (with_reducible have hs := letv_out hs)
       | (refine draw_and (by kernel_rfl) ?_)
       | (refine both_mk ?_ ?_)
       | (refine br_bool (fun h => ?_) (fun h => ?_) <;> first | have hs := cT h hs | have hs := cF h hs)
       | (refine bind_elim hs fun v hb hs => ?_; first | refine callK_liftG hG34 rfl hb ?_)
       | refine chk_elim hs fun hs => ?_
       | (have hs := letv_out hs)
       | exact fin_some hs rfl
       | (intro b hb; first | have hs := nilq_elim hs b hb | have hs := nilqn_elim hs b hb)
       | (have hs := cT rfl hs)
       | (have hs := cF rfl hs)
       | exact (none_ne hs).elim)
noncomputable def lf_R22_Enrol : List AV → Option AV := liftF (.pair (.pair (.pair .bool (.pair (.int .i64) .unit)) (.pair (.pair (.sl (.int .i64)) (.pair (.sl (.int .i64)) .unit)) (.pair (.int .i64) .unit))) (.pair (.int .i64) .unit)) (unpR (.pair (.pair (.pair .bool (.pair (.int .i64) .unit)) (.pair (.pair (.sl (.int .i64)) (.pair (.sl (.int .i64)) .unit)) (.pair (.int .i64) .unit))) (.pair (.int .i64) .unit))) (fun x => R22_Enrol x.1 x.2.1)
def tt_R22_Enrol : List (Nat × Ty) := [(3, .int .i64), (4, .bool), (26, .pair (.sl (.int .i64)) (.pair (.sl (.int .i64)) .unit)), (28, .pair (.pair .bool (.pair (.int .i64) .unit)) (.pair (.pair (.sl (.int .i64)) (.pair (.sl (.int .i64)) .unit)) (.pair (.int .i64) .unit)))]
def et_R22_Enrol : List (Nat × Nat) := []
theorem tt_R22_Enrol_ok : subT tt tt_R22_Enrol = true := by kernel_rfl
theorem et_R22_Enrol_ok : subE et et_R22_Enrol = true := by kernel_rfl
def kp_R22_Enrol : List (Nat × List Nat) := [(0, [1, 2, 4]), (1, [1, 2, 4, 10]), (2, [4, 5]), (3, [2, 4, 6, 7]), (4, [2, 4, 7]), (5, [4, 5]), (4000000, [2, 4]), (4000001, [2, 4]), (4000002, [4]), (4000003, [2, 4, 6]), (4000004, [2, 4]), (4000005, [4])]
def od_R22_Enrol : List (Nat × Ord) := []
noncomputable def E_R22_Enrol (fns : List (Nat × (List AV → Option AV))) : Env := ⟨0, 0, et_R22_Enrol, tt_R22_Enrol, fns, [], od_R22_Enrol, kp_R22_Enrol, none, []⟩
set_option maxRecDepth 100000 in
set_option maxHeartbeats 40000000 in
theorem c_R22_Enrol : PCon Go.Proofs.Tryd.prog 24 lf_R22_Enrol := by
  obtain ⟨G32, hG32, cG32⟩ : ∃ G : ((.pair (.pair (.pair .bool (.pair (.int .i64) .unit)) (.pair (.pair (.sl (.int .i64)) (.pair (.sl (.int .i64)) .unit)) (.pair (.int .i64) .unit))) .unit) : Ty).den → Option Bool, (∀ x, G x = R22_Fine x.1) ∧ PCon Go.Proofs.Tryd.prog 32 (liftF (.pair (.pair (.pair .bool (.pair (.int .i64) .unit)) (.pair (.pair (.sl (.int .i64)) (.pair (.sl (.int .i64)) .unit)) (.pair (.int .i64) .unit))) .unit) (unpack .bool) G) := ⟨_, fun _ => rfl, c_R22_Fine⟩
  obtain ⟨G71, hG71, cG71⟩ : ∃ G : ((.pair (.pair (.sl (.int .i64)) (.pair (.sl (.int .i64)) .unit)) (.pair (.int .i64) .unit)) : Ty).den → Option (((List Int) × (List Int) × Unit) × Int × Unit), (∀ x, G x = R21_Enrol x.1 x.2.1) ∧ PCon Go.Proofs.Tryd.prog 71 (liftF (.pair (.pair (.sl (.int .i64)) (.pair (.sl (.int .i64)) .unit)) (.pair (.int .i64) .unit)) (unpR (.pair (.pair (.sl (.int .i64)) (.pair (.sl (.int .i64)) .unit)) (.pair (.int .i64) .unit))) G) := ⟨_, fun _ => rfl, c_R21_Enrol⟩
  obtain ⟨fns, hfns, hf⟩ : ∃ fns, fns = [(32, liftF (.pair (.pair (.pair .bool (.pair (.int .i64) .unit)) (.pair (.pair (.sl (.int .i64)) (.pair (.sl (.int .i64)) .unit)) (.pair (.int .i64) .unit))) .unit) (unpack .bool) G32), (71, liftF (.pair (.pair (.sl (.int .i64)) (.pair (.sl (.int .i64)) .unit)) (.pair (.int .i64) .unit)) (unpR (.pair (.pair (.sl (.int .i64)) (.pair (.sl (.int .i64)) .unit)) (.pair (.int .i64) .unit))) G71)] ∧ FnsOk Go.Proofs.Tryd.prog fns := ⟨_, rfl, FnsOk.cons cG32 (FnsOk.cons cG71 (FnsOk.nil _))⟩
  refine lift_con (E := E_R22_Enrol fns) (c := bodyOf Tryd.f24) (nt := 23) (rs := [.cell 4 28, .tmp 5]) (ts := [28, 3]) (EnvC.sub tt_ok et_ok hf (PrsOk.nil _) (ItsOk.nil _) tt_R22_Enrol_ok et_R22_Enrol_ok) (PrOk.of mixed_ok) Go.Proofs.Tryd.func24 rfl (by decide) rfl rfl rfl (pureR_many (e := (.pair (.pair (.pair .bool (.pair (.int .i64) .unit)) (.pair (.pair (.sl (.int .i64)) (.pair (.sl (.int .i64)) .unit)) (.pair (.int .i64) .unit))) (.pair (.int .i64) .unit))) rfl) ?_
  subst hfns
  intro x r hw hs
  repeat'
    (try (conv => whnf)
     first
       | (with_reducible have hs := letv_out hs)
       | (refine draw_and (by kernel_rfl) ?_)
       | (refine both_mk ?_ ?_)
       | (refine br_bool (fun h => ?_) (fun h => ?_) <;> first | have hs := cT h hs | have hs := cF h hs)
       | (refine bind_elim hs fun v hb hs => ?_; first | refine callK_liftG hG32 rfl hb ?_ | refine callK_liftG hG71 rfl hb ?_)
       | refine chk_elim hs fun hs => ?_
       | (have hs := letv_out hs)
       | exact fin_some hs rfl
       | (intro b hb; first | have hs := nilq_elim hs b hb | have hs := nilqn_elim hs b hb)
       | (have hs := cT rfl hs)
       | (have hs := cF rfl hs)
       | exact (none_ne hs).elim)
noncomputable def lf_R22_Resign : List AV → Option AV := liftF (.pair (.pair (.pair .bool (.pair (.int .i64) .unit)) (.pair (.pair (.sl (.int .i64)) (.pair (.sl (.int .i64)) .unit)) (.pair (.int .i64) .unit))) (.pair (.int .i64) .unit)) (unpR (.pair (.pair (.pair .bool (.pair (.int .i64) .unit)) (.pair (.pair (.sl (.int .i64)) (.pair (.sl (.int .i64)) .unit)) (.pair (.int .i64) .unit))) (.pair (.int .i64) .unit))) (fun x => R22_Resign x.1 x.2.1)
def tt_R22_Resign : List (Nat × Ty) := [(3, .int .i64), (4, .bool), (26, .pair (.sl (.int .i64)) (.pair (.sl (.int .i64)) .unit)), (28, .pair (.pair .bool (.pair (.int .i64) .unit)) (.pair (.pair (.sl (.int .i64)) (.pair (.sl (.int .i64)) .unit)) (.pair (.int .i64) .unit)))]
def et_R22_Resign : List (Nat × Nat) := []
theorem tt_R22_Resign_ok : subT tt tt_R22_Resign = true := by kernel_rfl
theorem et_R22_Resign_ok : subE et et_R22_Resign = true := by kernel_rfl
def kp_R22_Resign : List (Nat × List Nat) := [(0, [1, 2, 4]), (1, [1, 2, 4, 10]), (2, [4, 5]), (3, [2, 4, 6, 7]), (4, [2, 4, 7]), (5, [4, 5]), (4000000, [2, 4]), (4000001, [2, 4]), (4000002, [4]), (4000003, [2, 4, 6]), (4000004, [2, 4]), (4000005, [4])]
def od_R22_Resign : List (Nat × Ord) := []
noncomputable def E_R22_Resign (fns : List (Nat × (List AV → Option AV))) : Env := ⟨0, 0, et_R22_Resign, tt_R22_Resign, fns, [], od_R22_Resign, kp_R22_Resign, none, []⟩
set_option maxRecDepth 100000 in
set_option maxHeartbeats 40000000 in
theorem c_R22_Resign : PCon Go.Proofs.Tryd.prog 26 lf_R22_Resign := by
  obtain ⟨G32, hG32, cG32⟩ : ∃ G : ((.pair (.pair (.pair .bool (.pair (.int .i64) .unit)) (.pair (.pair (.sl (.int .i64)) (.pair (.sl (.int .i64)) .unit)) (.pair (.int .i64) .unit))) .unit) : Ty).den → Option Bool, (∀ x, G x = R22_Fine x.1) ∧ PCon Go.Proofs.Tryd.prog 32 (liftF (.pair (.pair (.pair .bool (.pair (.int .i64) .unit)) (.pair (.pair (.sl (.int .i64)) (.pair (.sl (.int .i64)) .unit)) (.pair (.int .i64) .unit))) .unit) (unpack .bool) G) := ⟨_, fun _ => rfl, c_R22_Fine⟩
  obtain ⟨G73, hG73, cG73⟩ : ∃ G : ((.pair (.pair (.sl (.int .i64)) (.pair (.sl (.int .i64)) .unit)) (.pair (.int .i64) .unit)) : Ty).den → Option (((List Int) × (List Int) × Unit) × Int × Unit), (∀ x, G x = R21_Resign x.1 x.2.1) ∧ PCon Go.Proofs.Tryd.prog 73 (liftF (.pair (.pair (.sl (.int .i64)) (.pair (.sl (.int .i64)) .unit)) (.pair (.int .i64) .unit)) (unpR (.pair (.pair (.sl (.int .i64)) (.pair (.sl (.int .i64)) .unit)) (.pair (.int .i64) .unit))) G) := ⟨_, fun _ => rfl, c_R21_Resign⟩
  obtain ⟨fns, hfns, hf⟩ : ∃ fns, fns = [(32, liftF (.pair (.pair (.pair .bool (.pair (.int .i64) .unit)) (.pair (.pair (.sl (.int .i64)) (.pair (.sl (.int .i64)) .unit)) (.pair (.int .i64) .unit))) .unit) (unpack .bool) G32), (73, liftF (.pair (.pair (.sl (.int .i64)) (.pair (.sl (.int .i64)) .unit)) (.pair (.int .i64) .unit)) (unpR (.pair (.pair (.sl (.int .i64)) (.pair (.sl (.int .i64)) .unit)) (.pair (.int .i64) .unit))) G73)] ∧ FnsOk Go.Proofs.Tryd.prog fns := ⟨_, rfl, FnsOk.cons cG32 (FnsOk.cons cG73 (FnsOk.nil _))⟩
  refine lift_con (E := E_R22_Resign fns) (c := bodyOf Tryd.f26) (nt := 23) (rs := [.cell 4 28, .tmp 5]) (ts := [28, 3]) (EnvC.sub tt_ok et_ok hf (PrsOk.nil _) (ItsOk.nil _) tt_R22_Resign_ok et_R22_Resign_ok) (PrOk.of mixed_ok) Go.Proofs.Tryd.func26 rfl (by decide) rfl rfl rfl (pureR_many (e := (.pair (.pair (.pair .bool (.pair (.int .i64) .unit)) (.pair (.pair (.sl (.int .i64)) (.pair (.sl (.int .i64)) .unit)) (.pair (.int .i64) .unit))) (.pair (.int .i64) .unit))) rfl) ?_
  subst hfns
  intro x r hw hs
  repeat'
    (try (conv => whnf)
     first
       | (with_reducible have hs := letv_out hs)
       | (refine draw_and (by kernel_rfl) ?_)
       | (refine both_mk ?_ ?_)
       | (refine br_bool (fun h => ?_) (fun h => ?_) <;> first | have hs := cT h hs | have hs := cF h hs)
       | (refine bind_elim hs fun v hb hs => ?_; first | refine callK_liftG hG32 rfl hb ?_ | refine callK_liftG hG73 rfl hb ?_)
       | refine chk_elim hs fun hs => ?_
       | (have hs := letv_out hs)
       | exact fin_some hs rfl
       | (intro b hb; first | have hs := nilq_elim hs b hb | have hs := nilqn_elim hs b hb)
       | (have hs := cT rfl hs)
       | (have hs := cF rfl hs)
       | exact (none_ne hs).elim)
noncomputable def lf_R22_Offer : List AV → Option AV := liftF (.pair (.pair (.pair .bool (.pair (.int .i64) .unit)) (.pair (.pair (.sl (.int .i64)) (.pair (.sl (.int .i64)) .unit)) (.pair (.int .i64) .unit))) (.pair (.int .i64) (.pair .bool .unit))) (unpR (.pair (.pair (.pair .bool (.pair (.int .i64) .unit)) (.pair (.pair (.sl (.int .i64)) (.pair (.sl (.int .i64)) .unit)) (.pair (.int .i64) .unit))) (.pair (.int .i64) .unit))) (fun x => R22_Offer x.1 x.2.1 x.2.2.1)
def tt_R22_Offer : List (Nat × Ty) := [(3, .int .i64), (4, .bool), (23, .pair .bool (.pair (.int .i64) .unit)), (26, .pair (.sl (.int .i64)) (.pair (.sl (.int .i64)) .unit)), (28, .pair (.pair .bool (.pair (.int .i64) .unit)) (.pair (.pair (.sl (.int .i64)) (.pair (.sl (.int .i64)) .unit)) (.pair (.int .i64) .unit)))]
def et_R22_Offer : List (Nat × Nat) := []
theorem tt_R22_Offer_ok : subT tt tt_R22_Offer = true := by kernel_rfl
theorem et_R22_Offer_ok : subE et et_R22_Offer = true := by kernel_rfl
def kp_R22_Offer : List (Nat × List Nat) := [(0, [1, 2, 3, 6]), (1, [1, 2, 3, 6, 12]), (2, [6, 7]), (3, [1, 3, 6, 20]), (4, [6, 7]), (5, [1, 3, 6, 27]), (6, [6, 7]), (7, [3, 6, 8, 9]), (8, [3, 6, 9]), (9, [6, 7]), (4000000, [3, 6]), (4000001, [3, 6]), (4000002, [6]), (4000003, [3, 6]), (4000004, [6]), (4000005, [3, 6]), (4000006, [6]), (4000007, [3, 6, 8]), (4000008, [3, 6]), (4000009, [6])]
def od_R22_Offer : List (Nat × Ord) := []
noncomputable def E_R22_Offer (fns : List (Nat × (List AV → Option AV))) : Env := ⟨0, 0, et_R22_Offer, tt_R22_Offer, fns, [], od_R22_Offer, kp_R22_Offer, none, []⟩
set_option maxRecDepth 100000 in
set_option maxHeartbeats 40000000 in
theorem c_R22_Offer : PCon Go.Proofs.Tryd.prog 28 lf_R22_Offer := by
  obtain ⟨G32, hG32, cG32⟩ : ∃ G : ((.pair (.pair (.pair .bool (.pair (.int .i64) .unit)) (.pair (.pair (.sl (.int .i64)) (.pair (.sl (.int .i64)) .unit)) (.pair (.int .i64) .unit))) .unit) : Ty).den → Option Bool, (∀ x, G x = R22_Fine x.1) ∧ PCon Go.Proofs.Tryd.prog 32 (liftF (.pair (.pair (.pair .bool (.pair (.int .i64) .unit)) (.pair (.pair (.sl (.int .i64)) (.pair (.sl (.int .i64)) .unit)) (.pair (.int .i64) .unit))) .unit) (unpack .bool) G) := ⟨_, fun _ => rfl, c_R22_Fine⟩
  obtain ⟨G75, hG75, cG75⟩ : ∃ G : ((.pair (.pair (.sl (.int .i64)) (.pair (.sl (.int .i64)) .unit)) (.pair (.int .i64) .unit)) : Ty).den → Option (((List Int) × (List Int) × Unit) × Int × Unit), (∀ x, G x = R21_Offer x.1 x.2.1) ∧ PCon Go.Proofs.Tryd.prog 75 (liftF (.pair (.pair (.sl (.int .i64)) (.pair (.sl (.int .i64)) .unit)) (.pair (.int .i64) .unit)) (unpR (.pair (.pair (.sl (.int .i64)) (.pair (.sl (.int .i64)) .unit)) (.pair (.int .i64) .unit))) G) := ⟨_, fun _ => rfl, c_R21_Offer⟩
  obtain ⟨fns, hfns, hf⟩ : ∃ fns, fns = [(32, liftF (.pair (.pair (.pair .bool (.pair (.int .i64) .unit)) (.pair (.pair (.sl (.int .i64)) (.pair (.sl (.int .i64)) .unit)) (.pair (.int .i64) .unit))) .unit) (unpack .bool) G32), (75, liftF (.pair (.pair (.sl (.int .i64)) (.pair (.sl (.int .i64)) .unit)) (.pair (.int .i64) .unit)) (unpR (.pair (.pair (.sl (.int .i64)) (.pair (.sl (.int .i64)) .unit)) (.pair (.int .i64) .unit))) G75)] ∧ FnsOk Go.Proofs.Tryd.prog fns := ⟨_, rfl, FnsOk.cons cG32 (FnsOk.cons cG75 (FnsOk.nil _))⟩
  refine lift_con (E := E_R22_Offer fns) (c := bodyOf Tryd.f28) (nt := 40) (rs := [.cell 6 28, .tmp 7]) (ts := [28, 3]) (EnvC.sub tt_ok et_ok hf (PrsOk.nil _) (ItsOk.nil _) tt_R22_Offer_ok et_R22_Offer_ok) (PrOk.of mixed_ok) Go.Proofs.Tryd.func28 rfl (by decide) rfl rfl rfl (pureR_many (e := (.pair (.pair (.pair .bool (.pair (.int .i64) .unit)) (.pair (.pair (.sl (.int .i64)) (.pair (.sl (.int .i64)) .unit)) (.pair (.int .i64) .unit))) (.pair (.int .i64) .unit))) rfl) ?_
  subst hfns
  intro x r hw hs
  repeat'
    (try (conv => whnf)
     first
       | (with_reducible have hs := letv_out hs)
       | (refine draw_and (by kernel_rfl) ?_)
       | (refine both_mk ?_ ?_)
       | (refine br_bool (fun h => ?_) (fun h => ?_) <;> first | have hs := cT h hs | have hs := cF h hs)
       | (refine bind_elim hs fun v hb hs => ?_; first | refine callK_liftG hG32 rfl hb ?_ | refine callK_liftG hG75 rfl hb ?_)
       | refine chk_elim hs fun hs => ?_
       | (have hs := letv_out hs)
       | exact fin_some hs rfl
       | (intro b hb; first | have hs := nilq_elim hs b hb | have hs := nilqn_elim hs b hb)
       | (have hs := cT rfl hs)
       | (have hs := cF rfl hs)
       | exact (none_ne hs).elim)
noncomputable def lf_R22_Withdraw : List AV → Option AV := liftF (.pair (.pair (.pair .bool (.pair (.int .i64) .unit)) (.pair (.pair (.sl (.int .i64)) (.pair (.sl (.int .i64)) .unit)) (.pair (.int .i64) .unit))) (.pair (.int .i64) .unit)) (unpack (.pair (.pair .bool (.pair (.int .i64) .unit)) (.pair (.pair (.sl (.int .i64)) (.pair (.sl (.int .i64)) .unit)) (.pair (.int .i64) .unit)))) (fun x => R22_Withdraw x.1 x.2.1)
def tt_R22_Withdraw : List (Nat × Ty) := [(3, .int .i64), (4, .bool), (26, .pair (.sl (.int .i64)) (.pair (.sl (.int .i64)) .unit)), (28, .pair (.pair .bool (.pair (.int .i64) .unit)) (.pair (.pair (.sl (.int .i64)) (.pair (.sl (.int .i64)) .unit)) (.pair (.int .i64) .unit)))]
def et_R22_Withdraw : List (Nat × Nat) := []
theorem tt_R22_Withdraw_ok : subT tt tt_R22_Withdraw = true := by kernel_rfl
theorem et_R22_Withdraw_ok : subE et et_R22_Withdraw = true := by kernel_rfl
def kp_R22_Withdraw : List (Nat × List Nat) := [(0, [1, 2, 4]), (1, [1, 2, 4, 9]), (2, [4]), (3, [2, 4, 5]), (4, [2, 4]), (5, [4]), (4000000, [2, 4]), (4000001, [2, 4]), (4000002, [4]), (4000003, [2, 4, 5]), (4000004, [2, 4]), (4000005, [4])]
def od_R22_Withdraw : List (Nat × Ord) := []
noncomputable def E_R22_Withdraw (fns : List (Nat × (List AV → Option AV))) : Env := ⟨0, 0, et_R22_Withdraw, tt_R22_Withdraw, fns, [], od_R22_Withdraw, kp_R22_Withdraw, none, []⟩
set_option maxRecDepth 100000 in
set_option maxHeartbeats 40000000 in
theorem c_R22_Withdraw : PCon Go.Proofs.Tryd.prog 30 lf_R22_Withdraw := by
  obtain ⟨G32, hG32, cG32⟩ : ∃ G : ((.pair (.pair (.pair .bool (.pair (.int .i64) .unit)) (.pair (.pair (.sl (.int .i64)) (.pair (.sl (.int .i64)) .unit)) (.pair (.int .i64) .unit))) .unit) : Ty).den → Option Bool, (∀ x, G x = R22_Fine x.1) ∧ PCon Go.Proofs.Tryd.prog 32 (liftF (.pair (.pair (.pair .bool (.pair (.int .i64) .unit)) (.pair (.pair (.sl (.int .i64)) (.pair (.sl (.int .i64)) .unit)) (.pair (.int .i64) .unit))) .unit) (unpack .bool) G) := ⟨_, fun _ => rfl, c_R22_Fine⟩
  obtain ⟨G77, hG77, cG77⟩ : ∃ G : ((.pair (.pair (.sl (.int .i64)) (.pair (.sl (.int .i64)) .unit)) (.pair (.int .i64) .unit)) : Ty).den → Option (((List Int) × (List Int) × Unit) × Bool × Unit), (∀ x, G x = R21_Withdraw x.1 x.2.1) ∧ PCon Go.Proofs.Tryd.prog 77 (liftF (.pair (.pair (.sl (.int .i64)) (.pair (.sl (.int .i64)) .unit)) (.pair (.int .i64) .unit)) (unpR (.pair (.pair (.sl (.int .i64)) (.pair (.sl (.int .i64)) .unit)) (.pair .bool .unit))) G) := ⟨_, fun _ => rfl, c_R21_Withdraw⟩
  obtain ⟨fns, hfns, hf⟩ : ∃ fns, fns = [(32, liftF (.pair (.pair (.pair .bool (.pair (.int .i64) .unit)) (.pair (.pair (.sl (.int .i64)) (.pair (.sl (.int .i64)) .unit)) (.pair (.int .i64) .unit))) .unit) (unpack .bool) G32), (77, liftF (.pair (.pair (.sl (.int .i64)) (.pair (.sl (.int .i64)) .unit)) (.pair (.int .i64) .unit)) (unpR (.pair (.pair (.sl (.int .i64)) (.pair (.sl (.int .i64)) .unit)) (.pair .bool .unit))) G77)] ∧ FnsOk Go.Proofs.Tryd.prog fns := ⟨_, rfl, FnsOk.cons cG32 (FnsOk.cons cG77 (FnsOk.nil _))⟩
  refine lift_con (E := E_R22_Withdraw fns) (c := bodyOf Tryd.f30) (nt := 21) (rs := [.cell 4 28]) (ts := [28]) (EnvC.sub tt_ok et_ok hf (PrsOk.nil _) (ItsOk.nil _) tt_R22_Withdraw_ok et_R22_Withdraw_ok) (PrOk.of mixed_ok) Go.Proofs.Tryd.func30 rfl (by decide) rfl rfl rfl (pureR_one (e := (.pair (.pair .bool (.pair (.int .i64) .unit)) (.pair (.pair (.sl (.int .i64)) (.pair (.sl (.int .i64)) .unit)) (.pair (.int .i64) .unit)))) rfl) ?_
  subst hfns
  intro x r hw hs
  repeat'
    (try (conv => whnf)
     first
       | (with_reducible have hs := letv_out hs)
       | (refine draw_and (by kernel_rfl) ?_)
       | (refine both_mk ?_ ?_)
       | (refine br_bool (fun h => ?_) (fun h => ?_) <;> first | have hs := cT h hs | have hs := cF h hs)
       | (refine bind_elim hs fun v hb hs => ?_; first | refine callK_liftG hG32 rfl hb ?_ | refine callK_liftG hG77 rfl hb ?_)
       | refine chk_elim hs fun hs => ?_
       | (have hs := letv_out hs)
       | exact fin_some hs rfl
       | (intro b hb; first | have hs := nilq_elim hs b hb | have hs := nilqn_elim hs b hb)
       | (have hs := cT rfl hs)
       | (have hs := cF rfl hs)
       | exact (none_ne hs).elim)
end Go.Proofs.YtkpobmmabmelfaaDoorV
