import Derived.Test.YtbkccpddkpclaaaVcTab
import Derived.Test.YtbkccpddkpclaaaDL19
import Derived.Test.YtbkccpddkpclaaaCL18
import Derived.Test.YtbkccpddkpclaaaCR02
import Derived.Test.YtbkccpddkpclaaaCR19
import Derived.Test.YtbkccpddkpclaaaCchannel
import Derived.Test.YtbkccpddkpclaaaCchantab
namespace Go.Proofs.YtbkccpddkpclaaaV
open Go.Proofs
set_option linter.unusedVariables false
noncomputable def lf_L19_Small : List AV → Option AV := liftF (.pair (.sl (.pair (.pair (.int .i64) (.pair (.int .i64) (.pair (.int .i64) (.pair (.int .i64) .unit)))) (.pair (.int .i64) (.pair (.sl (.int .i64)) (.pair (.pair .bool (.pair (.sl (.int .i64)) .unit)) (.pair (.sl (.int .i64)) (.pair (.pair .bool (.pair (.sl (.int .i64)) .unit)) .unit))))))) .unit) (unpack .bool) (fun x => L19_Small x.1)
def tt_L19_Small : List (Nat × Ty) := [(3, .int .i64), (4, .bool), (24, .sl (.int .i64)), (26, .pair .bool (.pair (.sl (.int .i64)) .unit)), (28, .pair (.pair (.int .i64) (.pair (.int .i64) (.pair (.int .i64) (.pair (.int .i64) .unit)))) (.pair (.int .i64) (.pair (.sl (.int .i64)) (.pair (.pair .bool (.pair (.sl (.int .i64)) .unit)) (.pair (.sl (.int .i64)) (.pair (.pair .bool (.pair (.sl (.int .i64)) .unit)) .unit)))))), (69, .sl (.pair (.pair (.int .i64) (.pair (.int .i64) (.pair (.int .i64) (.pair (.int .i64) .unit)))) (.pair (.int .i64) (.pair (.sl (.int .i64)) (.pair (.pair .bool (.pair (.sl (.int .i64)) .unit)) (.pair (.sl (.int .i64)) (.pair (.pair .bool (.pair (.sl (.int .i64)) .unit)) .unit)))))))]
def et_L19_Small : List (Nat × Nat) := [(24, 3), (69, 28)]
theorem tt_L19_Small_ok : subT tt tt_L19_Small = true := by kernel_rfl
theorem et_L19_Small_ok : subE et et_L19_Small = true := by kernel_rfl
def L19_Small_S1 (u0 : AV) (u1 : AV) (x1 : Int) : St :=
  ⟨[(8, u0), (9, u1), (10, .int .i64 x1)], [], none⟩
def L19_Small_M1 : Msk := ⟨[8, 9, 10], [], [], [], [], [], [], [], []⟩
noncomputable def E_L19_Small (fns : List (Nat × (List AV → Option AV))) : Env := ⟨0, 0, et_L19_Small, tt_L19_Small, fns, [], [], [(0, [0]), (1, [0, 7]), (2, [2]), (3, [8, 9, 10]), (4, [8, 9, 10, 11]), (5, [4, 8, 9, 10]), (6, [8, 9, 10, 37]), (7, [2]), (8, [8, 9, 10]), (9, [2]), (4000000, []), (4000001, []), (4000002, []), (4000003, []), (4000004, []), (4000005, [4]), (4000006, []), (4000007, []), (4000008, []), (4000009, [])], none, []⟩
set_option maxRecDepth 100000 in
set_option maxHeartbeats 40000000 in
theorem c_L19_Small : PCon Go.Proofs.Try.prog 35 lf_L19_Small := by
  obtain ⟨fns, hfns, hf⟩ : ∃ fns, fns = [] ∧ FnsOk Go.Proofs.Try.prog fns := ⟨_, rfl, FnsOk.nil _⟩
  refine lift_con (E := E_L19_Small fns) (c := bodyOf Try.f35) (nt := 39) (rs := [.tmp 2]) (ts := [4]) (EnvC.sub tt_ok et_ok hf (PrsOk.nil _) (ItsOk.nil _) tt_L19_Small_ok et_L19_Small_ok) (PrOk.of mixed_ok) Go.Proofs.Try.func35 rfl (by decide) rfl rfl rfl (pureR_one (e := .bool) rfl) ?_
  subst hfns
  intro x r hw hs
  repeat'
    (try (conv => whnf)
     first
       | (have hs := letv_out hs)
       | (refine draw_and (by kernel_rfl) ?_)
       | (refine both_mk ?_ ?_)
       | (refine br_bool (fun h => ?_) (fun h => ?_) <;> first | have hs := cT h hs | have hs := cF h hs)
       | refine chk_elim hs fun hs => ?_
       | exact fin_some hs rfl
       | (intro b hb; first | have hs := nilq_elim hs b hb | have hs := nilqn_elim hs b hb)
       | exact hJ1 _ hs
       | (have hs := cT rfl hs)
       | (have hs := cF rfl hs)
       | (refine vc_loop (L19_Small_S1 _ _) L19_Small_M1 hs rfl ?_; intro J1 k1 x1 hJ1 hs)
       | exact (none_ne hs).elim)
noncomputable def lf_L19_alive : List AV → Option AV := liftF .unit (unpack .bool) (fun x => L19_alive)
def tt_L19_alive : List (Nat × Ty) := [(3, .int .i64), (4, .bool), (23, .pair (.int .i64) (.pair (.int .i64) (.pair (.int .i64) (.pair (.int .i64) .unit)))), (24, .sl (.int .i64)), (31, .pair .bool (.pair (.sl (.int .i64)) .unit)), (33, .pair (.pair (.int .i64) (.pair (.int .i64) (.pair (.int .i64) (.pair (.int .i64) .unit)))) (.pair (.int .i64) (.pair (.sl (.int .i64)) (.pair (.pair .bool (.pair (.sl (.int .i64)) .unit)) (.pair (.sl (.int .i64)) (.pair (.pair .bool (.pair (.sl (.int .i64)) .unit)) .unit)))))), (35, .int .i64), (68, .sl (.pair (.int .i64) (.pair (.int .i64) (.pair (.int .i64) (.pair (.int .i64) .unit))))), (71, .sl (.pair (.pair (.int .i64) (.pair (.int .i64) (.pair (.int .i64) (.pair (.int .i64) .unit)))) (.pair (.int .i64) (.pair (.sl (.int .i64)) (.pair (.pair .bool (.pair (.sl (.int .i64)) .unit)) (.pair (.sl (.int .i64)) (.pair (.pair .bool (.pair (.sl (.int .i64)) .unit)) .unit))))))), (76, .sl (.pair (.int .i64) (.pair (.int .i64) .unit))), (87, .pair (.int .i64) (.pair (.int .i64) .unit)), (89, .sl (.pair (.int .i64) (.pair (.int .i64) (.pair (.int .i64) (.pair (.int .i64) (.pair (.int .i64) .unit)))))), (135, .pair (.int .i64) (.pair (.int .i64) (.pair (.int .i64) (.pair (.int .i64) (.pair (.int .i64) .unit)))))]
def et_L19_alive : List (Nat × Nat) := [(24, 3), (68, 23), (71, 33), (76, 87), (89, 135)]
theorem tt_L19_alive_ok : subT tt tt_L19_alive = true := by kernel_rfl
theorem et_L19_alive_ok : subE et et_L19_alive = true := by kernel_rfl
noncomputable def E_L19_alive (fns : List (Nat × (List AV → Option AV))) : Env := ⟨0, 0, et_L19_alive, tt_L19_alive, fns, [], [(1000037, .nil), (1000046, .nil)], [(0, []), (1, [1, 2, 3]), (2, [1, 2, 3, 4]), (3, [2, 3, 5, 6, 7]), (4, [2, 3, 5, 6, 7, 9, 10]), (5, [2, 3, 5, 6, 7, 9, 10, 11, 13]), (6, [2, 3, 5, 6, 7, 9, 10, 13, 14]), (7, [0]), (4000000, []), (4000001, []), (4000002, [27]), (4000003, []), (4000004, []), (4000005, []), (4000006, []), (4000007, [])], none, []⟩
set_option maxRecDepth 100000 in
set_option maxHeartbeats 40000000 in
theorem c_L19_alive : PCon Go.Proofs.Try.prog 36 lf_L19_alive := by
  obtain ⟨G37, hG37, cG37⟩ : ∃ G : ((.pair (.sl (.pair (.int .i64) (.pair (.int .i64) (.pair (.int .i64) (.pair (.int .i64) .unit))))) .unit) : Ty).den → Option ((List ((Int × Int × Int × Int × Unit) × Int × (List Int) × (Bool × (List Int) × Unit) × (List Int) × (Bool × (List Int) × Unit) × Unit)) × Int × Int × Unit), (∀ x, G x = chantab_New x.1) ∧ PCon Go.Proofs.Try.prog 37 (liftF (.pair (.sl (.pair (.int .i64) (.pair (.int .i64) (.pair (.int .i64) (.pair (.int .i64) .unit))))) .unit) (unpR (.pair (.sl (.pair (.pair (.int .i64) (.pair (.int .i64) (.pair (.int .i64) (.pair (.int .i64) .unit)))) (.pair (.int .i64) (.pair (.sl (.int .i64)) (.pair (.pair .bool (.pair (.sl (.int .i64)) .unit)) (.pair (.sl (.int .i64)) (.pair (.pair .bool (.pair (.sl (.int .i64)) .unit)) .unit))))))) (.pair (.int .i64) (.pair (.int .i64) .unit)))) G) := ⟨_, fun _ => rfl, c_chantab_New⟩
  obtain ⟨G39, hG39, cG39⟩ : ∃ G : ((.pair (.sl (.pair (.pair (.int .i64) (.pair (.int .i64) (.pair (.int .i64) (.pair (.int .i64) .unit)))) (.pair (.int .i64) (.pair (.sl (.int .i64)) (.pair (.pair .bool (.pair (.sl (.int .i64)) .unit)) (.pair (.sl (.int .i64)) (.pair (.pair .bool (.pair (.sl (.int .i64)) .unit)) .unit))))))) .unit) : Ty).den → Option (List (Int × Int × Unit)), (∀ x, G x = chantab_Moves x.1) ∧ PCon Go.Proofs.Try.prog 39 (liftF (.pair (.sl (.pair (.pair (.int .i64) (.pair (.int .i64) (.pair (.int .i64) (.pair (.int .i64) .unit)))) (.pair (.int .i64) (.pair (.sl (.int .i64)) (.pair (.pair .bool (.pair (.sl (.int .i64)) .unit)) (.pair (.sl (.int .i64)) (.pair (.pair .bool (.pair (.sl (.int .i64)) .unit)) .unit))))))) .unit) (unpack (.sl (.pair (.int .i64) (.pair (.int .i64) .unit)))) G) := ⟨_, fun _ => rfl, c_chantab_Moves⟩
  obtain ⟨G44, hG44, cG44⟩ : ∃ G : ((.pair (.sl (.pair (.pair (.int .i64) (.pair (.int .i64) (.pair (.int .i64) (.pair (.int .i64) .unit)))) (.pair (.int .i64) (.pair (.sl (.int .i64)) (.pair (.pair .bool (.pair (.sl (.int .i64)) .unit)) (.pair (.sl (.int .i64)) (.pair (.pair .bool (.pair (.sl (.int .i64)) .unit)) .unit))))))) (.pair (.int .i64) .unit)) : Ty).den → Option (List Int), (∀ x, G x = chantab_Hits x.1 x.2.1) ∧ PCon Go.Proofs.Try.prog 44 (liftF (.pair (.sl (.pair (.pair (.int .i64) (.pair (.int .i64) (.pair (.int .i64) (.pair (.int .i64) .unit)))) (.pair (.int .i64) (.pair (.sl (.int .i64)) (.pair (.pair .bool (.pair (.sl (.int .i64)) .unit)) (.pair (.sl (.int .i64)) (.pair (.pair .bool (.pair (.sl (.int .i64)) .unit)) .unit))))))) (.pair (.int .i64) .unit)) (unpack (.sl (.int .i64))) G) := ⟨_, fun _ => rfl, c_chantab_Hits⟩
  obtain ⟨G46, hG46, cG46⟩ : ∃ G : ((.pair (.sl (.pair (.pair (.int .i64) (.pair (.int .i64) (.pair (.int .i64) (.pair (.int .i64) .unit)))) (.pair (.int .i64) (.pair (.sl (.int .i64)) (.pair (.pair .bool (.pair (.sl (.int .i64)) .unit)) (.pair (.sl (.int .i64)) (.pair (.pair .bool (.pair (.sl (.int .i64)) .unit)) .unit))))))) (.pair (.int .i64) (.pair (.sl (.pair (.int .i64) (.pair (.int .i64) (.pair (.int .i64) (.pair (.int .i64) (.pair (.int .i64) .unit)))))) (.pair .bool .unit)))) : Ty).den → Option ((List ((Int × Int × Int × Int × Unit) × Int × (List Int) × (Bool × (List Int) × Unit) × (List Int) × (Bool × (List Int) × Unit) × Unit)) × Int × Int × Unit), (∀ x, G x = chantab_Offer x.1 x.2.1 x.2.2.1 x.2.2.2.1) ∧ PCon Go.Proofs.Try.prog 46 (liftF (.pair (.sl (.pair (.pair (.int .i64) (.pair (.int .i64) (.pair (.int .i64) (.pair (.int .i64) .unit)))) (.pair (.int .i64) (.pair (.sl (.int .i64)) (.pair (.pair .bool (.pair (.sl (.int .i64)) .unit)) (.pair (.sl (.int .i64)) (.pair (.pair .bool (.pair (.sl (.int .i64)) .unit)) .unit))))))) (.pair (.int .i64) (.pair (.sl (.pair (.int .i64) (.pair (.int .i64) (.pair (.int .i64) (.pair (.int .i64) (.pair (.int .i64) .unit)))))) (.pair .bool .unit)))) (unpR (.pair (.sl (.pair (.pair (.int .i64) (.pair (.int .i64) (.pair (.int .i64) (.pair (.int .i64) .unit)))) (.pair (.int .i64) (.pair (.sl (.int .i64)) (.pair (.pair .bool (.pair (.sl (.int .i64)) .unit)) (.pair (.sl (.int .i64)) (.pair (.pair .bool (.pair (.sl (.int .i64)) .unit)) .unit))))))) (.pair (.int .i64) (.pair (.int .i64) .unit)))) G) := ⟨_, fun _ => rfl, c_chantab_Offer⟩
  obtain ⟨G47, hG47, cG47⟩ : ∃ G : ((.pair (.sl (.pair (.pair (.int .i64) (.pair (.int .i64) (.pair (.int .i64) (.pair (.int .i64) .unit)))) (.pair (.int .i64) (.pair (.sl (.int .i64)) (.pair (.pair .bool (.pair (.sl (.int .i64)) .unit)) (.pair (.sl (.int .i64)) (.pair (.pair .bool (.pair (.sl (.int .i64)) .unit)) .unit))))))) (.pair (.int .i64) .unit)) : Ty).den → Option (List ((Int × Int × Int × Int × Unit) × Int × (List Int) × (Bool × (List Int) × Unit) × (List Int) × (Bool × (List Int) × Unit) × Unit)), (∀ x, G x = chantab_Leave x.1 x.2.1) ∧ PCon Go.Proofs.Try.prog 47 (liftF (.pair (.sl (.pair (.pair (.int .i64) (.pair (.int .i64) (.pair (.int .i64) (.pair (.int .i64) .unit)))) (.pair (.int .i64) (.pair (.sl (.int .i64)) (.pair (.pair .bool (.pair (.sl (.int .i64)) .unit)) (.pair (.sl (.int .i64)) (.pair (.pair .bool (.pair (.sl (.int .i64)) .unit)) .unit))))))) (.pair (.int .i64) .unit)) (unpack (.sl (.pair (.pair (.int .i64) (.pair (.int .i64) (.pair (.int .i64) (.pair (.int .i64) .unit)))) (.pair (.int .i64) (.pair (.sl (.int .i64)) (.pair (.pair .bool (.pair (.sl (.int .i64)) .unit)) (.pair (.sl (.int .i64)) (.pair (.pair .bool (.pair (.sl (.int .i64)) .unit)) .unit)))))))) G) := ⟨_, fun _ => rfl, c_chantab_Leave⟩
  obtain ⟨fns, hfns, hf⟩ : ∃ fns, fns = [(37, liftF (.pair (.sl (.pair (.int .i64) (.pair (.int .i64) (.pair (.int .i64) (.pair (.int .i64) .unit))))) .unit) (unpR (.pair (.sl (.pair (.pair (.int .i64) (.pair (.int .i64) (.pair (.int .i64) (.pair (.int .i64) .unit)))) (.pair (.int .i64) (.pair (.sl (.int .i64)) (.pair (.pair .bool (.pair (.sl (.int .i64)) .unit)) (.pair (.sl (.int .i64)) (.pair (.pair .bool (.pair (.sl (.int .i64)) .unit)) .unit))))))) (.pair (.int .i64) (.pair (.int .i64) .unit)))) G37), (39, liftF (.pair (.sl (.pair (.pair (.int .i64) (.pair (.int .i64) (.pair (.int .i64) (.pair (.int .i64) .unit)))) (.pair (.int .i64) (.pair (.sl (.int .i64)) (.pair (.pair .bool (.pair (.sl (.int .i64)) .unit)) (.pair (.sl (.int .i64)) (.pair (.pair .bool (.pair (.sl (.int .i64)) .unit)) .unit))))))) .unit) (unpack (.sl (.pair (.int .i64) (.pair (.int .i64) .unit)))) G39), (44, liftF (.pair (.sl (.pair (.pair (.int .i64) (.pair (.int .i64) (.pair (.int .i64) (.pair (.int .i64) .unit)))) (.pair (.int .i64) (.pair (.sl (.int .i64)) (.pair (.pair .bool (.pair (.sl (.int .i64)) .unit)) (.pair (.sl (.int .i64)) (.pair (.pair .bool (.pair (.sl (.int .i64)) .unit)) .unit))))))) (.pair (.int .i64) .unit)) (unpack (.sl (.int .i64))) G44), (46, liftF (.pair (.sl (.pair (.pair (.int .i64) (.pair (.int .i64) (.pair (.int .i64) (.pair (.int .i64) .unit)))) (.pair (.int .i64) (.pair (.sl (.int .i64)) (.pair (.pair .bool (.pair (.sl (.int .i64)) .unit)) (.pair (.sl (.int .i64)) (.pair (.pair .bool (.pair (.sl (.int .i64)) .unit)) .unit))))))) (.pair (.int .i64) (.pair (.sl (.pair (.int .i64) (.pair (.int .i64) (.pair (.int .i64) (.pair (.int .i64) (.pair (.int .i64) .unit)))))) (.pair .bool .unit)))) (unpR (.pair (.sl (.pair (.pair (.int .i64) (.pair (.int .i64) (.pair (.int .i64) (.pair (.int .i64) .unit)))) (.pair (.int .i64) (.pair (.sl (.int .i64)) (.pair (.pair .bool (.pair (.sl (.int .i64)) .unit)) (.pair (.sl (.int .i64)) (.pair (.pair .bool (.pair (.sl (.int .i64)) .unit)) .unit))))))) (.pair (.int .i64) (.pair (.int .i64) .unit)))) G46), (47, liftF (.pair (.sl (.pair (.pair (.int .i64) (.pair (.int .i64) (.pair (.int .i64) (.pair (.int .i64) .unit)))) (.pair (.int .i64) (.pair (.sl (.int .i64)) (.pair (.pair .bool (.pair (.sl (.int .i64)) .unit)) (.pair (.sl (.int .i64)) (.pair (.pair .bool (.pair (.sl (.int .i64)) .unit)) .unit))))))) (.pair (.int .i64) .unit)) (unpack (.sl (.pair (.pair (.int .i64) (.pair (.int .i64) (.pair (.int .i64) (.pair (.int .i64) .unit)))) (.pair (.int .i64) (.pair (.sl (.int .i64)) (.pair (.pair .bool (.pair (.sl (.int .i64)) .unit)) (.pair (.sl (.int .i64)) (.pair (.pair .bool (.pair (.sl (.int .i64)) .unit)) .unit)))))))) G47)] ∧ FnsOk Go.Proofs.Try.prog fns := ⟨_, rfl, FnsOk.cons cG37 (FnsOk.cons cG39 (FnsOk.cons cG44 (FnsOk.cons cG46 (FnsOk.cons cG47 (FnsOk.nil _)))))⟩
  refine lift_con (E := E_L19_alive fns) (c := bodyOf Try.f36) (nt := 108) (rs := [.tmp 0]) (ts := [4]) (EnvC.sub tt_ok et_ok hf (PrsOk.nil _) (ItsOk.nil _) tt_L19_alive_ok et_L19_alive_ok) (PrOk.of mixed_ok) Go.Proofs.Try.func36 rfl (by decide) rfl rfl rfl (pureR_one (e := .bool) rfl) ?_
  subst hfns
  intro x r hw hs
  repeat'
    (try (conv => whnf)
     first
       | (have hs := letv_out hs)
       | (refine draw_and (by kernel_rfl) ?_)
       | (refine both_mk ?_ ?_)
       | (refine br_bool (fun h => ?_) (fun h => ?_) <;> first | have hs := cT h hs | have hs := cF h hs)
       | (refine bind_elim hs fun v hb hs => ?_; first | refine callK_liftG hG37 rfl hb ?_ | refine callK_liftG hG39 rfl hb ?_ | refine callK_liftG hG44 rfl hb ?_ | refine callK_liftG hG46 rfl hb ?_ | refine callK_liftG hG47 rfl hb ?_)
       | refine chk_elim hs fun hs => ?_
       | exact fin_some hs rfl
       | (intro b hb; first | have hs := nilq_elim hs b hb | have hs := nilqn_elim hs b hb)
       | (have hs := cT rfl hs)
       | (have hs := cF rfl hs)
       | exact (none_ne hs).elim)
noncomputable def lf_L19_To : List AV → Option AV := liftF (.pair (.sl (.pair (.pair (.int .i64) (.pair (.int .i64) (.pair (.int .i64) (.pair (.int .i64) .unit)))) (.pair (.int .i64) (.pair (.sl (.int .i64)) (.pair (.pair .bool (.pair (.sl (.int .i64)) .unit)) (.pair (.sl (.int .i64)) (.pair (.pair .bool (.pair (.sl (.int .i64)) .unit)) .unit))))))) .unit) (unpack (.sl (.pair (.pair (.int .i64) (.pair (.int .i64) (.pair (.int .i64) (.pair (.int .i64) .unit)))) (.pair (.int .i64) (.pair (.sl (.int .i64)) (.pair (.pair .bool (.pair (.sl (.int .i64)) .unit)) (.pair (.sl (.int .i64)) (.pair (.pair .bool (.pair (.sl (.int .i64)) .unit)) .unit)))))))) (fun x => L19_To x.1)
def tt_L19_To : List (Nat × Ty) := [(3, .int .i64), (28, .pair (.pair (.int .i64) (.pair (.int .i64) (.pair (.int .i64) (.pair (.int .i64) .unit)))) (.pair (.int .i64) (.pair (.sl (.int .i64)) (.pair (.pair .bool (.pair (.sl (.int .i64)) .unit)) (.pair (.sl (.int .i64)) (.pair (.pair .bool (.pair (.sl (.int .i64)) .unit)) .unit)))))), (69, .sl (.pair (.pair (.int .i64) (.pair (.int .i64) (.pair (.int .i64) (.pair (.int .i64) .unit)))) (.pair (.int .i64) (.pair (.sl (.int .i64)) (.pair (.pair .bool (.pair (.sl (.int .i64)) .unit)) (.pair (.sl (.int .i64)) (.pair (.pair .bool (.pair (.sl (.int .i64)) .unit)) .unit))))))), (71, .sl (.pair (.pair (.int .i64) (.pair (.int .i64) (.pair (.int .i64) (.pair (.int .i64) .unit)))) (.pair (.int .i64) (.pair (.sl (.int .i64)) (.pair (.pair .bool (.pair (.sl (.int .i64)) .unit)) (.pair (.sl (.int .i64)) (.pair (.pair .bool (.pair (.sl (.int .i64)) .unit)) .unit)))))))]
def et_L19_To : List (Nat × Nat) := [(69, 28), (71, 33)]
theorem tt_L19_To_ok : subT tt tt_L19_To = true := by kernel_rfl
theorem et_L19_To_ok : subE et et_L19_To = true := by kernel_rfl
def L19_To_S1 (u0 : AV) (u1 : AV) (u2 : AV) (x1 : Int × (List ((Int × Int × Int × Int × Unit) × Int × (List Int) × (Bool × (List Int) × Unit) × (List Int) × (Bool × (List Int) × Unit) × Unit))) : St :=
  ⟨[(3, u0), (6, u1), (7, u2), (8, .int .i64 x1.1)], [(16, .row 33 (.pair (.pair (.int .i64) (.pair (.int .i64) (.pair (.int .i64) (.pair (.int .i64) .unit)))) (.pair (.int .i64) (.pair (.sl (.int .i64)) (.pair (.pair .bool (.pair (.sl (.int .i64)) .unit)) (.pair (.sl (.int .i64)) (.pair (.pair .bool (.pair (.sl (.int .i64)) .unit)) .unit)))))) x1.2 false)], none⟩
def L19_To_M1 : Msk := ⟨[3, 6, 7, 8], [16], [(3, 16, 71)], [], [], [], [], [], []⟩
noncomputable def E_L19_To (fns : List (Nat × (List AV → Option AV))) : Env := ⟨0, 0, et_L19_To, tt_L19_To, fns, [], [], [(0, [0]), (1, [0, 3]), (2, [3, 6, 7, 8]), (3, [3, 6, 7, 8, 9]), (4, [3, 5, 6, 7, 8]), (5, [3, 6, 7, 8]), (6, [3, 6, 7, 8]), (7, [2]), (4000000, []), (4000001, []), (4000002, []), (4000003, [16]), (4000004, [5, 16]), (4000005, [16]), (4000006, [16]), (4000007, [16])], none, []⟩
set_option maxRecDepth 100000 in
set_option maxHeartbeats 40000000 in
theorem c_L19_To : PCon Go.Proofs.Try.prog 40 lf_L19_To := by
  obtain ⟨G11, hG11, cG11⟩ : ∃ G : ((.pair (.pair (.pair (.int .i64) (.pair (.int .i64) (.pair (.int .i64) (.pair (.int .i64) .unit)))) (.pair (.int .i64) (.pair (.sl (.int .i64)) (.pair (.pair .bool (.pair (.sl (.int .i64)) .unit)) (.pair (.sl (.int .i64)) (.pair (.pair .bool (.pair (.sl (.int .i64)) .unit)) .unit)))))) .unit) : Ty).den → Option ((Int × Int × Int × Int × Unit) × Int × (List Int) × (Bool × (List Int) × Unit) × (List Int) × (Bool × (List Int) × Unit) × Unit), (∀ x, G x = L18_To x.1) ∧ PCon Go.Proofs.Try.prog 11 (liftF (.pair (.pair (.pair (.int .i64) (.pair (.int .i64) (.pair (.int .i64) (.pair (.int .i64) .unit)))) (.pair (.int .i64) (.pair (.sl (.int .i64)) (.pair (.pair .bool (.pair (.sl (.int .i64)) .unit)) (.pair (.sl (.int .i64)) (.pair (.pair .bool (.pair (.sl (.int .i64)) .unit)) .unit)))))) .unit) (unpack (.pair (.pair (.int .i64) (.pair (.int .i64) (.pair (.int .i64) (.pair (.int .i64) .unit)))) (.pair (.int .i64) (.pair (.sl (.int .i64)) (.pair (.pair .bool (.pair (.sl (.int .i64)) .unit)) (.pair (.sl (.int .i64)) (.pair (.pair .bool (.pair (.sl (.int .i64)) .unit)) .unit))))))) G) := ⟨_, fun _ => rfl, c_L18_To⟩
  obtain ⟨fns, hfns, hf⟩ : ∃ fns, fns = [(11, liftF (.pair (.pair (.pair (.int .i64) (.pair (.int .i64) (.pair (.int .i64) (.pair (.int .i64) .unit)))) (.pair (.int .i64) (.pair (.sl (.int .i64)) (.pair (.pair .bool (.pair (.sl (.int .i64)) .unit)) (.pair (.sl (.int .i64)) (.pair (.pair .bool (.pair (.sl (.int .i64)) .unit)) .unit)))))) .unit) (unpack (.pair (.pair (.int .i64) (.pair (.int .i64) (.pair (.int .i64) (.pair (.int .i64) .unit)))) (.pair (.int .i64) (.pair (.sl (.int .i64)) (.pair (.pair .bool (.pair (.sl (.int .i64)) .unit)) (.pair (.sl (.int .i64)) (.pair (.pair .bool (.pair (.sl (.int .i64)) .unit)) .unit))))))) G11)] ∧ FnsOk Go.Proofs.Try.prog fns := ⟨_, rfl, FnsOk.cons cG11 (FnsOk.nil _)⟩
  refine lift_con (E := E_L19_To fns) (c := bodyOf Try.f40) (nt := 19) (rs := [.tmp 2]) (ts := [71]) (EnvC.sub tt_ok et_ok hf (PrsOk.nil _) (ItsOk.nil _) tt_L19_To_ok et_L19_To_ok) (PrOk.of mixed_ok) Go.Proofs.Try.func40 rfl (by decide) rfl rfl rfl (pureR_one (e := (.sl (.pair (.pair (.int .i64) (.pair (.int .i64) (.pair (.int .i64) (.pair (.int .i64) .unit)))) (.pair (.int .i64) (.pair (.sl (.int .i64)) (.pair (.pair .bool (.pair (.sl (.int .i64)) .unit)) (.pair (.sl (.int .i64)) (.pair (.pair .bool (.pair (.sl (.int .i64)) .unit)) .unit)))))))) rfl) ?_
  subst hfns
  intro x r hw hs
  repeat'
    (try (conv => whnf)
     first
       | (have hs := letv_out hs)
       | (refine draw_and (by kernel_rfl) ?_)
       | (refine both_mk ?_ ?_)
       | (refine br_bool (fun h => ?_) (fun h => ?_) <;> first | have hs := cT h hs | have hs := cF h hs)
       | (refine bind_elim hs fun v hb hs => ?_; first | refine callK_liftG hG11 rfl hb ?_)
       | refine chk_elim hs fun hs => ?_
       | exact fin_some hs rfl
       | (intro b hb; first | have hs := nilq_elim hs b hb | have hs := nilqn_elim hs b hb)
       | exact hJ1 _ hs
       | (have hs := cT rfl hs)
       | (have hs := cF rfl hs)
       | (refine vc_loop (L19_To_S1 _ _ _) L19_To_M1 hs rfl ?_; intro J1 k1 x1 hJ1 hs)
       | exact (none_ne hs).elim)
noncomputable def lf_L19_Same : List AV → Option AV := liftF (.pair (.sl (.pair (.pair (.int .i64) (.pair (.int .i64) (.pair (.int .i64) (.pair (.int .i64) .unit)))) (.pair (.int .i64) (.pair (.sl (.int .i64)) (.pair (.pair .bool (.pair (.sl (.int .i64)) .unit)) (.pair (.sl (.int .i64)) (.pair (.pair .bool (.pair (.sl (.int .i64)) .unit)) .unit))))))) (.pair (.sl (.pair (.pair (.int .i64) (.pair (.int .i64) (.pair (.int .i64) (.pair (.int .i64) .unit)))) (.pair (.int .i64) (.pair (.sl (.int .i64)) (.pair (.pair .bool (.pair (.sl (.int .i64)) .unit)) (.pair (.sl (.int .i64)) (.pair (.pair .bool (.pair (.sl (.int .i64)) .unit)) .unit))))))) .unit)) (unpack .bool) (fun x => L19_Same x.1 x.2.1)
def tt_L19_Same : List (Nat × Ty) := [(3, .int .i64), (4, .bool), (28, .pair (.pair (.int .i64) (.pair (.int .i64) (.pair (.int .i64) (.pair (.int .i64) .unit)))) (.pair (.int .i64) (.pair (.sl (.int .i64)) (.pair (.pair .bool (.pair (.sl (.int .i64)) .unit)) (.pair (.sl (.int .i64)) (.pair (.pair .bool (.pair (.sl (.int .i64)) .unit)) .unit)))))), (69, .sl (.pair (.pair (.int .i64) (.pair (.int .i64) (.pair (.int .i64) (.pair (.int .i64) .unit)))) (.pair (.int .i64) (.pair (.sl (.int .i64)) (.pair (.pair .bool (.pair (.sl (.int .i64)) .unit)) (.pair (.sl (.int .i64)) (.pair (.pair .bool (.pair (.sl (.int .i64)) .unit)) .unit)))))))]
def et_L19_Same : List (Nat × Nat) := [(69, 28)]
theorem tt_L19_Same_ok : subT tt tt_L19_Same = true := by kernel_rfl
theorem et_L19_Same_ok : subE et et_L19_Same = true := by kernel_rfl
def L19_Same_S1 (u0 : AV) (u1 : AV) (u2 : AV) (x1 : Int) : St :=
  ⟨[(0, u0), (1, u1), (12, u2), (13, .int .i64 x1)], [], none⟩
def L19_Same_M1 : Msk := ⟨[0, 1, 12, 13], [], [], [], [], [], [], [], []⟩
noncomputable def E_L19_Same (fns : List (Nat × (List AV → Option AV))) : Env := ⟨0, 0, et_L19_Same, tt_L19_Same, fns, [], [(6, (.one 0 (.one 1 (.one 2 (.one 3 (.one 4 (.one 5 (.one 6 (.one 7 (.one 100008 (.one 9 .nil)))))))))))], [(0, [0, 1]), (1, [0, 1, 10]), (2, [4]), (3, [0, 1, 12, 13]), (4, [0, 1, 12, 13, 14]), (5, [0, 1, 5, 12, 13]), (6, [0, 1, 12, 13, 25]), (7, [4]), (8, [0, 1, 12, 13]), (9, [4]), (4000000, []), (4000001, []), (4000002, []), (4000003, []), (4000004, []), (4000005, []), (4000006, []), (4000007, []), (4000008, []), (4000009, [])], none, []⟩
set_option maxRecDepth 100000 in
set_option maxHeartbeats 40000000 in
theorem c_L19_Same : PCon Go.Proofs.Try.prog 42 lf_L19_Same := by
  obtain ⟨G18, hG18, cG18⟩ : ∃ G : ((.pair (.pair (.pair (.int .i64) (.pair (.int .i64) (.pair (.int .i64) (.pair (.int .i64) .unit)))) (.pair (.int .i64) (.pair (.sl (.int .i64)) (.pair (.pair .bool (.pair (.sl (.int .i64)) .unit)) (.pair (.sl (.int .i64)) (.pair (.pair .bool (.pair (.sl (.int .i64)) .unit)) .unit)))))) (.pair (.pair (.pair (.int .i64) (.pair (.int .i64) (.pair (.int .i64) (.pair (.int .i64) .unit)))) (.pair (.int .i64) (.pair (.sl (.int .i64)) (.pair (.pair .bool (.pair (.sl (.int .i64)) .unit)) (.pair (.sl (.int .i64)) (.pair (.pair .bool (.pair (.sl (.int .i64)) .unit)) .unit)))))) .unit)) : Ty).den → Option Bool, (∀ x, G x = L18_Same x.1 x.2.1) ∧ PCon Go.Proofs.Try.prog 18 (liftF (.pair (.pair (.pair (.int .i64) (.pair (.int .i64) (.pair (.int .i64) (.pair (.int .i64) .unit)))) (.pair (.int .i64) (.pair (.sl (.int .i64)) (.pair (.pair .bool (.pair (.sl (.int .i64)) .unit)) (.pair (.sl (.int .i64)) (.pair (.pair .bool (.pair (.sl (.int .i64)) .unit)) .unit)))))) (.pair (.pair (.pair (.int .i64) (.pair (.int .i64) (.pair (.int .i64) (.pair (.int .i64) .unit)))) (.pair (.int .i64) (.pair (.sl (.int .i64)) (.pair (.pair .bool (.pair (.sl (.int .i64)) .unit)) (.pair (.sl (.int .i64)) (.pair (.pair .bool (.pair (.sl (.int .i64)) .unit)) .unit)))))) .unit)) (unpack .bool) G) := ⟨_, fun _ => rfl, c_L18_Same⟩
  obtain ⟨fns, hfns, hf⟩ : ∃ fns, fns = [(18, liftF (.pair (.pair (.pair (.int .i64) (.pair (.int .i64) (.pair (.int .i64) (.pair (.int .i64) .unit)))) (.pair (.int .i64) (.pair (.sl (.int .i64)) (.pair (.pair .bool (.pair (.sl (.int .i64)) .unit)) (.pair (.sl (.int .i64)) (.pair (.pair .bool (.pair (.sl (.int .i64)) .unit)) .unit)))))) (.pair (.pair (.pair (.int .i64) (.pair (.int .i64) (.pair (.int .i64) (.pair (.int .i64) .unit)))) (.pair (.int .i64) (.pair (.sl (.int .i64)) (.pair (.pair .bool (.pair (.sl (.int .i64)) .unit)) (.pair (.sl (.int .i64)) (.pair (.pair .bool (.pair (.sl (.int .i64)) .unit)) .unit)))))) .unit)) (unpack .bool) G18)] ∧ FnsOk Go.Proofs.Try.prog fns := ⟨_, rfl, FnsOk.cons cG18 (FnsOk.nil _)⟩
  refine lift_con (E := E_L19_Same fns) (c := bodyOf Try.f42) (nt := 27) (rs := [.tmp 4]) (ts := [4]) (EnvC.sub tt_ok et_ok hf (PrsOk.nil _) (ItsOk.nil _) tt_L19_Same_ok et_L19_Same_ok) (PrOk.of mixed_ok) Go.Proofs.Try.func42 rfl (by decide) rfl rfl rfl (pureR_one (e := .bool) rfl) ?_
  subst hfns
  intro x r hw hs
  repeat'
    (try (conv => whnf)
     first
       | (have hs := letv_out hs)
       | (refine draw_and (by kernel_rfl) ?_)
       | (refine both_mk ?_ ?_)
       | (refine br_bool (fun h => ?_) (fun h => ?_) <;> first | have hs := cT h hs | have hs := cF h hs)
       | (refine bind_elim hs fun v hb hs => ?_; first | refine callK_liftG hG18 rfl hb ?_)
       | refine chk_elim hs fun hs => ?_
       | exact fin_some hs rfl
       | (intro b hb; first | have hs := nilq_elim hs b hb | have hs := nilqn_elim hs b hb)
       | exact hJ1 _ hs
       | (have hs := cT rfl hs)
       | (have hs := cF rfl hs)
       | (refine vc_loop (L19_Same_S1 _ _ _) L19_Same_M1 hs rfl ?_; intro J1 k1 x1 hJ1 hs)
       | exact (none_ne hs).elim)
noncomputable def lf_L19_From : List AV → Option AV := liftF (.pair (.sl (.pair (.pair (.int .i64) (.pair (.int .i64) (.pair (.int .i64) (.pair (.int .i64) .unit)))) (.pair (.int .i64) (.pair (.sl (.int .i64)) (.pair (.pair .bool (.pair (.sl (.int .i64)) .unit)) (.pair (.sl (.int .i64)) (.pair (.pair .bool (.pair (.sl (.int .i64)) .unit)) .unit))))))) .unit) (unpack (.sl (.pair (.pair (.int .i64) (.pair (.int .i64) (.pair (.int .i64) (.pair (.int .i64) .unit)))) (.pair (.int .i64) (.pair (.sl (.int .i64)) (.pair (.pair .bool (.pair (.sl (.int .i64)) .unit)) (.pair (.sl (.int .i64)) (.pair (.pair .bool (.pair (.sl (.int .i64)) .unit)) .unit)))))))) (fun x => L19_From x.1)
def tt_L19_From : List (Nat × Ty) := [(3, .int .i64), (33, .pair (.pair (.int .i64) (.pair (.int .i64) (.pair (.int .i64) (.pair (.int .i64) .unit)))) (.pair (.int .i64) (.pair (.sl (.int .i64)) (.pair (.pair .bool (.pair (.sl (.int .i64)) .unit)) (.pair (.sl (.int .i64)) (.pair (.pair .bool (.pair (.sl (.int .i64)) .unit)) .unit)))))), (69, .sl (.pair (.pair (.int .i64) (.pair (.int .i64) (.pair (.int .i64) (.pair (.int .i64) .unit)))) (.pair (.int .i64) (.pair (.sl (.int .i64)) (.pair (.pair .bool (.pair (.sl (.int .i64)) .unit)) (.pair (.sl (.int .i64)) (.pair (.pair .bool (.pair (.sl (.int .i64)) .unit)) .unit))))))), (71, .sl (.pair (.pair (.int .i64) (.pair (.int .i64) (.pair (.int .i64) (.pair (.int .i64) .unit)))) (.pair (.int .i64) (.pair (.sl (.int .i64)) (.pair (.pair .bool (.pair (.sl (.int .i64)) .unit)) (.pair (.sl (.int .i64)) (.pair (.pair .bool (.pair (.sl (.int .i64)) .unit)) .unit)))))))]
def et_L19_From : List (Nat × Nat) := [(69, 28), (71, 33)]
theorem tt_L19_From_ok : subT tt tt_L19_From = true := by kernel_rfl
theorem et_L19_From_ok : subE et et_L19_From = true := by kernel_rfl
def L19_From_S1 (u0 : AV) (u1 : AV) (u2 : AV) (x1 : Int × (List ((Int × Int × Int × Int × Unit) × Int × (List Int) × (Bool × (List Int) × Unit) × (List Int) × (Bool × (List Int) × Unit) × Unit))) : St :=
  ⟨[(3, u0), (6, u1), (7, u2), (8, .int .i64 x1.1)], [(16, .row 28 (.pair (.pair (.int .i64) (.pair (.int .i64) (.pair (.int .i64) (.pair (.int .i64) .unit)))) (.pair (.int .i64) (.pair (.sl (.int .i64)) (.pair (.pair .bool (.pair (.sl (.int .i64)) .unit)) (.pair (.sl (.int .i64)) (.pair (.pair .bool (.pair (.sl (.int .i64)) .unit)) .unit)))))) x1.2 false)], none⟩
def L19_From_M1 : Msk := ⟨[3, 6, 7, 8], [16], [(3, 16, 69)], [], [], [], [], [], []⟩
noncomputable def E_L19_From (fns : List (Nat × (List AV → Option AV))) : Env := ⟨0, 0, et_L19_From, tt_L19_From, fns, [], [], [(0, [0]), (1, [0, 3]), (2, [3, 6, 7, 8]), (3, [3, 6, 7, 8, 9]), (4, [3, 5, 6, 7, 8]), (5, [3, 6, 7, 8]), (6, [3, 6, 7, 8]), (7, [2]), (4000000, []), (4000001, []), (4000002, []), (4000003, [16]), (4000004, [5, 16]), (4000005, [16]), (4000006, [16]), (4000007, [16])], none, []⟩
set_option maxRecDepth 100000 in
set_option maxHeartbeats 40000000 in
theorem c_L19_From : PCon Go.Proofs.Try.prog 43 lf_L19_From := by
  obtain ⟨G19, hG19, cG19⟩ : ∃ G : ((.pair (.pair (.pair (.int .i64) (.pair (.int .i64) (.pair (.int .i64) (.pair (.int .i64) .unit)))) (.pair (.int .i64) (.pair (.sl (.int .i64)) (.pair (.pair .bool (.pair (.sl (.int .i64)) .unit)) (.pair (.sl (.int .i64)) (.pair (.pair .bool (.pair (.sl (.int .i64)) .unit)) .unit)))))) .unit) : Ty).den → Option ((Int × Int × Int × Int × Unit) × Int × (List Int) × (Bool × (List Int) × Unit) × (List Int) × (Bool × (List Int) × Unit) × Unit), (∀ x, G x = L18_From x.1) ∧ PCon Go.Proofs.Try.prog 19 (liftF (.pair (.pair (.pair (.int .i64) (.pair (.int .i64) (.pair (.int .i64) (.pair (.int .i64) .unit)))) (.pair (.int .i64) (.pair (.sl (.int .i64)) (.pair (.pair .bool (.pair (.sl (.int .i64)) .unit)) (.pair (.sl (.int .i64)) (.pair (.pair .bool (.pair (.sl (.int .i64)) .unit)) .unit)))))) .unit) (unpack (.pair (.pair (.int .i64) (.pair (.int .i64) (.pair (.int .i64) (.pair (.int .i64) .unit)))) (.pair (.int .i64) (.pair (.sl (.int .i64)) (.pair (.pair .bool (.pair (.sl (.int .i64)) .unit)) (.pair (.sl (.int .i64)) (.pair (.pair .bool (.pair (.sl (.int .i64)) .unit)) .unit))))))) G) := ⟨_, fun _ => rfl, c_L18_From⟩
  obtain ⟨fns, hfns, hf⟩ : ∃ fns, fns = [(19, liftF (.pair (.pair (.pair (.int .i64) (.pair (.int .i64) (.pair (.int .i64) (.pair (.int .i64) .unit)))) (.pair (.int .i64) (.pair (.sl (.int .i64)) (.pair (.pair .bool (.pair (.sl (.int .i64)) .unit)) (.pair (.sl (.int .i64)) (.pair (.pair .bool (.pair (.sl (.int .i64)) .unit)) .unit)))))) .unit) (unpack (.pair (.pair (.int .i64) (.pair (.int .i64) (.pair (.int .i64) (.pair (.int .i64) .unit)))) (.pair (.int .i64) (.pair (.sl (.int .i64)) (.pair (.pair .bool (.pair (.sl (.int .i64)) .unit)) (.pair (.sl (.int .i64)) (.pair (.pair .bool (.pair (.sl (.int .i64)) .unit)) .unit))))))) G19)] ∧ FnsOk Go.Proofs.Try.prog fns := ⟨_, rfl, FnsOk.cons cG19 (FnsOk.nil _)⟩
  refine lift_con (E := E_L19_From fns) (c := bodyOf Try.f43) (nt := 19) (rs := [.tmp 2]) (ts := [69]) (EnvC.sub tt_ok et_ok hf (PrsOk.nil _) (ItsOk.nil _) tt_L19_From_ok et_L19_From_ok) (PrOk.of mixed_ok) Go.Proofs.Try.func43 rfl (by decide) rfl rfl rfl (pureR_one (e := (.sl (.pair (.pair (.int .i64) (.pair (.int .i64) (.pair (.int .i64) (.pair (.int .i64) .unit)))) (.pair (.int .i64) (.pair (.sl (.int .i64)) (.pair (.pair .bool (.pair (.sl (.int .i64)) .unit)) (.pair (.sl (.int .i64)) (.pair (.pair .bool (.pair (.sl (.int .i64)) .unit)) .unit)))))))) rfl) ?_
  subst hfns
  intro x r hw hs
  repeat'
    (try (conv => whnf)
     first
       | (have hs := letv_out hs)
       | (refine draw_and (by kernel_rfl) ?_)
       | (refine both_mk ?_ ?_)
       | (refine br_bool (fun h => ?_) (fun h => ?_) <;> first | have hs := cT h hs | have hs := cF h hs)
       | (refine bind_elim hs fun v hb hs => ?_; first | refine callK_liftG hG19 rfl hb ?_)
       | refine chk_elim hs fun hs => ?_
       | exact fin_some hs rfl
       | (intro b hb; first | have hs := nilq_elim hs b hb | have hs := nilqn_elim hs b hb)
       | exact hJ1 _ hs
       | (have hs := cT rfl hs)
       | (have hs := cF rfl hs)
       | (refine vc_loop (L19_From_S1 _ _ _) L19_From_M1 hs rfl ?_; intro J1 k1 x1 hJ1 hs)
       | exact (none_ne hs).elim)
end Go.Proofs.YtbkccpddkpclaaaV
