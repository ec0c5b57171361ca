import Derived.Test.YtejedlpnejjnbaaDoorVcTab
import Derived.Test.YtejedlpnejjnbaaDoorDL21
import Derived.Test.YtejedlpnejjnbaaDoorCR02
import Derived.Test.YtejedlpnejjnbaaDoorCR04
import Derived.Test.YtejedlpnejjnbaaDoorCR21
import Derived.Test.YtejedlpnejjnbaaDoorCbitset
import Derived.Test.YtejedlpnejjnbaaDoorCroll
namespace Go.Proofs.YtejedlpnejjnbaaDoorV
open Go.Proofs
set_option linter.unusedVariables false
noncomputable def lf_L21_alive : List AV → Option AV := liftF .unit (unpack .bool) (fun x => L21_alive)
def tt_L21_alive : List (Nat × Ty) := [(3, .int .i64), (4, .bool), (22, .sl (.int .i64)), (52, .pair (.arr 4 (.int .u64)) (.pair (.arr 4 (.int .u64)) .unit)), (54, .int .i64)]
def et_L21_alive : List (Nat × Nat) := [(22, 3)]
theorem tt_L21_alive_ok : subT tt tt_L21_alive = true := by kernel_rfl
theorem et_L21_alive_ok : subE et et_L21_alive = true := by kernel_rfl
def kp_L21_alive : List (Nat × List Nat) := [(0, []), (1, [1, 2]), (2, [2, 3, 4]), (3, [2, 4, 5, 6]), (4, [2, 4, 5, 6, 7, 8]), (5, [2, 4, 5, 6, 7, 8, 9, 10, 11]), (6, [2, 4, 5, 6, 7, 8, 9, 10, 11, 13]), (7, [2, 4, 5, 6, 7, 8, 9, 10, 11, 13, 16]), (8, [0]), (4000000, []), (4000001, [1]), (4000002, [3]), (4000003, [5]), (4000004, [5, 7]), (4000005, [5, 7, 9]), (4000006, [5, 7, 9]), (4000007, [5, 7, 9]), (4000008, [])]
def od_L21_alive : List (Nat × Ord) := []
noncomputable def E_L21_alive (fns : List (Nat × (List AV → Option AV))) : Env := ⟨0, 0, et_L21_alive, tt_L21_alive, fns, [], od_L21_alive, kp_L21_alive, none, []⟩
set_option maxRecDepth 100000 in
set_option maxHeartbeats 40000000 in
theorem c_L21_alive : PCon Go.Proofs.Tryd.prog 33 lf_L21_alive := by
  obtain ⟨G16, hG16, cG16⟩ : ∃ G : ((.pair (.sl (.int .i64)) (.pair (.sl (.int .i64)) .unit)) : Ty).den → Option Bool, (∀ x, G x = R02_Same x.1 x.2.1) ∧ PCon Go.Proofs.Tryd.prog 16 (liftF (.pair (.sl (.int .i64)) (.pair (.sl (.int .i64)) .unit)) (unpack .bool) G) := ⟨_, fun _ => rfl, c_R02_Same⟩
  obtain ⟨G36, hG36, cG36⟩ : ∃ G : ((.pair (.pair (.arr 4 (.int .u64)) (.pair (.arr 4 (.int .u64)) .unit)) (.pair (.int .i64) .unit)) : Ty).den → Option (((List Int) × (List Int) × Unit) × Int × Unit), (∀ x, G x = roll_Enrol x.1 x.2.1) ∧ PCon Go.Proofs.Tryd.prog 36 (liftF (.pair (.pair (.arr 4 (.int .u64)) (.pair (.arr 4 (.int .u64)) .unit)) (.pair (.int .i64) .unit)) (unpR (.pair (.pair (.arr 4 (.int .u64)) (.pair (.arr 4 (.int .u64)) .unit)) (.pair (.int .i64) .unit))) G) := ⟨_, fun _ => rfl, c_roll_Enrol⟩
  obtain ⟨G38, hG38, cG38⟩ : ∃ G : ((.pair (.pair (.arr 4 (.int .u64)) (.pair (.arr 4 (.int .u64)) .unit)) (.pair (.int .i64) .unit)) : Ty).den → Option (((List Int) × (List Int) × Unit) × Int × Unit), (∀ x, G x = roll_Resign x.1 x.2.1) ∧ PCon Go.Proofs.Tryd.prog 38 (liftF (.pair (.pair (.arr 4 (.int .u64)) (.pair (.arr 4 (.int .u64)) .unit)) (.pair (.int .i64) .unit)) (unpR (.pair (.pair (.arr 4 (.int .u64)) (.pair (.arr 4 (.int .u64)) .unit)) (.pair (.int .i64) .unit))) G) := ⟨_, fun _ => rfl, c_roll_Resign⟩
  obtain ⟨G40, hG40, cG40⟩ : ∃ G : ((.pair (.pair (.arr 4 (.int .u64)) (.pair (.arr 4 (.int .u64)) .unit)) (.pair (.int .i64) .unit)) : Ty).den → Option (((List Int) × (List Int) × Unit) × Int × Unit), (∀ x, G x = roll_Offer x.1 x.2.1) ∧ PCon Go.Proofs.Tryd.prog 40 (liftF (.pair (.pair (.arr 4 (.int .u64)) (.pair (.arr 4 (.int .u64)) .unit)) (.pair (.int .i64) .unit)) (unpR (.pair (.pair (.arr 4 (.int .u64)) (.pair (.arr 4 (.int .u64)) .unit)) (.pair (.int .i64) .unit))) G) := ⟨_, fun _ => rfl, c_roll_Offer⟩
  obtain ⟨G42, hG42, cG42⟩ : ∃ G : ((.pair (.pair (.arr 4 (.int .u64)) (.pair (.arr 4 (.int .u64)) .unit)) (.pair (.int .i64) .unit)) : Ty).den → Option (((List Int) × (List Int) × Unit) × Bool × Unit), (∀ x, G x = roll_Withdraw x.1 x.2.1) ∧ PCon Go.Proofs.Tryd.prog 42 (liftF (.pair (.pair (.arr 4 (.int .u64)) (.pair (.arr 4 (.int .u64)) .unit)) (.pair (.int .i64) .unit)) (unpR (.pair (.pair (.arr 4 (.int .u64)) (.pair (.arr 4 (.int .u64)) .unit)) (.pair .bool .unit))) G) := ⟨_, fun _ => rfl, c_roll_Withdraw⟩
  obtain ⟨G46, hG46, cG46⟩ : ∃ G : ((.pair (.pair (.arr 4 (.int .u64)) (.pair (.arr 4 (.int .u64)) .unit)) .unit) : Ty).den → Option Bool, (∀ x, G x = roll_Fine x.1) ∧ PCon Go.Proofs.Tryd.prog 46 (liftF (.pair (.pair (.arr 4 (.int .u64)) (.pair (.arr 4 (.int .u64)) .unit)) .unit) (unpack .bool) G) := ⟨_, fun _ => rfl, c_roll_Fine⟩
  obtain ⟨G48, hG48, cG48⟩ : ∃ G : ((.pair (.pair (.arr 4 (.int .u64)) (.pair (.arr 4 (.int .u64)) .unit)) .unit) : Ty).den → Option (((List Int) × (List Int) × Unit) × (List Int) × Int × Unit), (∀ x, G x = roll_Fire x.1) ∧ PCon Go.Proofs.Tryd.prog 48 (liftF (.pair (.pair (.arr 4 (.int .u64)) (.pair (.arr 4 (.int .u64)) .unit)) .unit) (unpR (.pair (.pair (.arr 4 (.int .u64)) (.pair (.arr 4 (.int .u64)) .unit)) (.pair (.sl (.int .i64)) (.pair (.int .i64) .unit)))) G) := ⟨_, fun _ => rfl, c_roll_Fire⟩
  obtain ⟨G50, hG50, cG50⟩ : ∃ G : ((.pair (.pair (.arr 4 (.int .u64)) (.pair (.arr 4 (.int .u64)) .unit)) .unit) : Ty).den → Option Bool, (∀ x, G x = roll_Full x.1) ∧ PCon Go.Proofs.Tryd.prog 50 (liftF (.pair (.pair (.arr 4 (.int .u64)) (.pair (.arr 4 (.int .u64)) .unit)) .unit) (unpack .bool) G) := ⟨_, fun _ => rfl, c_roll_Full⟩
  obtain ⟨fns, hfns, hf⟩ : ∃ fns, fns = [(16, liftF (.pair (.sl (.int .i64)) (.pair (.sl (.int .i64)) .unit)) (unpack .bool) G16), (36, liftF (.pair (.pair (.arr 4 (.int .u64)) (.pair (.arr 4 (.int .u64)) .unit)) (.pair (.int .i64) .unit)) (unpR (.pair (.pair (.arr 4 (.int .u64)) (.pair (.arr 4 (.int .u64)) .unit)) (.pair (.int .i64) .unit))) G36), (38, liftF (.pair (.pair (.arr 4 (.int .u64)) (.pair (.arr 4 (.int .u64)) .unit)) (.pair (.int .i64) .unit)) (unpR (.pair (.pair (.arr 4 (.int .u64)) (.pair (.arr 4 (.int .u64)) .unit)) (.pair (.int .i64) .unit))) G38), (40, liftF (.pair (.pair (.arr 4 (.int .u64)) (.pair (.arr 4 (.int .u64)) .unit)) (.pair (.int .i64) .unit)) (unpR (.pair (.pair (.arr 4 (.int .u64)) (.pair (.arr 4 (.int .u64)) .unit)) (.pair (.int .i64) .unit))) G40), (42, liftF (.pair (.pair (.arr 4 (.int .u64)) (.pair (.arr 4 (.int .u64)) .unit)) (.pair (.int .i64) .unit)) (unpR (.pair (.pair (.arr 4 (.int .u64)) (.pair (.arr 4 (.int .u64)) .unit)) (.pair .bool .unit))) G42), (46, liftF (.pair (.pair (.arr 4 (.int .u64)) (.pair (.arr 4 (.int .u64)) .unit)) .unit) (unpack .bool) G46), (48, liftF (.pair (.pair (.arr 4 (.int .u64)) (.pair (.arr 4 (.int .u64)) .unit)) .unit) (unpR (.pair (.pair (.arr 4 (.int .u64)) (.pair (.arr 4 (.int .u64)) .unit)) (.pair (.sl (.int .i64)) (.pair (.int .i64) .unit)))) G48), (50, liftF (.pair (.pair (.arr 4 (.int .u64)) (.pair (.arr 4 (.int .u64)) .unit)) .unit) (unpack .bool) G50)] ∧ FnsOk Go.Proofs.Tryd.prog fns := ⟨_, rfl, FnsOk.cons cG16 (FnsOk.cons cG36 (FnsOk.cons cG38 (FnsOk.cons cG40 (FnsOk.cons cG42 (FnsOk.cons cG46 (FnsOk.cons cG48 (FnsOk.cons cG50 (FnsOk.nil _))))))))⟩
  refine lift_con (E := E_L21_alive fns) (c := bodyOf Tryd.f33) (nt := 108) (rs := [.tmp 0]) (ts := [4]) (EnvC.sub tt_ok et_ok hf (PrsOk.nil _) (ItsOk.nil _) tt_L21_alive_ok et_L21_alive_ok) (PrOk.of mixed_ok) Go.Proofs.Tryd.func33 rfl (by decide) rfl rfl rfl (pureR_one (e := .bool) rfl) ?_
  subst hfns
  intro x r hw hs
  repeat'
    (try (conv => whnf)
     first
       | (with_reducible have hs := letv_out hs)
       | (refine draw_and (by kernel_rfl) ?_)
       | (refine both_mk ?_ ?_)
       | (refine br_bool (fun h => ?_) (fun h => ?_) <;> first | have hs := cT h hs | have hs := cF h hs)
       | (refine bind_elim hs fun v hb hs => ?_; first | refine callK_liftG hG16 rfl hb ?_ | refine callK_liftG hG36 rfl hb ?_ | refine callK_liftG hG38 rfl hb ?_ | refine callK_liftG hG40 rfl hb ?_ | refine callK_liftG hG42 rfl hb ?_ | refine callK_liftG hG46 rfl hb ?_ | refine callK_liftG hG48 rfl hb ?_ | refine callK_liftG hG50 rfl hb ?_)
       | refine chk_elim hs fun hs => ?_
       | (have hs := letv_out hs)
       | exact fin_some hs rfl
       | (intro b hb; first | have hs := nilq_elim hs b hb | have hs := nilqn_elim hs b hb)
       | (have hs := cT rfl hs)
       | (have hs := cF rfl hs)
       | exact (none_ne hs).elim)
noncomputable def lf_L21_Plain : List AV → Option AV := liftF (.pair (.pair (.sl (.int .i64)) (.pair (.sl (.int .i64)) .unit)) .unit) (unpack (.pair (.sl (.int .i64)) (.pair (.sl (.int .i64)) .unit))) (fun x => L21_Plain x.1)
def tt_L21_Plain : List (Nat × Ty) := [(22, .sl (.int .i64)), (49, .pair (.sl (.int .i64)) (.pair (.sl (.int .i64)) .unit))]
def et_L21_Plain : List (Nat × Nat) := [(22, 3)]
theorem tt_L21_Plain_ok : subT tt tt_L21_Plain = true := by kernel_rfl
theorem et_L21_Plain_ok : subE et et_L21_Plain = true := by kernel_rfl
def kp_L21_Plain : List (Nat × List Nat) := [(0, [1, 2]), (1, [2]), (4000000, [1, 2]), (4000001, [2])]
def od_L21_Plain : List (Nat × Ord) := [(1, (.one 0 (.one 1 (.one 3 (.one 4 (.one 2 (.one 100005 (.one 6 (.one 100007 .nil)))))))))]
noncomputable def E_L21_Plain (fns : List (Nat × (List AV → Option AV))) : Env := ⟨0, 0, et_L21_Plain, tt_L21_Plain, fns, [], od_L21_Plain, kp_L21_Plain, none, []⟩
set_option maxRecDepth 100000 in
set_option maxHeartbeats 40000000 in
theorem c_L21_Plain : PCon Go.Proofs.Tryd.prog 34 lf_L21_Plain := by
  obtain ⟨G12, hG12, cG12⟩ : ∃ G : ((.pair (.sl (.int .i64)) .unit) : Ty).den → Option (List Int), (∀ x, G x = R04_Of x.1) ∧ PCon Go.Proofs.Tryd.prog 12 (liftF (.pair (.sl (.int .i64)) .unit) (unpack (.sl (.int .i64))) G) := ⟨_, fun _ => rfl, c_R04_Of⟩
  obtain ⟨fns, hfns, hf⟩ : ∃ fns, fns = [(12, liftF (.pair (.sl (.int .i64)) .unit) (unpack (.sl (.int .i64))) G12)] ∧ FnsOk Go.Proofs.Tryd.prog fns := ⟨_, rfl, FnsOk.cons cG12 (FnsOk.nil _)⟩
  refine lift_con (E := E_L21_Plain fns) (c := bodyOf Tryd.f34) (nt := 10) (rs := [.cell 2 49]) (ts := [49]) (EnvC.sub tt_ok et_ok hf (PrsOk.nil _) (ItsOk.nil _) tt_L21_Plain_ok et_L21_Plain_ok) (PrOk.of mixed_ok) Go.Proofs.Tryd.func34 rfl (by decide) rfl rfl rfl (pureR_one (e := (.pair (.sl (.int .i64)) (.pair (.sl (.int .i64)) .unit))) rfl) ?_
  subst hfns
  intro x r hw hs
  repeat'
    (try (conv => whnf)
     first
       | (with_reducible have hs := letv_out hs)
       | (refine draw_and (by kernel_rfl) ?_)
       | (refine both_mk ?_ ?_)
       | (refine br_bool (fun h => ?_) (fun h => ?_) <;> first | have hs := cT h hs | have hs := cF h hs)
       | (refine bind_elim hs fun v hb hs => ?_; first | refine callK_liftG hG12 rfl hb ?_)
       | refine chk_elim hs fun hs => ?_
       | (have hs := letv_out hs)
       | exact fin_some hs rfl
       | (intro b hb; first | have hs := nilq_elim hs b hb | have hs := nilqn_elim hs b hb)
       | (have hs := cT rfl hs)
       | (have hs := cF rfl hs)
       | exact (none_ne hs).elim)
noncomputable def lf_L21_To : List AV → Option AV := liftF (.pair (.pair (.sl (.int .i64)) (.pair (.sl (.int .i64)) .unit)) .unit) (unpack (.pair (.arr 4 (.int .u64)) (.pair (.arr 4 (.int .u64)) .unit))) (fun x => L21_To x.1)
def tt_L21_To : List (Nat × Ty) := [(22, .sl (.int .i64)), (49, .pair (.sl (.int .i64)) (.pair (.sl (.int .i64)) .unit)), (52, .pair (.arr 4 (.int .u64)) (.pair (.arr 4 (.int .u64)) .unit))]
def et_L21_To : List (Nat × Nat) := [(22, 3)]
theorem tt_L21_To_ok : subT tt tt_L21_To = true := by kernel_rfl
theorem et_L21_To_ok : subE et et_L21_To = true := by kernel_rfl
def kp_L21_To : List (Nat × List Nat) := [(0, [1, 2]), (1, [2]), (4000000, [1, 2]), (4000001, [2])]
def od_L21_To : List (Nat × Ord) := [(1, (.one 0 (.one 1 (.one 3 (.one 4 (.one 2 (.one 100005 (.one 6 (.one 100007 .nil)))))))))]
noncomputable def E_L21_To (fns : List (Nat × (List AV → Option AV))) : Env := ⟨0, 0, et_L21_To, tt_L21_To, fns, [], od_L21_To, kp_L21_To, none, []⟩
set_option maxRecDepth 100000 in
set_option maxHeartbeats 40000000 in
theorem c_L21_To : PCon Go.Proofs.Tryd.prog 35 lf_L21_To := by
  obtain ⟨G15, hG15, cG15⟩ : ∃ G : ((.pair (.sl (.int .i64)) .unit) : Ty).den → Option (List Int), (∀ x, G x = R04_Words x.1) ∧ PCon Go.Proofs.Tryd.prog 15 (liftF (.pair (.sl (.int .i64)) .unit) (unpack (.arr 4 (.int .u64))) G) := ⟨_, fun _ => rfl, c_R04_Words⟩
  obtain ⟨fns, hfns, hf⟩ : ∃ fns, fns = [(15, liftF (.pair (.sl (.int .i64)) .unit) (unpack (.arr 4 (.int .u64))) G15)] ∧ FnsOk Go.Proofs.Tryd.prog fns := ⟨_, rfl, FnsOk.cons cG15 (FnsOk.nil _)⟩
  refine lift_con (E := E_L21_To fns) (c := bodyOf Tryd.f35) (nt := 10) (rs := [.cell 2 52]) (ts := [52]) (EnvC.sub tt_ok et_ok hf (PrsOk.nil _) (ItsOk.nil _) tt_L21_To_ok et_L21_To_ok) (PrOk.of mixed_ok) Go.Proofs.Tryd.func35 rfl (by decide) rfl rfl rfl (pureR_one (e := (.pair (.arr 4 (.int .u64)) (.pair (.arr 4 (.int .u64)) .unit))) rfl) ?_
  subst hfns
  intro x r hw hs
  repeat'
    (try (conv => whnf)
     first
       | (with_reducible have hs := letv_out hs)
       | (refine draw_and (by kernel_rfl) ?_)
       | (refine both_mk ?_ ?_)
       | (refine br_bool (fun h => ?_) (fun h => ?_) <;> first | have hs := cT h hs | have hs := cF h hs)
       | (refine bind_elim hs fun v hb hs => ?_; first | refine callK_liftG hG15 rfl hb ?_)
       | refine chk_elim hs fun hs => ?_
       | (have hs := letv_out hs)
       | exact fin_some hs rfl
       | (intro b hb; first | have hs := nilq_elim hs b hb | have hs := nilqn_elim hs b hb)
       | (have hs := cT rfl hs)
       | (have hs := cF rfl hs)
       | exact (none_ne hs).elim)
noncomputable def lf_L21_Same : List AV → Option AV := liftF (.pair (.pair (.sl (.int .i64)) (.pair (.sl (.int .i64)) .unit)) (.pair (.pair (.sl (.int .i64)) (.pair (.sl (.int .i64)) .unit)) .unit)) (unpack .bool) (fun x => L21_Same x.1 x.2.1)
def tt_L21_Same : List (Nat × Ty) := [(4, .bool), (22, .sl (.int .i64)), (49, .pair (.sl (.int .i64)) (.pair (.sl (.int .i64)) .unit))]
def et_L21_Same : List (Nat × Nat) := [(22, 3)]
theorem tt_L21_Same_ok : subT tt tt_L21_Same = true := by kernel_rfl
theorem et_L21_Same_ok : subE et et_L21_Same = true := by kernel_rfl
def kp_L21_Same : List (Nat × List Nat) := [(0, [2, 3]), (1, [4]), (4000000, [2, 3]), (4000001, [])]
def od_L21_Same : List (Nat × Ord) := []
noncomputable def E_L21_Same (fns : List (Nat × (List AV → Option AV))) : Env := ⟨0, 0, et_L21_Same, tt_L21_Same, fns, [], od_L21_Same, kp_L21_Same, none, []⟩
set_option maxRecDepth 100000 in
set_option maxHeartbeats 40000000 in
theorem c_L21_Same : PCon Go.Proofs.Tryd.prog 44 lf_L21_Same := by
  obtain ⟨G16, hG16, cG16⟩ : ∃ G : ((.pair (.sl (.int .i64)) (.pair (.sl (.int .i64)) .unit)) : Ty).den → Option Bool, (∀ x, G x = R02_Same x.1 x.2.1) ∧ PCon Go.Proofs.Tryd.prog 16 (liftF (.pair (.sl (.int .i64)) (.pair (.sl (.int .i64)) .unit)) (unpack .bool) G) := ⟨_, fun _ => rfl, c_R02_Same⟩
  obtain ⟨fns, hfns, hf⟩ : ∃ fns, fns = [(16, liftF (.pair (.sl (.int .i64)) (.pair (.sl (.int .i64)) .unit)) (unpack .bool) G16)] ∧ FnsOk Go.Proofs.Tryd.prog fns := ⟨_, rfl, FnsOk.cons cG16 (FnsOk.nil _)⟩
  refine lift_con (E := E_L21_Same fns) (c := bodyOf Tryd.f44) (nt := 17) (rs := [.tmp 4]) (ts := [4]) (EnvC.sub tt_ok et_ok hf (PrsOk.nil _) (ItsOk.nil _) tt_L21_Same_ok et_L21_Same_ok) (PrOk.of mixed_ok) Go.Proofs.Tryd.func44 rfl (by decide) rfl rfl rfl (pureR_one (e := .bool) rfl) ?_
  subst hfns
  intro x r hw hs
  repeat'
    (try (conv => whnf)
     first
       | (with_reducible have hs := letv_out hs)
       | (refine draw_and (by kernel_rfl) ?_)
       | (refine both_mk ?_ ?_)
       | (refine br_bool (fun h => ?_) (fun h => ?_) <;> first | have hs := cT h hs | have hs := cF h hs)
       | (refine bind_elim hs fun v hb hs => ?_; first | refine callK_liftG hG16 rfl hb ?_)
       | refine chk_elim hs fun hs => ?_
       | (have hs := letv_out hs)
       | exact fin_some hs rfl
       | (intro b hb; first | have hs := nilq_elim hs b hb | have hs := nilqn_elim hs b hb)
       | (have hs := cT rfl hs)
       | (have hs := cF rfl hs)
       | exact (none_ne hs).elim)
noncomputable def lf_L21_From : List AV → Option AV := liftF (.pair (.pair (.arr 4 (.int .u64)) (.pair (.arr 4 (.int .u64)) .unit)) .unit) (unpack (.pair (.sl (.int .i64)) (.pair (.sl (.int .i64)) .unit))) (fun x => L21_From x.1)
def tt_L21_From : List (Nat × Ty) := [(26, .arr 4 (.int .u64)), (49, .pair (.sl (.int .i64)) (.pair (.sl (.int .i64)) .unit)), (52, .pair (.arr 4 (.int .u64)) (.pair (.arr 4 (.int .u64)) .unit))]
def et_L21_From : List (Nat × Nat) := []
theorem tt_L21_From_ok : subT tt tt_L21_From = true := by kernel_rfl
theorem et_L21_From_ok : subE et et_L21_From = true := by kernel_rfl
def kp_L21_From : List (Nat × List Nat) := [(0, [1, 2]), (1, [2]), (4000000, [1, 2]), (4000001, [2])]
def od_L21_From : List (Nat × Ord) := [(1, (.one 0 (.one 1 (.one 3 (.one 4 (.one 2 (.one 100005 (.one 6 (.one 100007 .nil)))))))))]
noncomputable def E_L21_From (fns : List (Nat × (List AV → Option AV))) : Env := ⟨0, 0, et_L21_From, tt_L21_From, fns, [], od_L21_From, kp_L21_From, none, []⟩
set_option maxRecDepth 100000 in
set_option maxHeartbeats 40000000 in
theorem c_L21_From : PCon Go.Proofs.Tryd.prog 45 lf_L21_From := by
  obtain ⟨G17, hG17, cG17⟩ : ∃ G : ((.pair (.arr 4 (.int .u64)) .unit) : Ty).den → Option (List Int), (∀ x, G x = bitset_List x.1) ∧ PCon Go.Proofs.Tryd.prog 17 (liftF (.pair (.arr 4 (.int .u64)) .unit) (unpack (.sl (.int .i64))) G) := ⟨_, fun _ => rfl, c_bitset_List⟩
  obtain ⟨fns, hfns, hf⟩ : ∃ fns, fns = [(17, liftF (.pair (.arr 4 (.int .u64)) .unit) (unpack (.sl (.int .i64))) G17)] ∧ FnsOk Go.Proofs.Tryd.prog fns := ⟨_, rfl, FnsOk.cons cG17 (FnsOk.nil _)⟩
  refine lift_con (E := E_L21_From fns) (c := bodyOf Tryd.f45) (nt := 10) (rs := [.cell 2 49]) (ts := [49]) (EnvC.sub tt_ok et_ok hf (PrsOk.nil _) (ItsOk.nil _) tt_L21_From_ok et_L21_From_ok) (PrOk.of mixed_ok) Go.Proofs.Tryd.func45 rfl (by decide) rfl rfl rfl (pureR_one (e := (.pair (.sl (.int .i64)) (.pair (.sl (.int .i64)) .unit))) rfl) ?_
  subst hfns
  intro x r hw hs
  repeat'
    (try (conv => whnf)
     first
       | (with_reducible have hs := letv_out hs)
       | (refine draw_and (by kernel_rfl) ?_)
       | (refine both_mk ?_ ?_)
       | (refine br_bool (fun h => ?_) (fun h => ?_) <;> first | have hs := cT h hs | have hs := cF h hs)
       | (refine bind_elim hs fun v hb hs => ?_; first | refine callK_liftG hG17 rfl hb ?_)
       | refine chk_elim hs fun hs => ?_
       | (have hs := letv_out hs)
       | exact fin_some hs rfl
       | (intro b hb; first | have hs := nilq_elim hs b hb | have hs := nilqn_elim hs b hb)
       | (have hs := cT rfl hs)
       | (have hs := cF rfl hs)
       | exact (none_ne hs).elim)
end Go.Proofs.YtejedlpnejjnbaaDoorV
