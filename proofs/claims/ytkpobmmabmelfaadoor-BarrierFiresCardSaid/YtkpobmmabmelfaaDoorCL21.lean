import Derived.Test.YtkpobmmabmelfaaDoorVcTab
import Derived.Test.YtkpobmmabmelfaaDoorDDBar
import Derived.Test.YtkpobmmabmelfaaDoorCR02
import Derived.Test.YtkpobmmabmelfaaDoorCR04
import Derived.Test.YtkpobmmabmelfaaDoorCbitset
namespace Go.Proofs.YtkpobmmabmelfaaDoorV
open Go.Proofs
set_option linter.unusedVariables false
noncomputable def lf_L21_Plain : List AV → Option AV := liftF (.pair (.pair (.sl (.int .i64)) (.pair (.sl (.int .i64)) .unit)) .unit) (unpack (.pair (.sl (.int .i64)) (.pair (.sl (.int .i64)) .unit))) (fun x => L21_Plain x.1)
def tt_L21_Plain : List (Nat × Ty) := [(24, .sl (.int .i64)), (26, .pair (.sl (.int .i64)) (.pair (.sl (.int .i64)) .unit))]
def et_L21_Plain : List (Nat × Nat) := [(24, 3)]
theorem tt_L21_Plain_ok : subT tt tt_L21_Plain = true := by kernel_rfl
theorem et_L21_Plain_ok : subE et et_L21_Plain = true := by kernel_rfl
def kp_L21_Plain : List (Nat × List Nat) := [(0, [1, 2]), (1, [2]), (4000000, [1, 2]), (4000001, [2])]
def od_L21_Plain : List (Nat × Ord) := [(1, (.one 0 (.one 1 (.one 3 (.one 4 (.one 2 (.one 100005 (.one 6 (.one 100007 .nil)))))))))]
noncomputable def E_L21_Plain (fns : List (Nat × (List AV → Option AV))) : Env := ⟨0, 0, et_L21_Plain, tt_L21_Plain, fns, [], od_L21_Plain, kp_L21_Plain, none, []⟩
set_option maxRecDepth 100000 in
set_option maxHeartbeats 40000000 in
theorem c_L21_Plain : PCon Go.Proofs.Tryd.prog 59 lf_L21_Plain := by
  obtain ⟨G92, hG92, cG92⟩ : ∃ G : ((.pair (.sl (.int .i64)) .unit) : Ty).den → Option (List Int), (∀ x, G x = R04_Of x.1) ∧ PCon Go.Proofs.Tryd.prog 92 (liftF (.pair (.sl (.int .i64)) .unit) (unpack (.sl (.int .i64))) G) := ⟨_, fun _ => rfl, c_R04_Of⟩
  obtain ⟨fns, hfns, hf⟩ : ∃ fns, fns = [(92, liftF (.pair (.sl (.int .i64)) .unit) (unpack (.sl (.int .i64))) G92)] ∧ FnsOk Go.Proofs.Tryd.prog fns := ⟨_, rfl, FnsOk.cons cG92 (FnsOk.nil _)⟩
  refine lift_con (E := E_L21_Plain fns) (c := bodyOf Tryd.f59) (nt := 10) (rs := [.cell 2 26]) (ts := [26]) (EnvC.sub tt_ok et_ok hf (PrsOk.nil _) (ItsOk.nil _) tt_L21_Plain_ok et_L21_Plain_ok) (PrOk.of mixed_ok) Go.Proofs.Tryd.func59 rfl (by decide) rfl rfl rfl (pureR_one (e := (.pair (.sl (.int .i64)) (.pair (.sl (.int .i64)) .unit))) rfl) ?_
  subst hfns
  intro x r hw hs
  repeat'
    (try (conv => whnf)
     first
       | (with_reducible have hs := letv_out hs)
       | (refine draw_and (by kernel_rfl) ?_)
       | (refine both_mk ?_ ?_)
       | (refine br_bool (fun h => ?_) (fun h => ?_) <;> first | have hs := cT h hs | have hs := cF h hs)
       | (refine bind_elim hs fun v hb hs => ?_; first | refine callK_liftG hG92 rfl hb ?_)
       | refine chk_elim hs fun hs => ?_
       | (have hs := letv_out hs)
       | exact fin_some hs rfl
       | (intro b hb; first | have hs := nilq_elim hs b hb | have hs := nilqn_elim hs b hb)
       | (have hs := cT rfl hs)
       | (have hs := cF rfl hs)
       | exact (none_ne hs).elim)
noncomputable def lf_L21_To : List AV → Option AV := liftF (.pair (.pair (.sl (.int .i64)) (.pair (.sl (.int .i64)) .unit)) .unit) (unpack (.pair (.arr 4 (.int .u64)) (.pair (.arr 4 (.int .u64)) .unit))) (fun x => L21_To x.1)
def tt_L21_To : List (Nat × Ty) := [(24, .sl (.int .i64)), (26, .pair (.sl (.int .i64)) (.pair (.sl (.int .i64)) .unit)), (36, .pair (.arr 4 (.int .u64)) (.pair (.arr 4 (.int .u64)) .unit))]
def et_L21_To : List (Nat × Nat) := [(24, 3)]
theorem tt_L21_To_ok : subT tt tt_L21_To = true := by kernel_rfl
theorem et_L21_To_ok : subE et et_L21_To = true := by kernel_rfl
def kp_L21_To : List (Nat × List Nat) := [(0, [1, 2]), (1, [2]), (4000000, [1, 2]), (4000001, [2])]
def od_L21_To : List (Nat × Ord) := [(1, (.one 0 (.one 1 (.one 3 (.one 4 (.one 2 (.one 100005 (.one 6 (.one 100007 .nil)))))))))]
noncomputable def E_L21_To (fns : List (Nat × (List AV → Option AV))) : Env := ⟨0, 0, et_L21_To, tt_L21_To, fns, [], od_L21_To, kp_L21_To, none, []⟩
set_option maxRecDepth 100000 in
set_option maxHeartbeats 40000000 in
theorem c_L21_To : PCon Go.Proofs.Tryd.prog 60 lf_L21_To := by
  obtain ⟨G93, hG93, cG93⟩ : ∃ G : ((.pair (.sl (.int .i64)) .unit) : Ty).den → Option (List Int), (∀ x, G x = R04_Words x.1) ∧ PCon Go.Proofs.Tryd.prog 93 (liftF (.pair (.sl (.int .i64)) .unit) (unpack (.arr 4 (.int .u64))) G) := ⟨_, fun _ => rfl, c_R04_Words⟩
  obtain ⟨fns, hfns, hf⟩ : ∃ fns, fns = [(93, liftF (.pair (.sl (.int .i64)) .unit) (unpack (.arr 4 (.int .u64))) G93)] ∧ FnsOk Go.Proofs.Tryd.prog fns := ⟨_, rfl, FnsOk.cons cG93 (FnsOk.nil _)⟩
  refine lift_con (E := E_L21_To fns) (c := bodyOf Tryd.f60) (nt := 10) (rs := [.cell 2 36]) (ts := [36]) (EnvC.sub tt_ok et_ok hf (PrsOk.nil _) (ItsOk.nil _) tt_L21_To_ok et_L21_To_ok) (PrOk.of mixed_ok) Go.Proofs.Tryd.func60 rfl (by decide) rfl rfl rfl (pureR_one (e := (.pair (.arr 4 (.int .u64)) (.pair (.arr 4 (.int .u64)) .unit))) rfl) ?_
  subst hfns
  intro x r hw hs
  repeat'
    (try (conv => whnf)
     first
       | (with_reducible have hs := letv_out hs)
       | (refine draw_and (by kernel_rfl) ?_)
       | (refine both_mk ?_ ?_)
       | (refine br_bool (fun h => ?_) (fun h => ?_) <;> first | have hs := cT h hs | have hs := cF h hs)
       | (refine bind_elim hs fun v hb hs => ?_; first | refine callK_liftG hG93 rfl hb ?_)
       | refine chk_elim hs fun hs => ?_
       | (have hs := letv_out hs)
       | exact fin_some hs rfl
       | (intro b hb; first | have hs := nilq_elim hs b hb | have hs := nilqn_elim hs b hb)
       | (have hs := cT rfl hs)
       | (have hs := cF rfl hs)
       | exact (none_ne hs).elim)
noncomputable def lf_L21_Same : List AV → Option AV := liftF (.pair (.pair (.sl (.int .i64)) (.pair (.sl (.int .i64)) .unit)) (.pair (.pair (.sl (.int .i64)) (.pair (.sl (.int .i64)) .unit)) .unit)) (unpack .bool) (fun x => L21_Same x.1 x.2.1)
def tt_L21_Same : List (Nat × Ty) := [(4, .bool), (24, .sl (.int .i64)), (26, .pair (.sl (.int .i64)) (.pair (.sl (.int .i64)) .unit))]
def et_L21_Same : List (Nat × Nat) := [(24, 3)]
theorem tt_L21_Same_ok : subT tt tt_L21_Same = true := by kernel_rfl
theorem et_L21_Same_ok : subE et et_L21_Same = true := by kernel_rfl
def kp_L21_Same : List (Nat × List Nat) := [(0, [2, 3]), (1, [4]), (4000000, [2, 3]), (4000001, [])]
def od_L21_Same : List (Nat × Ord) := []
noncomputable def E_L21_Same (fns : List (Nat × (List AV → Option AV))) : Env := ⟨0, 0, et_L21_Same, tt_L21_Same, fns, [], od_L21_Same, kp_L21_Same, none, []⟩
set_option maxRecDepth 100000 in
set_option maxHeartbeats 40000000 in
theorem c_L21_Same : PCon Go.Proofs.Tryd.prog 67 lf_L21_Same := by
  obtain ⟨G20, hG20, cG20⟩ : ∃ G : ((.pair (.sl (.int .i64)) (.pair (.sl (.int .i64)) .unit)) : Ty).den → Option Bool, (∀ x, G x = R02_Same x.1 x.2.1) ∧ PCon Go.Proofs.Tryd.prog 20 (liftF (.pair (.sl (.int .i64)) (.pair (.sl (.int .i64)) .unit)) (unpack .bool) G) := ⟨_, fun _ => rfl, c_R02_Same⟩
  obtain ⟨fns, hfns, hf⟩ : ∃ fns, fns = [(20, liftF (.pair (.sl (.int .i64)) (.pair (.sl (.int .i64)) .unit)) (unpack .bool) G20)] ∧ FnsOk Go.Proofs.Tryd.prog fns := ⟨_, rfl, FnsOk.cons cG20 (FnsOk.nil _)⟩
  refine lift_con (E := E_L21_Same fns) (c := bodyOf Tryd.f67) (nt := 17) (rs := [.tmp 4]) (ts := [4]) (EnvC.sub tt_ok et_ok hf (PrsOk.nil _) (ItsOk.nil _) tt_L21_Same_ok et_L21_Same_ok) (PrOk.of mixed_ok) Go.Proofs.Tryd.func67 rfl (by decide) rfl rfl rfl (pureR_one (e := .bool) rfl) ?_
  subst hfns
  intro x r hw hs
  repeat'
    (try (conv => whnf)
     first
       | (with_reducible have hs := letv_out hs)
       | (refine draw_and (by kernel_rfl) ?_)
       | (refine both_mk ?_ ?_)
       | (refine br_bool (fun h => ?_) (fun h => ?_) <;> first | have hs := cT h hs | have hs := cF h hs)
       | (refine bind_elim hs fun v hb hs => ?_; first | refine callK_liftG hG20 rfl hb ?_)
       | refine chk_elim hs fun hs => ?_
       | (have hs := letv_out hs)
       | exact fin_some hs rfl
       | (intro b hb; first | have hs := nilq_elim hs b hb | have hs := nilqn_elim hs b hb)
       | (have hs := cT rfl hs)
       | (have hs := cF rfl hs)
       | exact (none_ne hs).elim)
noncomputable def lf_L21_From : List AV → Option AV := liftF (.pair (.pair (.arr 4 (.int .u64)) (.pair (.arr 4 (.int .u64)) .unit)) .unit) (unpack (.pair (.sl (.int .i64)) (.pair (.sl (.int .i64)) .unit))) (fun x => L21_From x.1)
def tt_L21_From : List (Nat × Ty) := [(26, .pair (.sl (.int .i64)) (.pair (.sl (.int .i64)) .unit)), (34, .arr 4 (.int .u64)), (36, .pair (.arr 4 (.int .u64)) (.pair (.arr 4 (.int .u64)) .unit))]
def et_L21_From : List (Nat × Nat) := []
theorem tt_L21_From_ok : subT tt tt_L21_From = true := by kernel_rfl
theorem et_L21_From_ok : subE et et_L21_From = true := by kernel_rfl
def kp_L21_From : List (Nat × List Nat) := [(0, [1, 2]), (1, [2]), (4000000, [1, 2]), (4000001, [2])]
def od_L21_From : List (Nat × Ord) := [(1, (.one 0 (.one 1 (.one 3 (.one 4 (.one 2 (.one 100005 (.one 6 (.one 100007 .nil)))))))))]
noncomputable def E_L21_From (fns : List (Nat × (List AV → Option AV))) : Env := ⟨0, 0, et_L21_From, tt_L21_From, fns, [], od_L21_From, kp_L21_From, none, []⟩
set_option maxRecDepth 100000 in
set_option maxHeartbeats 40000000 in
theorem c_L21_From : PCon Go.Proofs.Tryd.prog 68 lf_L21_From := by
  obtain ⟨G94, hG94, cG94⟩ : ∃ G : ((.pair (.arr 4 (.int .u64)) .unit) : Ty).den → Option (List Int), (∀ x, G x = bitset_List x.1) ∧ PCon Go.Proofs.Tryd.prog 94 (liftF (.pair (.arr 4 (.int .u64)) .unit) (unpack (.sl (.int .i64))) G) := ⟨_, fun _ => rfl, c_bitset_List⟩
  obtain ⟨fns, hfns, hf⟩ : ∃ fns, fns = [(94, liftF (.pair (.arr 4 (.int .u64)) .unit) (unpack (.sl (.int .i64))) G94)] ∧ FnsOk Go.Proofs.Tryd.prog fns := ⟨_, rfl, FnsOk.cons cG94 (FnsOk.nil _)⟩
  refine lift_con (E := E_L21_From fns) (c := bodyOf Tryd.f68) (nt := 10) (rs := [.cell 2 26]) (ts := [26]) (EnvC.sub tt_ok et_ok hf (PrsOk.nil _) (ItsOk.nil _) tt_L21_From_ok et_L21_From_ok) (PrOk.of mixed_ok) Go.Proofs.Tryd.func68 rfl (by decide) rfl rfl rfl (pureR_one (e := (.pair (.sl (.int .i64)) (.pair (.sl (.int .i64)) .unit))) rfl) ?_
  subst hfns
  intro x r hw hs
  repeat'
    (try (conv => whnf)
     first
       | (with_reducible have hs := letv_out hs)
       | (refine draw_and (by kernel_rfl) ?_)
       | (refine both_mk ?_ ?_)
       | (refine br_bool (fun h => ?_) (fun h => ?_) <;> first | have hs := cT h hs | have hs := cF h hs)
       | (refine bind_elim hs fun v hb hs => ?_; first | refine callK_liftG hG94 rfl hb ?_)
       | refine chk_elim hs fun hs => ?_
       | (have hs := letv_out hs)
       | exact fin_some hs rfl
       | (intro b hb; first | have hs := nilq_elim hs b hb | have hs := nilqn_elim hs b hb)
       | (have hs := cT rfl hs)
       | (have hs := cF rfl hs)
       | exact (none_ne hs).elim)
end Go.Proofs.YtkpobmmabmelfaaDoorV
