import Derived.Test.YtejedlpnejjnbaaDoorVcTab
import Derived.Test.YtejedlpnejjnbaaDoorDR21
import Derived.Test.YtejedlpnejjnbaaDoorCR04
namespace Go.Proofs.YtejedlpnejjnbaaDoorV
open Go.Proofs
set_option linter.unusedVariables false
noncomputable def lf_R21_Fine : List AV → Option AV := liftF (.pair (.pair (.sl (.int .i64)) (.pair (.sl (.int .i64)) .unit)) .unit) (unpack .bool) (fun x => R21_Fine x.1)
def tt_R21_Fine : List (Nat × Ty) := [(3, .int .i64), (4, .bool), (22, .sl (.int .i64)), (49, .pair (.sl (.int .i64)) (.pair (.sl (.int .i64)) .unit))]
def et_R21_Fine : List (Nat × Nat) := [(22, 3)]
theorem tt_R21_Fine_ok : subT tt tt_R21_Fine = true := by kernel_rfl
theorem et_R21_Fine_ok : subE et et_R21_Fine = true := by kernel_rfl
def R21_Fine_S1 (u0 : AV) (B2 : Blk) (x1 : Int) : St :=
  ⟨[(1, u0), (3, .int .i64 x1)], [(1, B2)], none⟩
def R21_Fine_M1 : Msk := ⟨[1, 3], [1], [], [], [], [], [], [], []⟩
def kp_R21_Fine : List (Nat × List Nat) := [(0, [1]), (1, [1, 3]), (2, [1, 3, 8]), (3, [1, 3]), (4, [1, 3, 24]), (5, [2]), (6, [2]), (4000000, [1]), (4000001, [1]), (4000002, [1]), (4000003, [1]), (4000004, [1]), (4000005, []), (4000006, [])]
def od_R21_Fine : List (Nat × Ord) := []
noncomputable def E_R21_Fine (fns : List (Nat × (List AV → Option AV))) : Env := ⟨0, 0, et_R21_Fine, tt_R21_Fine, fns, [], od_R21_Fine, kp_R21_Fine, none, []⟩
set_option maxRecDepth 100000 in
set_option maxHeartbeats 40000000 in
theorem c_R21_Fine : PCon Go.Proofs.Tryd.prog 47 lf_R21_Fine := by
  obtain ⟨G31, hG31, cG31⟩ : ∃ G : ((.pair (.sl (.int .i64)) (.pair (.sl (.int .i64)) .unit)) : Ty).den → Option (List Int), (∀ x, G x = R04_Less x.1 x.2.1) ∧ PCon Go.Proofs.Tryd.prog 31 (liftF (.pair (.sl (.int .i64)) (.pair (.sl (.int .i64)) .unit)) (unpack (.sl (.int .i64))) G) := ⟨_, fun _ => rfl, c_R04_Less⟩
  obtain ⟨fns, hfns, hf⟩ : ∃ fns, fns = [(31, liftF (.pair (.sl (.int .i64)) (.pair (.sl (.int .i64)) .unit)) (unpack (.sl (.int .i64))) G31)] ∧ FnsOk Go.Proofs.Tryd.prog fns := ⟨_, rfl, FnsOk.cons cG31 (FnsOk.nil _)⟩
  refine lift_con (E := E_R21_Fine fns) (c := bodyOf Tryd.f47) (nt := 32) (rs := [.tmp 2]) (ts := [4]) (EnvC.sub tt_ok et_ok hf (PrsOk.nil _) (ItsOk.nil _) tt_R21_Fine_ok et_R21_Fine_ok) (PrOk.of mixed_ok) Go.Proofs.Tryd.func47 rfl (by decide) rfl rfl rfl (pureR_one (e := .bool) rfl) ?_
  subst hfns
  intro x r hw hs
  repeat'
    (try (conv => whnf)
     first
       | (with_reducible have hs := letv_out hs)
       | (refine draw_and (by kernel_rfl) ?_)
       | (refine both_mk ?_ ?_)
       | (refine br_bool (fun h => ?_) (fun h => ?_) <;> first | have hs := cT h hs | have hs := cF h hs)
       | (refine bind_elim hs fun v hb hs => ?_; first | refine callK_liftG hG31 rfl hb ?_)
       | refine chk_elim hs fun hs => ?_
       | (have hs := letv_out hs)
       | exact fin_some hs rfl
       | (intro b hb; first | have hs := nilq_elim hs b hb | have hs := nilqn_elim hs b hb)
       | exact hJ1 _ hs
       | (have hs := cT rfl hs)
       | (have hs := cF rfl hs)
       | (refine vc_loop (R21_Fine_S1 _ _) R21_Fine_M1 hs rfl ?_; intro J1 k1 x1 hJ1 hs)
       | exact (none_ne hs).elim)
noncomputable def lf_R21_asked : List AV → Option AV := liftF (.pair (.pair (.sl (.int .i64)) (.pair (.sl (.int .i64)) .unit)) (.pair (.int .i64) .unit)) (unpack (.int .i64)) (fun x => R21_asked x.1 x.2.1)
def tt_R21_asked : List (Nat × Ty) := [(3, .int .i64), (4, .bool), (49, .pair (.sl (.int .i64)) (.pair (.sl (.int .i64)) .unit))]
def et_R21_asked : List (Nat × Nat) := []
theorem tt_R21_asked_ok : subT tt tt_R21_asked = true := by kernel_rfl
theorem et_R21_asked_ok : subE et et_R21_asked = true := by kernel_rfl
def kp_R21_asked : List (Nat × List Nat) := [(0, [1, 2]), (1, [1, 7]), (2, [4]), (3, [13]), (4, [4]), (5, [4]), (4000000, [2]), (4000001, []), (4000002, []), (4000003, []), (4000004, []), (4000005, [])]
def od_R21_asked : List (Nat × Ord) := []
noncomputable def E_R21_asked (fns : List (Nat × (List AV → Option AV))) : Env := ⟨0, 0, et_R21_asked, tt_R21_asked, fns, [], od_R21_asked, kp_R21_asked, none, []⟩
set_option maxRecDepth 100000 in
set_option maxHeartbeats 40000000 in
theorem c_R21_asked : PCon Go.Proofs.Tryd.prog 62 lf_R21_asked := by
  obtain ⟨G47, hG47, cG47⟩ : ∃ G : ((.pair (.pair (.sl (.int .i64)) (.pair (.sl (.int .i64)) .unit)) .unit) : Ty).den → Option Bool, (∀ x, G x = R21_Fine x.1) ∧ PCon Go.Proofs.Tryd.prog 47 (liftF (.pair (.pair (.sl (.int .i64)) (.pair (.sl (.int .i64)) .unit)) .unit) (unpack .bool) G) := ⟨_, fun _ => rfl, c_R21_Fine⟩
  obtain ⟨fns, hfns, hf⟩ : ∃ fns, fns = [(47, liftF (.pair (.pair (.sl (.int .i64)) (.pair (.sl (.int .i64)) .unit)) .unit) (unpack .bool) G47)] ∧ FnsOk Go.Proofs.Tryd.prog fns := ⟨_, rfl, FnsOk.cons cG47 (FnsOk.nil _)⟩
  refine lift_con (E := E_R21_asked fns) (c := bodyOf Tryd.f62) (nt := 14) (rs := [.tmp 4]) (ts := [3]) (EnvC.sub tt_ok et_ok hf (PrsOk.nil _) (ItsOk.nil _) tt_R21_asked_ok et_R21_asked_ok) (PrOk.of mixed_ok) Go.Proofs.Tryd.func62 rfl (by decide) rfl rfl rfl (pureR_one (e := (.int .i64)) rfl) ?_
  subst hfns
  intro x r hw hs
  repeat'
    (try (conv => whnf)
     first
       | (with_reducible have hs := letv_out hs)
       | (refine draw_and (by kernel_rfl) ?_)
       | (refine both_mk ?_ ?_)
       | (refine br_bool (fun h => ?_) (fun h => ?_) <;> first | have hs := cT h hs | have hs := cF h hs)
       | (refine bind_elim hs fun v hb hs => ?_; first | refine callK_liftG hG47 rfl hb ?_)
       | refine chk_elim hs fun hs => ?_
       | (have hs := letv_out hs)
       | exact fin_some hs rfl
       | (intro b hb; first | have hs := nilq_elim hs b hb | have hs := nilqn_elim hs b hb)
       | (have hs := cT rfl hs)
       | (have hs := cF rfl hs)
       | exact (none_ne hs).elim)
noncomputable def lf_R21_Enrol : List AV → Option AV := liftF (.pair (.pair (.sl (.int .i64)) (.pair (.sl (.int .i64)) .unit)) (.pair (.int .i64) .unit)) (unpR (.pair (.pair (.sl (.int .i64)) (.pair (.sl (.int .i64)) .unit)) (.pair (.int .i64) .unit))) (fun x => R21_Enrol x.1 x.2.1)
def tt_R21_Enrol : List (Nat × Ty) := [(3, .int .i64), (22, .sl (.int .i64)), (49, .pair (.sl (.int .i64)) (.pair (.sl (.int .i64)) .unit))]
def et_R21_Enrol : List (Nat × Nat) := [(22, 3)]
theorem tt_R21_Enrol_ok : subT tt tt_R21_Enrol = true := by kernel_rfl
theorem et_R21_Enrol_ok : subE et et_R21_Enrol = true := by kernel_rfl
def kp_R21_Enrol : List (Nat × List Nat) := [(0, [1, 2, 4]), (1, [1, 2, 4, 6]), (2, [1, 2, 4, 6, 11]), (3, [4, 5]), (4, [1, 2, 4, 17]), (5, [4, 5]), (6, [2, 4]), (7, [4, 5]), (4000000, [2, 4]), (4000001, [2, 4]), (4000002, [2, 4]), (4000003, [4]), (4000004, [2, 4]), (4000005, [4]), (4000006, [2, 4]), (4000007, [4])]
def od_R21_Enrol : List (Nat × Ord) := []
noncomputable def E_R21_Enrol (fns : List (Nat × (List AV → Option AV))) : Env := ⟨0, 0, et_R21_Enrol, tt_R21_Enrol, fns, [], od_R21_Enrol, kp_R21_Enrol, none, []⟩
set_option maxRecDepth 100000 in
set_option maxHeartbeats 40000000 in
theorem c_R21_Enrol : PCon Go.Proofs.Tryd.prog 37 lf_R21_Enrol := by
  obtain ⟨G20, hG20, cG20⟩ : ∃ G : ((.pair (.sl (.int .i64)) (.pair (.int .i64) .unit)) : Ty).den → Option Bool, (∀ x, G x = R04_Has x.1 x.2.1) ∧ PCon Go.Proofs.Tryd.prog 20 (liftF (.pair (.sl (.int .i64)) (.pair (.int .i64) .unit)) (unpack .bool) G) := ⟨_, fun _ => rfl, c_R04_Has⟩
  obtain ⟨G22, hG22, cG22⟩ : ∃ G : ((.pair (.sl (.int .i64)) (.pair (.int .i64) .unit)) : Ty).den → Option (List Int), (∀ x, G x = R04_Add x.1 x.2.1) ∧ PCon Go.Proofs.Tryd.prog 22 (liftF (.pair (.sl (.int .i64)) (.pair (.int .i64) .unit)) (unpack (.sl (.int .i64))) G) := ⟨_, fun _ => rfl, c_R04_Add⟩
  obtain ⟨G62, hG62, cG62⟩ : ∃ G : ((.pair (.pair (.sl (.int .i64)) (.pair (.sl (.int .i64)) .unit)) (.pair (.int .i64) .unit)) : Ty).den → Option Int, (∀ x, G x = R21_asked x.1 x.2.1) ∧ PCon Go.Proofs.Tryd.prog 62 (liftF (.pair (.pair (.sl (.int .i64)) (.pair (.sl (.int .i64)) .unit)) (.pair (.int .i64) .unit)) (unpack (.int .i64)) G) := ⟨_, fun _ => rfl, c_R21_asked⟩
  obtain ⟨fns, hfns, hf⟩ : ∃ fns, fns = [(20, liftF (.pair (.sl (.int .i64)) (.pair (.int .i64) .unit)) (unpack .bool) G20), (22, liftF (.pair (.sl (.int .i64)) (.pair (.int .i64) .unit)) (unpack (.sl (.int .i64))) G22), (62, liftF (.pair (.pair (.sl (.int .i64)) (.pair (.sl (.int .i64)) .unit)) (.pair (.int .i64) .unit)) (unpack (.int .i64)) G62)] ∧ FnsOk Go.Proofs.Tryd.prog fns := ⟨_, rfl, FnsOk.cons cG20 (FnsOk.cons cG22 (FnsOk.cons cG62 (FnsOk.nil _)))⟩
  refine lift_con (E := E_R21_Enrol fns) (c := bodyOf Tryd.f37) (nt := 25) (rs := [.cell 4 49, .tmp 5]) (ts := [49, 3]) (EnvC.sub tt_ok et_ok hf (PrsOk.nil _) (ItsOk.nil _) tt_R21_Enrol_ok et_R21_Enrol_ok) (PrOk.of mixed_ok) Go.Proofs.Tryd.func37 rfl (by decide) rfl rfl rfl (pureR_many (e := (.pair (.pair (.sl (.int .i64)) (.pair (.sl (.int .i64)) .unit)) (.pair (.int .i64) .unit))) rfl) ?_
  subst hfns
  intro x r hw hs
  repeat'
    (try (conv => whnf)
     first
       | (with_reducible have hs := letv_out hs)
       | (refine draw_and (by kernel_rfl) ?_)
       | (refine both_mk ?_ ?_)
       | (refine br_bool (fun h => ?_) (fun h => ?_) <;> first | have hs := cT h hs | have hs := cF h hs)
       | (refine bind_elim hs fun v hb hs => ?_; first | refine callK_liftG hG20 rfl hb ?_ | refine callK_liftG hG22 rfl hb ?_ | refine callK_liftG hG62 rfl hb ?_)
       | refine chk_elim hs fun hs => ?_
       | (have hs := letv_out hs)
       | exact fin_some hs rfl
       | (intro b hb; first | have hs := nilq_elim hs b hb | have hs := nilqn_elim hs b hb)
       | (have hs := cT rfl hs)
       | (have hs := cF rfl hs)
       | exact (none_ne hs).elim)
noncomputable def lf_R21_Resign : List AV → Option AV := liftF (.pair (.pair (.sl (.int .i64)) (.pair (.sl (.int .i64)) .unit)) (.pair (.int .i64) .unit)) (unpR (.pair (.pair (.sl (.int .i64)) (.pair (.sl (.int .i64)) .unit)) (.pair (.int .i64) .unit))) (fun x => R21_Resign x.1 x.2.1)
def tt_R21_Resign : List (Nat × Ty) := [(3, .int .i64), (4, .bool), (22, .sl (.int .i64)), (49, .pair (.sl (.int .i64)) (.pair (.sl (.int .i64)) .unit))]
def et_R21_Resign : List (Nat × Nat) := [(22, 3)]
theorem tt_R21_Resign_ok : subT tt tt_R21_Resign = true := by kernel_rfl
theorem et_R21_Resign_ok : subE et et_R21_Resign = true := by kernel_rfl
def kp_R21_Resign : List (Nat × List Nat) := [(0, [1, 2, 4]), (1, [1, 2, 4, 6]), (2, [1, 2, 4, 6, 11]), (3, [4, 5]), (4, [1, 2, 4, 18]), (5, [4, 5]), (6, [1, 2, 4]), (7, [2, 4]), (8, [4, 5]), (4000000, [2, 4]), (4000001, [2, 4]), (4000002, [2, 4]), (4000003, [4]), (4000004, [2, 4]), (4000005, [4]), (4000006, [2, 4]), (4000007, [2, 4]), (4000008, [4])]
def od_R21_Resign : List (Nat × Ord) := []
noncomputable def E_R21_Resign (fns : List (Nat × (List AV → Option AV))) : Env := ⟨0, 0, et_R21_Resign, tt_R21_Resign, fns, [], od_R21_Resign, kp_R21_Resign, none, []⟩
set_option maxRecDepth 100000 in
set_option maxHeartbeats 40000000 in
theorem c_R21_Resign : PCon Go.Proofs.Tryd.prog 39 lf_R21_Resign := by
  obtain ⟨G20, hG20, cG20⟩ : ∃ G : ((.pair (.sl (.int .i64)) (.pair (.int .i64) .unit)) : Ty).den → Option Bool, (∀ x, G x = R04_Has x.1 x.2.1) ∧ PCon Go.Proofs.Tryd.prog 20 (liftF (.pair (.sl (.int .i64)) (.pair (.int .i64) .unit)) (unpack .bool) G) := ⟨_, fun _ => rfl, c_R04_Has⟩
  obtain ⟨G24, hG24, cG24⟩ : ∃ G : ((.pair (.sl (.int .i64)) (.pair (.int .i64) .unit)) : Ty).den → Option (List Int), (∀ x, G x = R04_Drop x.1 x.2.1) ∧ PCon Go.Proofs.Tryd.prog 24 (liftF (.pair (.sl (.int .i64)) (.pair (.int .i64) .unit)) (unpack (.sl (.int .i64))) G) := ⟨_, fun _ => rfl, c_R04_Drop⟩
  obtain ⟨G62, hG62, cG62⟩ : ∃ G : ((.pair (.pair (.sl (.int .i64)) (.pair (.sl (.int .i64)) .unit)) (.pair (.int .i64) .unit)) : Ty).den → Option Int, (∀ x, G x = R21_asked x.1 x.2.1) ∧ PCon Go.Proofs.Tryd.prog 62 (liftF (.pair (.pair (.sl (.int .i64)) (.pair (.sl (.int .i64)) .unit)) (.pair (.int .i64) .unit)) (unpack (.int .i64)) G) := ⟨_, fun _ => rfl, c_R21_asked⟩
  obtain ⟨fns, hfns, hf⟩ : ∃ fns, fns = [(20, liftF (.pair (.sl (.int .i64)) (.pair (.int .i64) .unit)) (unpack .bool) G20), (24, liftF (.pair (.sl (.int .i64)) (.pair (.int .i64) .unit)) (unpack (.sl (.int .i64))) G24), (62, liftF (.pair (.pair (.sl (.int .i64)) (.pair (.sl (.int .i64)) .unit)) (.pair (.int .i64) .unit)) (unpack (.int .i64)) G62)] ∧ FnsOk Go.Proofs.Tryd.prog fns := ⟨_, rfl, FnsOk.cons cG20 (FnsOk.cons cG24 (FnsOk.cons cG62 (FnsOk.nil _)))⟩
  refine lift_con (E := E_R21_Resign fns) (c := bodyOf Tryd.f39) (nt := 31) (rs := [.cell 4 49, .tmp 5]) (ts := [49, 3]) (EnvC.sub tt_ok et_ok hf (PrsOk.nil _) (ItsOk.nil _) tt_R21_Resign_ok et_R21_Resign_ok) (PrOk.of mixed_ok) Go.Proofs.Tryd.func39 rfl (by decide) rfl rfl rfl (pureR_many (e := (.pair (.pair (.sl (.int .i64)) (.pair (.sl (.int .i64)) .unit)) (.pair (.int .i64) .unit))) rfl) ?_
  subst hfns
  intro x r hw hs
  repeat'
    (try (conv => whnf)
     first
       | (with_reducible have hs := letv_out hs)
       | (refine draw_and (by kernel_rfl) ?_)
       | (refine both_mk ?_ ?_)
       | (refine br_bool (fun h => ?_) (fun h => ?_) <;> first | have hs := cT h hs | have hs := cF h hs)
       | (refine bind_elim hs fun v hb hs => ?_; first | refine callK_liftG hG20 rfl hb ?_ | refine callK_liftG hG24 rfl hb ?_ | refine callK_liftG hG62 rfl hb ?_)
       | refine chk_elim hs fun hs => ?_
       | (have hs := letv_out hs)
       | exact fin_some hs rfl
       | (intro b hb; first | have hs := nilq_elim hs b hb | have hs := nilqn_elim hs b hb)
       | (have hs := cT rfl hs)
       | (have hs := cF rfl hs)
       | exact (none_ne hs).elim)
noncomputable def lf_R21_Offer : List AV → Option AV := liftF (.pair (.pair (.sl (.int .i64)) (.pair (.sl (.int .i64)) .unit)) (.pair (.int .i64) .unit)) (unpR (.pair (.pair (.sl (.int .i64)) (.pair (.sl (.int .i64)) .unit)) (.pair (.int .i64) .unit))) (fun x => R21_Offer x.1 x.2.1)
def tt_R21_Offer : List (Nat × Ty) := [(3, .int .i64), (4, .bool), (22, .sl (.int .i64)), (49, .pair (.sl (.int .i64)) (.pair (.sl (.int .i64)) .unit))]
def et_R21_Offer : List (Nat × Nat) := [(22, 3)]
theorem tt_R21_Offer_ok : subT tt tt_R21_Offer = true := by kernel_rfl
theorem et_R21_Offer_ok : subE et et_R21_Offer = true := by kernel_rfl
def kp_R21_Offer : List (Nat × List Nat) := [(0, [1, 2, 4]), (1, [1, 2, 4, 6]), (2, [1, 2, 4, 6, 11]), (3, [4, 5]), (4, [1, 2, 4, 18]), (5, [4, 5]), (6, [1, 2, 4, 23]), (7, [4, 5]), (8, [2, 4]), (9, [4, 5]), (4000000, [2, 4]), (4000001, [2, 4]), (4000002, [2, 4]), (4000003, [4]), (4000004, [2, 4]), (4000005, [4]), (4000006, [2, 4]), (4000007, [4]), (4000008, [2, 4]), (4000009, [4])]
def od_R21_Offer : List (Nat × Ord) := []
noncomputable def E_R21_Offer (fns : List (Nat × (List AV → Option AV))) : Env := ⟨0, 0, et_R21_Offer, tt_R21_Offer, fns, [], od_R21_Offer, kp_R21_Offer, none, []⟩
set_option maxRecDepth 100000 in
set_option maxHeartbeats 40000000 in
theorem c_R21_Offer : PCon Go.Proofs.Tryd.prog 41 lf_R21_Offer := by
  obtain ⟨G20, hG20, cG20⟩ : ∃ G : ((.pair (.sl (.int .i64)) (.pair (.int .i64) .unit)) : Ty).den → Option Bool, (∀ x, G x = R04_Has x.1 x.2.1) ∧ PCon Go.Proofs.Tryd.prog 20 (liftF (.pair (.sl (.int .i64)) (.pair (.int .i64) .unit)) (unpack .bool) G) := ⟨_, fun _ => rfl, c_R04_Has⟩
  obtain ⟨G22, hG22, cG22⟩ : ∃ G : ((.pair (.sl (.int .i64)) (.pair (.int .i64) .unit)) : Ty).den → Option (List Int), (∀ x, G x = R04_Add x.1 x.2.1) ∧ PCon Go.Proofs.Tryd.prog 22 (liftF (.pair (.sl (.int .i64)) (.pair (.int .i64) .unit)) (unpack (.sl (.int .i64))) G) := ⟨_, fun _ => rfl, c_R04_Add⟩
  obtain ⟨G62, hG62, cG62⟩ : ∃ G : ((.pair (.pair (.sl (.int .i64)) (.pair (.sl (.int .i64)) .unit)) (.pair (.int .i64) .unit)) : Ty).den → Option Int, (∀ x, G x = R21_asked x.1 x.2.1) ∧ PCon Go.Proofs.Tryd.prog 62 (liftF (.pair (.pair (.sl (.int .i64)) (.pair (.sl (.int .i64)) .unit)) (.pair (.int .i64) .unit)) (unpack (.int .i64)) G) := ⟨_, fun _ => rfl, c_R21_asked⟩
  obtain ⟨fns, hfns, hf⟩ : ∃ fns, fns = [(20, liftF (.pair (.sl (.int .i64)) (.pair (.int .i64) .unit)) (unpack .bool) G20), (22, liftF (.pair (.sl (.int .i64)) (.pair (.int .i64) .unit)) (unpack (.sl (.int .i64))) G22), (62, liftF (.pair (.pair (.sl (.int .i64)) (.pair (.sl (.int .i64)) .unit)) (.pair (.int .i64) .unit)) (unpack (.int .i64)) G62)] ∧ FnsOk Go.Proofs.Tryd.prog fns := ⟨_, rfl, FnsOk.cons cG20 (FnsOk.cons cG22 (FnsOk.cons cG62 (FnsOk.nil _)))⟩
  refine lift_con (E := E_R21_Offer fns) (c := bodyOf Tryd.f41) (nt := 31) (rs := [.cell 4 49, .tmp 5]) (ts := [49, 3]) (EnvC.sub tt_ok et_ok hf (PrsOk.nil _) (ItsOk.nil _) tt_R21_Offer_ok et_R21_Offer_ok) (PrOk.of mixed_ok) Go.Proofs.Tryd.func41 rfl (by decide) rfl rfl rfl (pureR_many (e := (.pair (.pair (.sl (.int .i64)) (.pair (.sl (.int .i64)) .unit)) (.pair (.int .i64) .unit))) rfl) ?_
  subst hfns
  intro x r hw hs
  repeat'
    (try (conv => whnf)
     first
       | (with_reducible have hs := letv_out hs)
       | (refine draw_and (by kernel_rfl) ?_)
       | (refine both_mk ?_ ?_)
       | (refine br_bool (fun h => ?_) (fun h => ?_) <;> first | have hs := cT h hs | have hs := cF h hs)
       | (refine bind_elim hs fun v hb hs => ?_; first | refine callK_liftG hG20 rfl hb ?_ | refine callK_liftG hG22 rfl hb ?_ | refine callK_liftG hG62 rfl hb ?_)
       | refine chk_elim hs fun hs => ?_
       | (have hs := letv_out hs)
       | exact fin_some hs rfl
       | (intro b hb; first | have hs := nilq_elim hs b hb | have hs := nilqn_elim hs b hb)
       | (have hs := cT rfl hs)
       | (have hs := cF rfl hs)
       | exact (none_ne hs).elim)
noncomputable def lf_R21_Withdraw : List AV → Option AV := liftF (.pair (.pair (.sl (.int .i64)) (.pair (.sl (.int .i64)) .unit)) (.pair (.int .i64) .unit)) (unpR (.pair (.pair (.sl (.int .i64)) (.pair (.sl (.int .i64)) .unit)) (.pair .bool .unit))) (fun x => R21_Withdraw x.1 x.2.1)
def tt_R21_Withdraw : List (Nat × Ty) := [(3, .int .i64), (4, .bool), (22, .sl (.int .i64)), (49, .pair (.sl (.int .i64)) (.pair (.sl (.int .i64)) .unit))]
def et_R21_Withdraw : List (Nat × Nat) := [(22, 3)]
theorem tt_R21_Withdraw_ok : subT tt tt_R21_Withdraw = true := by kernel_rfl
theorem et_R21_Withdraw_ok : subE et et_R21_Withdraw = true := by kernel_rfl
def kp_R21_Withdraw : List (Nat × List Nat) := [(0, [1, 2, 4]), (1, [1, 2, 4, 15]), (2, [4, 5]), (3, [2, 4]), (4, [4, 5]), (4000000, [2, 4]), (4000001, [2, 4]), (4000002, [4]), (4000003, [2, 4]), (4000004, [4])]
def od_R21_Withdraw : List (Nat × Ord) := []
noncomputable def E_R21_Withdraw (fns : List (Nat × (List AV → Option AV))) : Env := ⟨0, 0, et_R21_Withdraw, tt_R21_Withdraw, fns, [], od_R21_Withdraw, kp_R21_Withdraw, none, []⟩
set_option maxRecDepth 100000 in
set_option maxHeartbeats 40000000 in
theorem c_R21_Withdraw : PCon Go.Proofs.Tryd.prog 43 lf_R21_Withdraw := by
  obtain ⟨G20, hG20, cG20⟩ : ∃ G : ((.pair (.sl (.int .i64)) (.pair (.int .i64) .unit)) : Ty).den → Option Bool, (∀ x, G x = R04_Has x.1 x.2.1) ∧ PCon Go.Proofs.Tryd.prog 20 (liftF (.pair (.sl (.int .i64)) (.pair (.int .i64) .unit)) (unpack .bool) G) := ⟨_, fun _ => rfl, c_R04_Has⟩
  obtain ⟨G24, hG24, cG24⟩ : ∃ G : ((.pair (.sl (.int .i64)) (.pair (.int .i64) .unit)) : Ty).den → Option (List Int), (∀ x, G x = R04_Drop x.1 x.2.1) ∧ PCon Go.Proofs.Tryd.prog 24 (liftF (.pair (.sl (.int .i64)) (.pair (.int .i64) .unit)) (unpack (.sl (.int .i64))) G) := ⟨_, fun _ => rfl, c_R04_Drop⟩
  obtain ⟨G47, hG47, cG47⟩ : ∃ G : ((.pair (.pair (.sl (.int .i64)) (.pair (.sl (.int .i64)) .unit)) .unit) : Ty).den → Option Bool, (∀ x, G x = R21_Fine x.1) ∧ PCon Go.Proofs.Tryd.prog 47 (liftF (.pair (.pair (.sl (.int .i64)) (.pair (.sl (.int .i64)) .unit)) .unit) (unpack .bool) G) := ⟨_, fun _ => rfl, c_R21_Fine⟩
  obtain ⟨fns, hfns, hf⟩ : ∃ fns, fns = [(20, liftF (.pair (.sl (.int .i64)) (.pair (.int .i64) .unit)) (unpack .bool) G20), (24, liftF (.pair (.sl (.int .i64)) (.pair (.int .i64) .unit)) (unpack (.sl (.int .i64))) G24), (47, liftF (.pair (.pair (.sl (.int .i64)) (.pair (.sl (.int .i64)) .unit)) .unit) (unpack .bool) G47)] ∧ FnsOk Go.Proofs.Tryd.prog fns := ⟨_, rfl, FnsOk.cons cG20 (FnsOk.cons cG24 (FnsOk.cons cG47 (FnsOk.nil _)))⟩
  refine lift_con (E := E_R21_Withdraw fns) (c := bodyOf Tryd.f43) (nt := 23) (rs := [.cell 4 49, .tmp 5]) (ts := [49, 4]) (EnvC.sub tt_ok et_ok hf (PrsOk.nil _) (ItsOk.nil _) tt_R21_Withdraw_ok et_R21_Withdraw_ok) (PrOk.of mixed_ok) Go.Proofs.Tryd.func43 rfl (by decide) rfl rfl rfl (pureR_many (e := (.pair (.pair (.sl (.int .i64)) (.pair (.sl (.int .i64)) .unit)) (.pair .bool .unit))) rfl) ?_
  subst hfns
  intro x r hw hs
  repeat'
    (try (conv => whnf)
     first
       | (with_reducible have hs := letv_out hs)
       | (refine draw_and (by kernel_rfl) ?_)
       | (refine both_mk ?_ ?_)
       | (refine br_bool (fun h => ?_) (fun h => ?_) <;> first | have hs := cT h hs | have hs := cF h hs)
       | (refine bind_elim hs fun v hb hs => ?_; first | refine callK_liftG hG20 rfl hb ?_ | refine callK_liftG hG24 rfl hb ?_ | refine callK_liftG hG47 rfl hb ?_)
       | refine chk_elim hs fun hs => ?_
       | (have hs := letv_out hs)
       | exact fin_some hs rfl
       | (intro b hb; first | have hs := nilq_elim hs b hb | have hs := nilqn_elim hs b hb)
       | (have hs := cT rfl hs)
       | (have hs := cF rfl hs)
       | exact (none_ne hs).elim)
noncomputable def lf_R21_Full : List AV → Option AV := liftF (.pair (.pair (.sl (.int .i64)) (.pair (.sl (.int .i64)) .unit)) .unit) (unpack .bool) (fun x => R21_Full x.1)
def tt_R21_Full : List (Nat × Ty) := [(3, .int .i64), (4, .bool), (22, .sl (.int .i64)), (49, .pair (.sl (.int .i64)) (.pair (.sl (.int .i64)) .unit))]
def et_R21_Full : List (Nat × Nat) := [(22, 3)]
theorem tt_R21_Full_ok : subT tt tt_R21_Full = true := by kernel_rfl
theorem et_R21_Full_ok : subE et et_R21_Full = true := by kernel_rfl
def kp_R21_Full : List (Nat × List Nat) := [(0, [1]), (1, [2]), (4000000, [1]), (4000001, [])]
def od_R21_Full : List (Nat × Ord) := []
noncomputable def E_R21_Full (fns : List (Nat × (List AV → Option AV))) : Env := ⟨0, 0, et_R21_Full, tt_R21_Full, fns, [], od_R21_Full, kp_R21_Full, none, []⟩
set_option maxRecDepth 100000 in
set_option maxHeartbeats 40000000 in
theorem c_R21_Full : PCon Go.Proofs.Tryd.prog 51 lf_R21_Full := by
  obtain ⟨G47, hG47, cG47⟩ : ∃ G : ((.pair (.pair (.sl (.int .i64)) (.pair (.sl (.int .i64)) .unit)) .unit) : Ty).den → Option Bool, (∀ x, G x = R21_Fine x.1) ∧ PCon Go.Proofs.Tryd.prog 47 (liftF (.pair (.pair (.sl (.int .i64)) (.pair (.sl (.int .i64)) .unit)) .unit) (unpack .bool) G) := ⟨_, fun _ => rfl, c_R21_Fine⟩
  obtain ⟨fns, hfns, hf⟩ : ∃ fns, fns = [(47, liftF (.pair (.pair (.sl (.int .i64)) (.pair (.sl (.int .i64)) .unit)) .unit) (unpack .bool) G47)] ∧ FnsOk Go.Proofs.Tryd.prog fns := ⟨_, rfl, FnsOk.cons cG47 (FnsOk.nil _)⟩
  refine lift_con (E := E_R21_Full fns) (c := bodyOf Tryd.f51) (nt := 20) (rs := [.tmp 2]) (ts := [4]) (EnvC.sub tt_ok et_ok hf (PrsOk.nil _) (ItsOk.nil _) tt_R21_Full_ok et_R21_Full_ok) (PrOk.of mixed_ok) Go.Proofs.Tryd.func51 rfl (by decide) rfl rfl rfl (pureR_one (e := .bool) rfl) ?_
  subst hfns
  intro x r hw hs
  repeat'
    (try (conv => whnf)
     first
       | (with_reducible have hs := letv_out hs)
       | (refine draw_and (by kernel_rfl) ?_)
       | (refine both_mk ?_ ?_)
       | (refine br_bool (fun h => ?_) (fun h => ?_) <;> first | have hs := cT h hs | have hs := cF h hs)
       | (refine bind_elim hs fun v hb hs => ?_; first | refine callK_liftG hG47 rfl hb ?_)
       | refine chk_elim hs fun hs => ?_
       | (have hs := letv_out hs)
       | exact fin_some hs rfl
       | (intro b hb; first | have hs := nilq_elim hs b hb | have hs := nilqn_elim hs b hb)
       | (have hs := cT rfl hs)
       | (have hs := cF rfl hs)
       | exact (none_ne hs).elim)
noncomputable def lf_R21_Fire : List AV → Option AV := liftF (.pair (.pair (.sl (.int .i64)) (.pair (.sl (.int .i64)) .unit)) .unit) (unpR (.pair (.pair (.sl (.int .i64)) (.pair (.sl (.int .i64)) .unit)) (.pair (.sl (.int .i64)) (.pair (.int .i64) .unit)))) (fun x => R21_Fire x.1)
def tt_R21_Fire : List (Nat × Ty) := [(3, .int .i64), (4, .bool), (22, .sl (.int .i64)), (49, .pair (.sl (.int .i64)) (.pair (.sl (.int .i64)) .unit))]
def et_R21_Fire : List (Nat × Nat) := [(22, 3)]
theorem tt_R21_Fire_ok : subT tt tt_R21_Fire = true := by kernel_rfl
theorem et_R21_Fire_ok : subE et et_R21_Fire = true := by kernel_rfl
def kp_R21_Fire : List (Nat × List Nat) := [(0, [1, 2]), (1, [1, 2, 7]), (2, [2, 3, 4]), (3, [1, 2, 11]), (4, [2, 3, 4]), (5, [2, 3, 4]), (2000005, [2]), (3000005, []), (4000000, [1, 2]), (4000001, [1, 2]), (4000002, [2]), (4000003, [1, 2]), (4000004, [2]), (4000005, [2])]
def od_R21_Fire : List (Nat × Ord) := [(5, (.one 0 (.one 1 (.one 2 (.one 3 (.one 4 (.alt (.cons 5 (.one 6 (.one 7 .nil)) .nil))))))))]
noncomputable def E_R21_Fire (fns : List (Nat × (List AV → Option AV))) : Env := ⟨0, 0, et_R21_Fire, tt_R21_Fire, fns, [], od_R21_Fire, kp_R21_Fire, none, []⟩
set_option maxRecDepth 100000 in
set_option maxHeartbeats 40000000 in
theorem c_R21_Fire : PCon Go.Proofs.Tryd.prog 49 lf_R21_Fire := by
  obtain ⟨G47, hG47, cG47⟩ : ∃ G : ((.pair (.pair (.sl (.int .i64)) (.pair (.sl (.int .i64)) .unit)) .unit) : Ty).den → Option Bool, (∀ x, G x = R21_Fine x.1) ∧ PCon Go.Proofs.Tryd.prog 47 (liftF (.pair (.pair (.sl (.int .i64)) (.pair (.sl (.int .i64)) .unit)) .unit) (unpack .bool) G) := ⟨_, fun _ => rfl, c_R21_Fine⟩
  obtain ⟨G51, hG51, cG51⟩ : ∃ G : ((.pair (.pair (.sl (.int .i64)) (.pair (.sl (.int .i64)) .unit)) .unit) : Ty).den → Option Bool, (∀ x, G x = R21_Full x.1) ∧ PCon Go.Proofs.Tryd.prog 51 (liftF (.pair (.pair (.sl (.int .i64)) (.pair (.sl (.int .i64)) .unit)) .unit) (unpack .bool) G) := ⟨_, fun _ => rfl, c_R21_Full⟩
  obtain ⟨fns, hfns, hf⟩ : ∃ fns, fns = [(47, liftF (.pair (.pair (.sl (.int .i64)) (.pair (.sl (.int .i64)) .unit)) .unit) (unpack .bool) G47), (51, liftF (.pair (.pair (.sl (.int .i64)) (.pair (.sl (.int .i64)) .unit)) .unit) (unpack .bool) G51)] ∧ FnsOk Go.Proofs.Tryd.prog fns := ⟨_, rfl, FnsOk.cons cG47 (FnsOk.cons cG51 (FnsOk.nil _))⟩
  refine lift_con (E := E_R21_Fire fns) (c := bodyOf Tryd.f49) (nt := 18) (rs := [.cell 2 49, .tmp 3, .tmp 4]) (ts := [49, 22, 3]) (EnvC.sub tt_ok et_ok hf (PrsOk.nil _) (ItsOk.nil _) tt_R21_Fire_ok et_R21_Fire_ok) (PrOk.of mixed_ok) Go.Proofs.Tryd.func49 rfl (by decide) rfl rfl rfl (pureR_many (e := (.pair (.pair (.sl (.int .i64)) (.pair (.sl (.int .i64)) .unit)) (.pair (.sl (.int .i64)) (.pair (.int .i64) .unit)))) rfl) ?_
  subst hfns
  intro x r hw hs
  repeat'
    (try (conv => whnf)
     first
       | (with_reducible have hs := letv_out hs)
       | (refine draw_and (by kernel_rfl) ?_)
       | (refine both_mk ?_ ?_)
       | (refine br_bool (fun h => ?_) (fun h => ?_) <;> first | have hs := cT h hs | have hs := cF h hs)
       | (refine bind_elim hs fun v hb hs => ?_; first | refine callK_liftG hG47 rfl hb ?_ | refine callK_liftG hG51 rfl hb ?_)
       | refine chk_elim hs fun hs => ?_
       | (have hs := letv_out hs)
       | exact fin_some hs rfl
       | (intro b hb; first | have hs := nilq_elim hs b hb | have hs := nilqn_elim hs b hb)
       | (have hs := cT rfl hs)
       | (have hs := cF rfl hs)
       | exact (none_ne hs).elim)
end Go.Proofs.YtejedlpnejjnbaaDoorV
