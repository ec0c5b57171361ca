import Derived.Test.YtbkccpddkpclaaaVcTab
import Derived.Test.YtbkccpddkpclaaaDR18
import Derived.Test.YtbkccpddkpclaaaCR17
import Derived.Test.YtbkccpddkpclaaaCbase
namespace Go.Proofs.YtbkccpddkpclaaaV
open Go.Proofs
set_option linter.unusedVariables false
noncomputable def lf_R18_Check : List AV → Option AV := liftF (.pair (.pair (.int .i64) (.pair (.int .i64) (.pair (.int .i64) (.pair (.int .i64) .unit)))) .unit) (unpack (.int .i64)) (fun x => R18_Check x.1)
def tt_R18_Check : List (Nat × Ty) := [(3, .int .i64), (4, .bool), (23, .pair (.int .i64) (.pair (.int .i64) (.pair (.int .i64) (.pair (.int .i64) .unit))))]
def et_R18_Check : List (Nat × Nat) := []
theorem tt_R18_Check_ok : subT tt tt_R18_Check = true := by kernel_rfl
theorem et_R18_Check_ok : subE et et_R18_Check = true := by kernel_rfl
noncomputable def E_R18_Check (fns : List (Nat × (List AV → Option AV))) : Env := ⟨0, 0, et_R18_Check, tt_R18_Check, fns, [], [], [(0, [1]), (1, [1, 10]), (2, [2]), (3, [30]), (4, [2]), (5, [2]), (4000000, [1]), (4000001, [1]), (4000002, []), (4000003, []), (4000004, []), (4000005, [])], none, []⟩
set_option maxRecDepth 100000 in
set_option maxHeartbeats 40000000 in
theorem c_R18_Check : PCon Go.Proofs.Try.prog 27 lf_R18_Check := by
  obtain ⟨G69, hG69, cG69⟩ : ∃ G : ((.pair (.int .i64) .unit) : Ty).den → Option Bool, (∀ x, G x = R16_Fine x.1) ∧ PCon Go.Proofs.Try.prog 69 (liftF (.pair (.int .i64) .unit) (unpack .bool) G) := ⟨_, fun _ => rfl, c_R16_Fine⟩
  obtain ⟨fns, hfns, hf⟩ : ∃ fns, fns = [(69, liftF (.pair (.int .i64) .unit) (unpack .bool) G69)] ∧ FnsOk Go.Proofs.Try.prog fns := ⟨_, rfl, FnsOk.cons cG69 (FnsOk.nil _)⟩
  refine lift_con (E := E_R18_Check fns) (c := bodyOf Try.f27) (nt := 31) (rs := [.tmp 2]) (ts := [3]) (EnvC.sub tt_ok et_ok hf (PrsOk.nil _) (ItsOk.nil _) tt_R18_Check_ok et_R18_Check_ok) (PrOk.of mixed_ok) Go.Proofs.Try.func27 rfl (by decide) rfl rfl rfl (pureR_one (e := (.int .i64)) rfl) ?_
  subst hfns
  intro x r hw hs
  repeat'
    (try (conv => whnf)
     first
       | (have hs := letv_out hs)
       | (refine draw_and (by kernel_rfl) ?_)
       | (refine both_mk ?_ ?_)
       | (refine br_bool (fun h => ?_) (fun h => ?_) <;> first | have hs := cT h hs | have hs := cF h hs)
       | (refine bind_elim hs fun v hb hs => ?_; first | refine callK_liftG hG69 rfl hb ?_)
       | refine chk_elim hs fun hs => ?_
       | exact fin_some hs rfl
       | (intro b hb; first | have hs := nilq_elim hs b hb | have hs := nilqn_elim hs b hb)
       | (have hs := cT rfl hs)
       | (have hs := cF rfl hs)
       | exact (none_ne hs).elim)
noncomputable def lf_R18_New : List AV → Option AV := liftF (.pair (.pair (.int .i64) (.pair (.int .i64) (.pair (.int .i64) (.pair (.int .i64) .unit)))) .unit) (unpR (.pair (.pair (.pair (.int .i64) (.pair (.int .i64) (.pair (.int .i64) (.pair (.int .i64) .unit)))) (.pair (.int .i64) (.pair (.sl (.int .i64)) (.pair (.pair .bool (.pair (.sl (.int .i64)) .unit)) (.pair (.sl (.int .i64)) (.pair (.pair .bool (.pair (.sl (.int .i64)) .unit)) .unit)))))) (.pair (.int .i64) .unit))) (fun x => R18_New x.1)
def tt_R18_New : List (Nat × Ty) := [(3, .int .i64), (23, .pair (.int .i64) (.pair (.int .i64) (.pair (.int .i64) (.pair (.int .i64) .unit)))), (26, .pair .bool (.pair (.sl (.int .i64)) .unit)), (28, .pair (.pair (.int .i64) (.pair (.int .i64) (.pair (.int .i64) (.pair (.int .i64) .unit)))) (.pair (.int .i64) (.pair (.sl (.int .i64)) (.pair (.pair .bool (.pair (.sl (.int .i64)) .unit)) (.pair (.sl (.int .i64)) (.pair (.pair .bool (.pair (.sl (.int .i64)) .unit)) .unit))))))]
def et_R18_New : List (Nat × Nat) := []
theorem tt_R18_New_ok : subT tt tt_R18_New = true := by kernel_rfl
theorem et_R18_New_ok : subE et et_R18_New = true := by kernel_rfl
noncomputable def E_R18_New (fns : List (Nat × (List AV → Option AV))) : Env := ⟨0, 0, et_R18_New, tt_R18_New, fns, [], [], [(0, [1, 2]), (1, [1, 2, 4]), (2, [1, 2, 4, 8]), (3, [2, 3]), (4, [2, 3]), (4000000, [1, 2]), (4000001, [1, 2]), (4000002, [1, 2]), (4000003, [2]), (4000004, [2])], none, []⟩
set_option maxRecDepth 100000 in
set_option maxHeartbeats 40000000 in
theorem c_R18_New : PCon Go.Proofs.Try.prog 25 lf_R18_New := by
  obtain ⟨G27, hG27, cG27⟩ : ∃ G : ((.pair (.pair (.int .i64) (.pair (.int .i64) (.pair (.int .i64) (.pair (.int .i64) .unit)))) .unit) : Ty).den → Option Int, (∀ x, G x = R18_Check x.1) ∧ PCon Go.Proofs.Try.prog 27 (liftF (.pair (.pair (.int .i64) (.pair (.int .i64) (.pair (.int .i64) (.pair (.int .i64) .unit)))) .unit) (unpack (.int .i64)) G) := ⟨_, fun _ => rfl, c_R18_Check⟩
  obtain ⟨fns, hfns, hf⟩ : ∃ fns, fns = [(27, liftF (.pair (.pair (.int .i64) (.pair (.int .i64) (.pair (.int .i64) (.pair (.int .i64) .unit)))) .unit) (unpack (.int .i64)) G27)] ∧ FnsOk Go.Proofs.Try.prog fns := ⟨_, rfl, FnsOk.cons cG27 (FnsOk.nil _)⟩
  refine lift_con (E := E_R18_New fns) (c := bodyOf Try.f25) (nt := 26) (rs := [.cell 2 28, .tmp 3]) (ts := [28, 3]) (EnvC.sub tt_ok et_ok hf (PrsOk.nil _) (ItsOk.nil _) tt_R18_New_ok et_R18_New_ok) (PrOk.of mixed_ok) Go.Proofs.Try.func25 rfl (by decide) rfl rfl rfl (pureR_many (e := (.pair (.pair (.pair (.int .i64) (.pair (.int .i64) (.pair (.int .i64) (.pair (.int .i64) .unit)))) (.pair (.int .i64) (.pair (.sl (.int .i64)) (.pair (.pair .bool (.pair (.sl (.int .i64)) .unit)) (.pair (.sl (.int .i64)) (.pair (.pair .bool (.pair (.sl (.int .i64)) .unit)) .unit)))))) (.pair (.int .i64) .unit))) rfl) ?_
  subst hfns
  intro x r hw hs
  repeat'
    (try (conv => whnf)
     first
       | (have hs := letv_out hs)
       | (refine draw_and (by kernel_rfl) ?_)
       | (refine both_mk ?_ ?_)
       | (refine br_bool (fun h => ?_) (fun h => ?_) <;> first | have hs := cT h hs | have hs := cF h hs)
       | (refine bind_elim hs fun v hb hs => ?_; first | refine callK_liftG hG27 rfl hb ?_)
       | refine chk_elim hs fun hs => ?_
       | exact fin_some hs rfl
       | (intro b hb; first | have hs := nilq_elim hs b hb | have hs := nilqn_elim hs b hb)
       | (have hs := cT rfl hs)
       | (have hs := cF rfl hs)
       | exact (none_ne hs).elim)
noncomputable def lf_R18_words : List AV → Option AV := liftF (.pair (.sl (.int .i64)) .unit) (unpack .bool) (fun x => R18_words x.1)
def tt_R18_words : List (Nat × Ty) := [(3, .int .i64), (4, .bool), (24, .sl (.int .i64))]
def et_R18_words : List (Nat × Nat) := [(24, 3)]
theorem tt_R18_words_ok : subT tt tt_R18_words = true := by kernel_rfl
theorem et_R18_words_ok : subE et et_R18_words = true := by kernel_rfl
def R18_words_S1 (u0 : AV) (x1 : Int) : St :=
  ⟨[(0, u0), (3, .int .i64 x1)], [], none⟩
def R18_words_M1 : Msk := ⟨[0, 3], [], [], [], [], [], [], [], []⟩
noncomputable def E_R18_words (fns : List (Nat × (List AV → Option AV))) : Env := ⟨0, 0, et_R18_words, tt_R18_words, fns, [], [], [(0, [0]), (1, [0, 3]), (2, [0, 3, 7]), (3, [0, 3]), (4, [0, 3, 15]), (5, [2]), (6, [2]), (4000000, []), (4000001, []), (4000002, []), (4000003, []), (4000004, []), (4000005, []), (4000006, [])], none, []⟩
set_option maxRecDepth 100000 in
set_option maxHeartbeats 40000000 in
theorem c_R18_words : PCon Go.Proofs.Try.prog 70 lf_R18_words := by
  obtain ⟨G56, hG56, cG56⟩ : ∃ G : ((.pair (.int .i64) .unit) : Ty).den → Option Bool, (∀ x, G x = R08_Fine x.1) ∧ PCon Go.Proofs.Try.prog 56 (liftF (.pair (.int .i64) .unit) (unpack .bool) G) := ⟨_, fun _ => rfl, c_R08_Fine⟩
  obtain ⟨fns, hfns, hf⟩ : ∃ fns, fns = [(56, liftF (.pair (.int .i64) .unit) (unpack .bool) G56)] ∧ FnsOk Go.Proofs.Try.prog fns := ⟨_, rfl, FnsOk.cons cG56 (FnsOk.nil _)⟩
  refine lift_con (E := E_R18_words fns) (c := bodyOf Try.f70) (nt := 16) (rs := [.tmp 2]) (ts := [4]) (EnvC.sub tt_ok et_ok hf (PrsOk.nil _) (ItsOk.nil _) tt_R18_words_ok et_R18_words_ok) (PrOk.of mixed_ok) Go.Proofs.Try.func70 rfl (by decide) rfl rfl rfl (pureR_one (e := .bool) rfl) ?_
  subst hfns
  intro x r hw hs
  repeat'
    (try (conv => whnf)
     first
       | (have hs := letv_out hs)
       | (refine draw_and (by kernel_rfl) ?_)
       | (refine both_mk ?_ ?_)
       | (refine br_bool (fun h => ?_) (fun h => ?_) <;> first | have hs := cT h hs | have hs := cF h hs)
       | (refine bind_elim hs fun v hb hs => ?_; first | refine callK_liftG hG56 rfl hb ?_)
       | refine chk_elim hs fun hs => ?_
       | exact fin_some hs rfl
       | (intro b hb; first | have hs := nilq_elim hs b hb | have hs := nilqn_elim hs b hb)
       | exact hJ1 _ hs
       | (have hs := cT rfl hs)
       | (have hs := cF rfl hs)
       | (refine vc_loop (R18_words_S1 _) R18_words_M1 hs rfl ?_; intro J1 k1 x1 hJ1 hs)
       | exact (none_ne hs).elim)
noncomputable def lf_R18_Fine : List AV → Option AV := liftF (.pair (.pair (.pair (.int .i64) (.pair (.int .i64) (.pair (.int .i64) (.pair (.int .i64) .unit)))) (.pair (.int .i64) (.pair (.sl (.int .i64)) (.pair (.pair .bool (.pair (.sl (.int .i64)) .unit)) (.pair (.sl (.int .i64)) (.pair (.pair .bool (.pair (.sl (.int .i64)) .unit)) .unit)))))) .unit) (unpack .bool) (fun x => R18_Fine x.1)
def tt_R18_Fine : List (Nat × Ty) := [(3, .int .i64), (4, .bool), (23, .pair (.int .i64) (.pair (.int .i64) (.pair (.int .i64) (.pair (.int .i64) .unit)))), (24, .sl (.int .i64)), (26, .pair .bool (.pair (.sl (.int .i64)) .unit)), (28, .pair (.pair (.int .i64) (.pair (.int .i64) (.pair (.int .i64) (.pair (.int .i64) .unit)))) (.pair (.int .i64) (.pair (.sl (.int .i64)) (.pair (.pair .bool (.pair (.sl (.int .i64)) .unit)) (.pair (.sl (.int .i64)) (.pair (.pair .bool (.pair (.sl (.int .i64)) .unit)) .unit))))))]
def et_R18_Fine : List (Nat × Nat) := [(24, 3)]
theorem tt_R18_Fine_ok : subT tt tt_R18_Fine = true := by kernel_rfl
theorem et_R18_Fine_ok : subE et et_R18_Fine = true := by kernel_rfl
noncomputable def E_R18_Fine (fns : List (Nat × (List AV → Option AV))) : Env := ⟨0, 0, et_R18_Fine, tt_R18_Fine, fns, [], [], [(0, [1]), (1, [1, 3, 4]), (2, [1, 3, 49]), (3, [2]), (4, [2]), (4000000, [1]), (4000001, [1, 3]), (4000002, [1, 3]), (4000003, []), (4000004, [])], none, []⟩
set_option maxRecDepth 100000 in
set_option maxHeartbeats 40000000 in
theorem c_R18_Fine : PCon Go.Proofs.Try.prog 28 lf_R18_Fine := by
  obtain ⟨G25, hG25, cG25⟩ : ∃ G : ((.pair (.pair (.int .i64) (.pair (.int .i64) (.pair (.int .i64) (.pair (.int .i64) .unit)))) .unit) : Ty).den → Option (((Int × Int × Int × Int × Unit) × Int × (List Int) × (Bool × (List Int) × Unit) × (List Int) × (Bool × (List Int) × Unit) × Unit) × Int × Unit), (∀ x, G x = R18_New x.1) ∧ PCon Go.Proofs.Try.prog 25 (liftF (.pair (.pair (.int .i64) (.pair (.int .i64) (.pair (.int .i64) (.pair (.int .i64) .unit)))) .unit) (unpR (.pair (.pair (.pair (.int .i64) (.pair (.int .i64) (.pair (.int .i64) (.pair (.int .i64) .unit)))) (.pair (.int .i64) (.pair (.sl (.int .i64)) (.pair (.pair .bool (.pair (.sl (.int .i64)) .unit)) (.pair (.sl (.int .i64)) (.pair (.pair .bool (.pair (.sl (.int .i64)) .unit)) .unit)))))) (.pair (.int .i64) .unit))) G) := ⟨_, fun _ => rfl, c_R18_New⟩
  obtain ⟨G69, hG69, cG69⟩ : ∃ G : ((.pair (.int .i64) .unit) : Ty).den → Option Bool, (∀ x, G x = R16_Fine x.1) ∧ PCon Go.Proofs.Try.prog 69 (liftF (.pair (.int .i64) .unit) (unpack .bool) G) := ⟨_, fun _ => rfl, c_R16_Fine⟩
  obtain ⟨G70, hG70, cG70⟩ : ∃ G : ((.pair (.sl (.int .i64)) .unit) : Ty).den → Option Bool, (∀ x, G x = R18_words x.1) ∧ PCon Go.Proofs.Try.prog 70 (liftF (.pair (.sl (.int .i64)) .unit) (unpack .bool) G) := ⟨_, fun _ => rfl, c_R18_words⟩
  obtain ⟨G71, hG71, cG71⟩ : ∃ G : ((.pair (.pair .bool (.pair (.sl (.int .i64)) .unit)) .unit) : Ty).den → Option Bool, (∀ x, G x = R17_Fine x.1) ∧ PCon Go.Proofs.Try.prog 71 (liftF (.pair (.pair .bool (.pair (.sl (.int .i64)) .unit)) .unit) (unpack .bool) G) := ⟨_, fun _ => rfl, c_R17_Fine⟩
  obtain ⟨fns, hfns, hf⟩ : ∃ fns, fns = [(25, liftF (.pair (.pair (.int .i64) (.pair (.int .i64) (.pair (.int .i64) (.pair (.int .i64) .unit)))) .unit) (unpR (.pair (.pair (.pair (.int .i64) (.pair (.int .i64) (.pair (.int .i64) (.pair (.int .i64) .unit)))) (.pair (.int .i64) (.pair (.sl (.int .i64)) (.pair (.pair .bool (.pair (.sl (.int .i64)) .unit)) (.pair (.sl (.int .i64)) (.pair (.pair .bool (.pair (.sl (.int .i64)) .unit)) .unit)))))) (.pair (.int .i64) .unit))) G25), (69, liftF (.pair (.int .i64) .unit) (unpack .bool) G69), (70, liftF (.pair (.sl (.int .i64)) .unit) (unpack .bool) G70), (71, liftF (.pair (.pair .bool (.pair (.sl (.int .i64)) .unit)) .unit) (unpack .bool) G71)] ∧ FnsOk Go.Proofs.Try.prog fns := ⟨_, rfl, FnsOk.cons cG25 (FnsOk.cons cG69 (FnsOk.cons cG70 (FnsOk.cons cG71 (FnsOk.nil _))))⟩
  refine lift_con (E := E_R18_Fine fns) (c := bodyOf Try.f28) (nt := 76) (rs := [.tmp 2]) (ts := [4]) (EnvC.sub tt_ok et_ok hf (PrsOk.nil _) (ItsOk.nil _) tt_R18_Fine_ok et_R18_Fine_ok) (PrOk.of mixed_ok) Go.Proofs.Try.func28 rfl (by decide) rfl rfl rfl (pureR_one (e := .bool) rfl) ?_
  subst hfns
  intro x r hw hs
  repeat'
    (try (conv => whnf)
     first
       | (have hs := letv_out hs)
       | (refine draw_and (by kernel_rfl) ?_)
       | (refine both_mk ?_ ?_)
       | (refine br_bool (fun h => ?_) (fun h => ?_) <;> first | have hs := cT h hs | have hs := cF h hs)
       | (refine bind_elim hs fun v hb hs => ?_; first | refine callK_liftG hG25 rfl hb ?_ | refine callK_liftG hG69 rfl hb ?_ | refine callK_liftG hG70 rfl hb ?_ | refine callK_liftG hG71 rfl hb ?_)
       | refine chk_elim hs fun hs => ?_
       | exact fin_some hs rfl
       | (intro b hb; first | have hs := nilq_elim hs b hb | have hs := nilqn_elim hs b hb)
       | (have hs := cT rfl hs)
       | (have hs := cF rfl hs)
       | exact (none_ne hs).elim)
noncomputable def lf_R18_OutHit : List AV → Option AV := liftF (.pair (.pair (.pair (.int .i64) (.pair (.int .i64) (.pair (.int .i64) (.pair (.int .i64) .unit)))) (.pair (.int .i64) (.pair (.sl (.int .i64)) (.pair (.pair .bool (.pair (.sl (.int .i64)) .unit)) (.pair (.sl (.int .i64)) (.pair (.pair .bool (.pair (.sl (.int .i64)) .unit)) .unit)))))) .unit) (unpack .bool) (fun x => R18_OutHit x.1)
def tt_R18_OutHit : List (Nat × Ty) := [(3, .int .i64), (4, .bool), (23, .pair (.int .i64) (.pair (.int .i64) (.pair (.int .i64) (.pair (.int .i64) .unit)))), (28, .pair (.pair (.int .i64) (.pair (.int .i64) (.pair (.int .i64) (.pair (.int .i64) .unit)))) (.pair (.int .i64) (.pair (.sl (.int .i64)) (.pair (.pair .bool (.pair (.sl (.int .i64)) .unit)) (.pair (.sl (.int .i64)) (.pair (.pair .bool (.pair (.sl (.int .i64)) .unit)) .unit))))))]
def et_R18_OutHit : List (Nat × Nat) := []
theorem tt_R18_OutHit_ok : subT tt tt_R18_OutHit = true := by kernel_rfl
theorem et_R18_OutHit_ok : subE et et_R18_OutHit = true := by kernel_rfl
noncomputable def E_R18_OutHit (fns : List (Nat × (List AV → Option AV))) : Env := ⟨0, 0, et_R18_OutHit, tt_R18_OutHit, fns, [], [], [(0, [1]), (1, [2]), (4000000, [1]), (4000001, [])], none, []⟩
set_option maxRecDepth 100000 in
set_option maxHeartbeats 40000000 in
theorem c_R18_OutHit : PCon Go.Proofs.Try.prog 74 lf_R18_OutHit := by
  obtain ⟨G91, hG91, cG91⟩ : ∃ G : ((.pair (.int .i64) (.pair (.int .i64) .unit)) : Ty).den → Option Bool, (∀ x, G x = R16_Hit x.1 x.2.1) ∧ PCon Go.Proofs.Try.prog 91 (liftF (.pair (.int .i64) (.pair (.int .i64) .unit)) (unpack .bool) G) := ⟨_, fun _ => rfl, c_R16_Hit⟩
  obtain ⟨fns, hfns, hf⟩ : ∃ fns, fns = [(91, liftF (.pair (.int .i64) (.pair (.int .i64) .unit)) (unpack .bool) G91)] ∧ FnsOk Go.Proofs.Try.prog fns := ⟨_, rfl, FnsOk.cons cG91 (FnsOk.nil _)⟩
  refine lift_con (E := E_R18_OutHit fns) (c := bodyOf Try.f74) (nt := 9) (rs := [.tmp 2]) (ts := [4]) (EnvC.sub tt_ok et_ok hf (PrsOk.nil _) (ItsOk.nil _) tt_R18_OutHit_ok et_R18_OutHit_ok) (PrOk.of mixed_ok) Go.Proofs.Try.func74 rfl (by decide) rfl rfl rfl (pureR_one (e := .bool) rfl) ?_
  subst hfns
  intro x r hw hs
  repeat'
    (try (conv => whnf)
     first
       | (have hs := letv_out hs)
       | (refine draw_and (by kernel_rfl) ?_)
       | (refine both_mk ?_ ?_)
       | (refine br_bool (fun h => ?_) (fun h => ?_) <;> first | have hs := cT h hs | have hs := cF h hs)
       | (refine bind_elim hs fun v hb hs => ?_; first | refine callK_liftG hG91 rfl hb ?_)
       | refine chk_elim hs fun hs => ?_
       | exact fin_some hs rfl
       | (intro b hb; first | have hs := nilq_elim hs b hb | have hs := nilqn_elim hs b hb)
       | (have hs := cT rfl hs)
       | (have hs := cF rfl hs)
       | exact (none_ne hs).elim)
noncomputable def lf_R18_InHit : List AV → Option AV := liftF (.pair (.pair (.pair (.int .i64) (.pair (.int .i64) (.pair (.int .i64) (.pair (.int .i64) .unit)))) (.pair (.int .i64) (.pair (.sl (.int .i64)) (.pair (.pair .bool (.pair (.sl (.int .i64)) .unit)) (.pair (.sl (.int .i64)) (.pair (.pair .bool (.pair (.sl (.int .i64)) .unit)) .unit)))))) .unit) (unpack .bool) (fun x => R18_InHit x.1)
def tt_R18_InHit : List (Nat × Ty) := [(3, .int .i64), (4, .bool), (23, .pair (.int .i64) (.pair (.int .i64) (.pair (.int .i64) (.pair (.int .i64) .unit)))), (28, .pair (.pair (.int .i64) (.pair (.int .i64) (.pair (.int .i64) (.pair (.int .i64) .unit)))) (.pair (.int .i64) (.pair (.sl (.int .i64)) (.pair (.pair .bool (.pair (.sl (.int .i64)) .unit)) (.pair (.sl (.int .i64)) (.pair (.pair .bool (.pair (.sl (.int .i64)) .unit)) .unit))))))]
def et_R18_InHit : List (Nat × Nat) := []
theorem tt_R18_InHit_ok : subT tt tt_R18_InHit = true := by kernel_rfl
theorem et_R18_InHit_ok : subE et et_R18_InHit = true := by kernel_rfl
noncomputable def E_R18_InHit (fns : List (Nat × (List AV → Option AV))) : Env := ⟨0, 0, et_R18_InHit, tt_R18_InHit, fns, [], [], [(0, [1]), (1, [2]), (4000000, [1]), (4000001, [])], none, []⟩
set_option maxRecDepth 100000 in
set_option maxHeartbeats 40000000 in
theorem c_R18_InHit : PCon Go.Proofs.Try.prog 75 lf_R18_InHit := by
  obtain ⟨G91, hG91, cG91⟩ : ∃ G : ((.pair (.int .i64) (.pair (.int .i64) .unit)) : Ty).den → Option Bool, (∀ x, G x = R16_Hit x.1 x.2.1) ∧ PCon Go.Proofs.Try.prog 91 (liftF (.pair (.int .i64) (.pair (.int .i64) .unit)) (unpack .bool) G) := ⟨_, fun _ => rfl, c_R16_Hit⟩
  obtain ⟨fns, hfns, hf⟩ : ∃ fns, fns = [(91, liftF (.pair (.int .i64) (.pair (.int .i64) .unit)) (unpack .bool) G91)] ∧ FnsOk Go.Proofs.Try.prog fns := ⟨_, rfl, FnsOk.cons cG91 (FnsOk.nil _)⟩
  refine lift_con (E := E_R18_InHit fns) (c := bodyOf Try.f75) (nt := 9) (rs := [.tmp 2]) (ts := [4]) (EnvC.sub tt_ok et_ok hf (PrsOk.nil _) (ItsOk.nil _) tt_R18_InHit_ok et_R18_InHit_ok) (PrOk.of mixed_ok) Go.Proofs.Try.func75 rfl (by decide) rfl rfl rfl (pureR_one (e := .bool) rfl) ?_
  subst hfns
  intro x r hw hs
  repeat'
    (try (conv => whnf)
     first
       | (have hs := letv_out hs)
       | (refine draw_and (by kernel_rfl) ?_)
       | (refine both_mk ?_ ?_)
       | (refine br_bool (fun h => ?_) (fun h => ?_) <;> first | have hs := cT h hs | have hs := cF h hs)
       | (refine bind_elim hs fun v hb hs => ?_; first | refine callK_liftG hG91 rfl hb ?_)
       | refine chk_elim hs fun hs => ?_
       | exact fin_some hs rfl
       | (intro b hb; first | have hs := nilq_elim hs b hb | have hs := nilqn_elim hs b hb)
       | (have hs := cT rfl hs)
       | (have hs := cF rfl hs)
       | exact (none_ne hs).elim)
noncomputable def lf_R18_What : List AV → Option AV := liftF (.pair (.pair (.pair (.int .i64) (.pair (.int .i64) (.pair (.int .i64) (.pair (.int .i64) .unit)))) (.pair (.int .i64) (.pair (.sl (.int .i64)) (.pair (.pair .bool (.pair (.sl (.int .i64)) .unit)) (.pair (.sl (.int .i64)) (.pair (.pair .bool (.pair (.sl (.int .i64)) .unit)) .unit)))))) .unit) (unpack (.sl (.int .i64))) (fun x => R18_What x.1)
def tt_R18_What : List (Nat × Ty) := [(3, .int .i64), (4, .bool), (23, .pair (.int .i64) (.pair (.int .i64) (.pair (.int .i64) (.pair (.int .i64) .unit)))), (24, .sl (.int .i64)), (26, .pair .bool (.pair (.sl (.int .i64)) .unit)), (28, .pair (.pair (.int .i64) (.pair (.int .i64) (.pair (.int .i64) (.pair (.int .i64) .unit)))) (.pair (.int .i64) (.pair (.sl (.int .i64)) (.pair (.pair .bool (.pair (.sl (.int .i64)) .unit)) (.pair (.sl (.int .i64)) (.pair (.pair .bool (.pair (.sl (.int .i64)) .unit)) .unit))))))]
def et_R18_What : List (Nat × Nat) := [(24, 3)]
theorem tt_R18_What_ok : subT tt tt_R18_What = true := by kernel_rfl
theorem et_R18_What_ok : subE et et_R18_What = true := by kernel_rfl
noncomputable def E_R18_What (fns : List (Nat × (List AV → Option AV))) : Env := ⟨0, 0, et_R18_What, tt_R18_What, fns, [], [], [(0, [1]), (1, [1, 8]), (2, [2]), (3, [1, 3]), (4, [1, 3, 4]), (5, [1, 3, 4, 5]), (6, [1, 3, 4, 5, 38]), (7, [1, 3, 4, 5]), (8, [1, 4, 5, 57]), (9, [1, 4, 5]), (10, [5, 73]), (11, [5]), (12, [2]), (4000000, [1]), (4000001, [1]), (4000002, []), (4000003, [1]), (4000004, [1]), (4000005, [1]), (4000006, [1]), (4000007, [1, 41]), (4000008, [1, 41]), (4000009, [1, 41, 60]), (4000010, [41, 60]), (4000011, [41, 60, 76]), (4000012, [41, 60, 76])], none, []⟩
set_option maxRecDepth 100000 in
set_option maxHeartbeats 40000000 in
theorem c_R18_What : PCon Go.Proofs.Try.prog 32 lf_R18_What := by
  obtain ⟨G28, hG28, cG28⟩ : ∃ G : ((.pair (.pair (.pair (.int .i64) (.pair (.int .i64) (.pair (.int .i64) (.pair (.int .i64) .unit)))) (.pair (.int .i64) (.pair (.sl (.int .i64)) (.pair (.pair .bool (.pair (.sl (.int .i64)) .unit)) (.pair (.sl (.int .i64)) (.pair (.pair .bool (.pair (.sl (.int .i64)) .unit)) .unit)))))) .unit) : Ty).den → Option Bool, (∀ x, G x = R18_Fine x.1) ∧ PCon Go.Proofs.Try.prog 28 (liftF (.pair (.pair (.pair (.int .i64) (.pair (.int .i64) (.pair (.int .i64) (.pair (.int .i64) .unit)))) (.pair (.int .i64) (.pair (.sl (.int .i64)) (.pair (.pair .bool (.pair (.sl (.int .i64)) .unit)) (.pair (.sl (.int .i64)) (.pair (.pair .bool (.pair (.sl (.int .i64)) .unit)) .unit)))))) .unit) (unpack .bool) G) := ⟨_, fun _ => rfl, c_R18_Fine⟩
  obtain ⟨G74, hG74, cG74⟩ : ∃ G : ((.pair (.pair (.pair (.int .i64) (.pair (.int .i64) (.pair (.int .i64) (.pair (.int .i64) .unit)))) (.pair (.int .i64) (.pair (.sl (.int .i64)) (.pair (.pair .bool (.pair (.sl (.int .i64)) .unit)) (.pair (.sl (.int .i64)) (.pair (.pair .bool (.pair (.sl (.int .i64)) .unit)) .unit)))))) .unit) : Ty).den → Option Bool, (∀ x, G x = R18_OutHit x.1) ∧ PCon Go.Proofs.Try.prog 74 (liftF (.pair (.pair (.pair (.int .i64) (.pair (.int .i64) (.pair (.int .i64) (.pair (.int .i64) .unit)))) (.pair (.int .i64) (.pair (.sl (.int .i64)) (.pair (.pair .bool (.pair (.sl (.int .i64)) .unit)) (.pair (.sl (.int .i64)) (.pair (.pair .bool (.pair (.sl (.int .i64)) .unit)) .unit)))))) .unit) (unpack .bool) G) := ⟨_, fun _ => rfl, c_R18_OutHit⟩
  obtain ⟨G75, hG75, cG75⟩ : ∃ G : ((.pair (.pair (.pair (.int .i64) (.pair (.int .i64) (.pair (.int .i64) (.pair (.int .i64) .unit)))) (.pair (.int .i64) (.pair (.sl (.int .i64)) (.pair (.pair .bool (.pair (.sl (.int .i64)) .unit)) (.pair (.sl (.int .i64)) (.pair (.pair .bool (.pair (.sl (.int .i64)) .unit)) .unit)))))) .unit) : Ty).den → Option Bool, (∀ x, G x = R18_InHit x.1) ∧ PCon Go.Proofs.Try.prog 75 (liftF (.pair (.pair (.pair (.int .i64) (.pair (.int .i64) (.pair (.int .i64) (.pair (.int .i64) .unit)))) (.pair (.int .i64) (.pair (.sl (.int .i64)) (.pair (.pair .bool (.pair (.sl (.int .i64)) .unit)) (.pair (.sl (.int .i64)) (.pair (.pair .bool (.pair (.sl (.int .i64)) .unit)) .unit)))))) .unit) (unpack .bool) G) := ⟨_, fun _ => rfl, c_R18_InHit⟩
  obtain ⟨fns, hfns, hf⟩ : ∃ fns, fns = [(28, liftF (.pair (.pair (.pair (.int .i64) (.pair (.int .i64) (.pair (.int .i64) (.pair (.int .i64) .unit)))) (.pair (.int .i64) (.pair (.sl (.int .i64)) (.pair (.pair .bool (.pair (.sl (.int .i64)) .unit)) (.pair (.sl (.int .i64)) (.pair (.pair .bool (.pair (.sl (.int .i64)) .unit)) .unit)))))) .unit) (unpack .bool) G28), (74, liftF (.pair (.pair (.pair (.int .i64) (.pair (.int .i64) (.pair (.int .i64) (.pair (.int .i64) .unit)))) (.pair (.int .i64) (.pair (.sl (.int .i64)) (.pair (.pair .bool (.pair (.sl (.int .i64)) .unit)) (.pair (.sl (.int .i64)) (.pair (.pair .bool (.pair (.sl (.int .i64)) .unit)) .unit)))))) .unit) (unpack .bool) G74), (75, liftF (.pair (.pair (.pair (.int .i64) (.pair (.int .i64) (.pair (.int .i64) (.pair (.int .i64) .unit)))) (.pair (.int .i64) (.pair (.sl (.int .i64)) (.pair (.pair .bool (.pair (.sl (.int .i64)) .unit)) (.pair (.sl (.int .i64)) (.pair (.pair .bool (.pair (.sl (.int .i64)) .unit)) .unit)))))) .unit) (unpack .bool) G75)] ∧ FnsOk Go.Proofs.Try.prog fns := ⟨_, rfl, FnsOk.cons cG28 (FnsOk.cons cG74 (FnsOk.cons cG75 (FnsOk.nil _)))⟩
  refine lift_con (E := E_R18_What fns) (c := bodyOf Try.f32) (nt := 78) (rs := [.tmp 2]) (ts := [24]) (EnvC.sub tt_ok et_ok hf (PrsOk.nil _) (ItsOk.nil _) tt_R18_What_ok et_R18_What_ok) (PrOk.of mixed_ok) Go.Proofs.Try.func32 rfl (by decide) rfl rfl rfl (pureR_one (e := (.sl (.int .i64))) rfl) ?_
  subst hfns
  intro x r hw hs
  repeat'
    (try (conv => whnf)
     first
       | (have hs := letv_out hs)
       | (refine draw_and (by kernel_rfl) ?_)
       | (refine both_mk ?_ ?_)
       | (refine br_bool (fun h => ?_) (fun h => ?_) <;> first | have hs := cT h hs | have hs := cF h hs)
       | (refine bind_elim hs fun v hb hs => ?_; first | refine callK_liftG hG28 rfl hb ?_ | refine callK_liftG hG74 rfl hb ?_ | refine callK_liftG hG75 rfl hb ?_)
       | refine chk_elim hs fun hs => ?_
       | exact fin_some hs rfl
       | (intro b hb; first | have hs := nilq_elim hs b hb | have hs := nilqn_elim hs b hb)
       | (have hs := cT rfl hs)
       | (have hs := cF rfl hs)
       | exact (none_ne hs).elim)
noncomputable def lf_R18_Hit : List AV → Option AV := liftF (.pair (.pair (.pair (.int .i64) (.pair (.int .i64) (.pair (.int .i64) (.pair (.int .i64) .unit)))) (.pair (.int .i64) (.pair (.sl (.int .i64)) (.pair (.pair .bool (.pair (.sl (.int .i64)) .unit)) (.pair (.sl (.int .i64)) (.pair (.pair .bool (.pair (.sl (.int .i64)) .unit)) .unit)))))) (.pair (.int .i64) .unit)) (unpack .bool) (fun x => R18_Hit x.1 x.2.1)
def tt_R18_Hit : List (Nat × Ty) := [(3, .int .i64), (4, .bool), (24, .sl (.int .i64)), (26, .pair .bool (.pair (.sl (.int .i64)) .unit)), (28, .pair (.pair (.int .i64) (.pair (.int .i64) (.pair (.int .i64) (.pair (.int .i64) .unit)))) (.pair (.int .i64) (.pair (.sl (.int .i64)) (.pair (.pair .bool (.pair (.sl (.int .i64)) .unit)) (.pair (.sl (.int .i64)) (.pair (.pair .bool (.pair (.sl (.int .i64)) .unit)) .unit))))))]
def et_R18_Hit : List (Nat × Nat) := [(24, 3)]
theorem tt_R18_Hit_ok : subT tt tt_R18_Hit = true := by kernel_rfl
theorem et_R18_Hit_ok : subE et et_R18_Hit = true := by kernel_rfl
noncomputable def E_R18_Hit (fns : List (Nat × (List AV → Option AV))) : Env := ⟨0, 0, et_R18_Hit, tt_R18_Hit, fns, [], [], [(0, [1, 2]), (1, [4]), (4000000, [2]), (4000001, [])], none, []⟩
set_option maxRecDepth 100000 in
set_option maxHeartbeats 40000000 in
theorem c_R18_Hit : PCon Go.Proofs.Try.prog 30 lf_R18_Hit := by
  obtain ⟨G28, hG28, cG28⟩ : ∃ G : ((.pair (.pair (.pair (.int .i64) (.pair (.int .i64) (.pair (.int .i64) (.pair (.int .i64) .unit)))) (.pair (.int .i64) (.pair (.sl (.int .i64)) (.pair (.pair .bool (.pair (.sl (.int .i64)) .unit)) (.pair (.sl (.int .i64)) (.pair (.pair .bool (.pair (.sl (.int .i64)) .unit)) .unit)))))) .unit) : Ty).den → Option Bool, (∀ x, G x = R18_Fine x.1) ∧ PCon Go.Proofs.Try.prog 28 (liftF (.pair (.pair (.pair (.int .i64) (.pair (.int .i64) (.pair (.int .i64) (.pair (.int .i64) .unit)))) (.pair (.int .i64) (.pair (.sl (.int .i64)) (.pair (.pair .bool (.pair (.sl (.int .i64)) .unit)) (.pair (.sl (.int .i64)) (.pair (.pair .bool (.pair (.sl (.int .i64)) .unit)) .unit)))))) .unit) (unpack .bool) G) := ⟨_, fun _ => rfl, c_R18_Fine⟩
  obtain ⟨G64, hG64, cG64⟩ : ∃ G : ((.pair (.sl (.int .i64)) (.pair (.int .i64) .unit)) : Ty).den → Option Int, (∀ x, G x = R17_At x.1 x.2.1) ∧ PCon Go.Proofs.Try.prog 64 (liftF (.pair (.sl (.int .i64)) (.pair (.int .i64) .unit)) (unpack (.int .i64)) G) := ⟨_, fun _ => rfl, c_R17_At⟩
  obtain ⟨G74, hG74, cG74⟩ : ∃ G : ((.pair (.pair (.pair (.int .i64) (.pair (.int .i64) (.pair (.int .i64) (.pair (.int .i64) .unit)))) (.pair (.int .i64) (.pair (.sl (.int .i64)) (.pair (.pair .bool (.pair (.sl (.int .i64)) .unit)) (.pair (.sl (.int .i64)) (.pair (.pair .bool (.pair (.sl (.int .i64)) .unit)) .unit)))))) .unit) : Ty).den → Option Bool, (∀ x, G x = R18_OutHit x.1) ∧ PCon Go.Proofs.Try.prog 74 (liftF (.pair (.pair (.pair (.int .i64) (.pair (.int .i64) (.pair (.int .i64) (.pair (.int .i64) .unit)))) (.pair (.int .i64) (.pair (.sl (.int .i64)) (.pair (.pair .bool (.pair (.sl (.int .i64)) .unit)) (.pair (.sl (.int .i64)) (.pair (.pair .bool (.pair (.sl (.int .i64)) .unit)) .unit)))))) .unit) (unpack .bool) G) := ⟨_, fun _ => rfl, c_R18_OutHit⟩
  obtain ⟨G75, hG75, cG75⟩ : ∃ G : ((.pair (.pair (.pair (.int .i64) (.pair (.int .i64) (.pair (.int .i64) (.pair (.int .i64) .unit)))) (.pair (.int .i64) (.pair (.sl (.int .i64)) (.pair (.pair .bool (.pair (.sl (.int .i64)) .unit)) (.pair (.sl (.int .i64)) (.pair (.pair .bool (.pair (.sl (.int .i64)) .unit)) .unit)))))) .unit) : Ty).den → Option Bool, (∀ x, G x = R18_InHit x.1) ∧ PCon Go.Proofs.Try.prog 75 (liftF (.pair (.pair (.pair (.int .i64) (.pair (.int .i64) (.pair (.int .i64) (.pair (.int .i64) .unit)))) (.pair (.int .i64) (.pair (.sl (.int .i64)) (.pair (.pair .bool (.pair (.sl (.int .i64)) .unit)) (.pair (.sl (.int .i64)) (.pair (.pair .bool (.pair (.sl (.int .i64)) .unit)) .unit)))))) .unit) (unpack .bool) G) := ⟨_, fun _ => rfl, c_R18_InHit⟩
  obtain ⟨fns, hfns, hf⟩ : ∃ fns, fns = [(28, liftF (.pair (.pair (.pair (.int .i64) (.pair (.int .i64) (.pair (.int .i64) (.pair (.int .i64) .unit)))) (.pair (.int .i64) (.pair (.sl (.int .i64)) (.pair (.pair .bool (.pair (.sl (.int .i64)) .unit)) (.pair (.sl (.int .i64)) (.pair (.pair .bool (.pair (.sl (.int .i64)) .unit)) .unit)))))) .unit) (unpack .bool) G28), (64, liftF (.pair (.sl (.int .i64)) (.pair (.int .i64) .unit)) (unpack (.int .i64)) G64), (74, liftF (.pair (.pair (.pair (.int .i64) (.pair (.int .i64) (.pair (.int .i64) (.pair (.int .i64) .unit)))) (.pair (.int .i64) (.pair (.sl (.int .i64)) (.pair (.pair .bool (.pair (.sl (.int .i64)) .unit)) (.pair (.sl (.int .i64)) (.pair (.pair .bool (.pair (.sl (.int .i64)) .unit)) .unit)))))) .unit) (unpack .bool) G74), (75, liftF (.pair (.pair (.pair (.int .i64) (.pair (.int .i64) (.pair (.int .i64) (.pair (.int .i64) .unit)))) (.pair (.int .i64) (.pair (.sl (.int .i64)) (.pair (.pair .bool (.pair (.sl (.int .i64)) .unit)) (.pair (.sl (.int .i64)) (.pair (.pair .bool (.pair (.sl (.int .i64)) .unit)) .unit)))))) .unit) (unpack .bool) G75)] ∧ FnsOk Go.Proofs.Try.prog fns := ⟨_, rfl, FnsOk.cons cG28 (FnsOk.cons cG64 (FnsOk.cons cG74 (FnsOk.cons cG75 (FnsOk.nil _))))⟩
  refine lift_con (E := E_R18_Hit fns) (c := bodyOf Try.f30) (nt := 31) (rs := [.tmp 4]) (ts := [4]) (EnvC.sub tt_ok et_ok hf (PrsOk.nil _) (ItsOk.nil _) tt_R18_Hit_ok et_R18_Hit_ok) (PrOk.of mixed_ok) Go.Proofs.Try.func30 rfl (by decide) rfl rfl rfl (pureR_one (e := .bool) rfl) ?_
  subst hfns
  intro x r hw hs
  repeat'
    (try (conv => whnf)
     first
       | (have hs := letv_out hs)
       | (refine draw_and (by kernel_rfl) ?_)
       | (refine both_mk ?_ ?_)
       | (refine br_bool (fun h => ?_) (fun h => ?_) <;> first | have hs := cT h hs | have hs := cF h hs)
       | (refine bind_elim hs fun v hb hs => ?_; first | refine callK_liftG hG28 rfl hb ?_ | refine callK_liftG hG64 rfl hb ?_ | refine callK_liftG hG74 rfl hb ?_ | refine callK_liftG hG75 rfl hb ?_)
       | refine chk_elim hs fun hs => ?_
       | exact fin_some hs rfl
       | (intro b hb; first | have hs := nilq_elim hs b hb | have hs := nilqn_elim hs b hb)
       | (have hs := cT rfl hs)
       | (have hs := cF rfl hs)
       | exact (none_ne hs).elim)
noncomputable def lf_R18_Poison : List AV → Option AV := liftF (.pair (.pair (.pair (.int .i64) (.pair (.int .i64) (.pair (.int .i64) (.pair (.int .i64) .unit)))) (.pair (.int .i64) (.pair (.sl (.int .i64)) (.pair (.pair .bool (.pair (.sl (.int .i64)) .unit)) (.pair (.sl (.int .i64)) (.pair (.pair .bool (.pair (.sl (.int .i64)) .unit)) .unit)))))) (.pair (.int .i64) .unit)) (unpR (.pair (.pair (.pair (.int .i64) (.pair (.int .i64) (.pair (.int .i64) (.pair (.int .i64) .unit)))) (.pair (.int .i64) (.pair (.sl (.int .i64)) (.pair (.pair .bool (.pair (.sl (.int .i64)) .unit)) (.pair (.sl (.int .i64)) (.pair (.pair .bool (.pair (.sl (.int .i64)) .unit)) .unit)))))) (.pair (.int .i64) .unit))) (fun x => R18_Poison x.1 x.2.1)
def tt_R18_Poison : List (Nat × Ty) := [(3, .int .i64), (4, .bool), (28, .pair (.pair (.int .i64) (.pair (.int .i64) (.pair (.int .i64) (.pair (.int .i64) .unit)))) (.pair (.int .i64) (.pair (.sl (.int .i64)) (.pair (.pair .bool (.pair (.sl (.int .i64)) .unit)) (.pair (.sl (.int .i64)) (.pair (.pair .bool (.pair (.sl (.int .i64)) .unit)) .unit))))))]
def et_R18_Poison : List (Nat × Nat) := []
theorem tt_R18_Poison_ok : subT tt tt_R18_Poison = true := by kernel_rfl
theorem et_R18_Poison_ok : subE et et_R18_Poison = true := by kernel_rfl
noncomputable def E_R18_Poison (fns : List (Nat × (List AV → Option AV))) : Env := ⟨0, 0, et_R18_Poison, tt_R18_Poison, fns, [], [], [(0, [1, 2, 4]), (1, [1, 2, 4, 10]), (2, [4, 5]), (3, [2, 4, 6, 7]), (4, [2, 4, 6, 7, 20]), (5, [4, 5]), (6, [2, 4]), (7, [4, 5]), (4000000, [2, 4]), (4000001, [2, 4]), (4000002, [4]), (4000003, [2, 4]), (4000004, [2, 4]), (4000005, [4]), (4000006, [2, 4]), (4000007, [4])], none, []⟩
set_option maxRecDepth 100000 in
set_option maxHeartbeats 40000000 in
theorem c_R18_Poison : PCon Go.Proofs.Try.prog 17 lf_R18_Poison := by
  obtain ⟨G28, hG28, cG28⟩ : ∃ G : ((.pair (.pair (.pair (.int .i64) (.pair (.int .i64) (.pair (.int .i64) (.pair (.int .i64) .unit)))) (.pair (.int .i64) (.pair (.sl (.int .i64)) (.pair (.pair .bool (.pair (.sl (.int .i64)) .unit)) (.pair (.sl (.int .i64)) (.pair (.pair .bool (.pair (.sl (.int .i64)) .unit)) .unit)))))) .unit) : Ty).den → Option Bool, (∀ x, G x = R18_Fine x.1) ∧ PCon Go.Proofs.Try.prog 28 (liftF (.pair (.pair (.pair (.int .i64) (.pair (.int .i64) (.pair (.int .i64) (.pair (.int .i64) .unit)))) (.pair (.int .i64) (.pair (.sl (.int .i64)) (.pair (.pair .bool (.pair (.sl (.int .i64)) .unit)) (.pair (.sl (.int .i64)) (.pair (.pair .bool (.pair (.sl (.int .i64)) .unit)) .unit)))))) .unit) (unpack .bool) G) := ⟨_, fun _ => rfl, c_R18_Fine⟩
  obtain ⟨G59, hG59, cG59⟩ : ∃ G : ((.pair (.int .i64) (.pair (.int .i64) .unit)) : Ty).den → Option (Int × Int × Unit), (∀ x, G x = R16_Raise x.1 x.2.1) ∧ PCon Go.Proofs.Try.prog 59 (liftF (.pair (.int .i64) (.pair (.int .i64) .unit)) (unpR (.pair (.int .i64) (.pair (.int .i64) .unit))) G) := ⟨_, fun _ => rfl, c_R16_Raise⟩
  obtain ⟨fns, hfns, hf⟩ : ∃ fns, fns = [(28, liftF (.pair (.pair (.pair (.int .i64) (.pair (.int .i64) (.pair (.int .i64) (.pair (.int .i64) .unit)))) (.pair (.int .i64) (.pair (.sl (.int .i64)) (.pair (.pair .bool (.pair (.sl (.int .i64)) .unit)) (.pair (.sl (.int .i64)) (.pair (.pair .bool (.pair (.sl (.int .i64)) .unit)) .unit)))))) .unit) (unpack .bool) G28), (59, liftF (.pair (.int .i64) (.pair (.int .i64) .unit)) (unpR (.pair (.int .i64) (.pair (.int .i64) .unit))) G59)] ∧ FnsOk Go.Proofs.Try.prog fns := ⟨_, rfl, FnsOk.cons cG28 (FnsOk.cons cG59 (FnsOk.nil _))⟩
  refine lift_con (E := E_R18_Poison fns) (c := bodyOf Try.f17) (nt := 26) (rs := [.cell 4 28, .tmp 5]) (ts := [28, 3]) (EnvC.sub tt_ok et_ok hf (PrsOk.nil _) (ItsOk.nil _) tt_R18_Poison_ok et_R18_Poison_ok) (PrOk.of mixed_ok) Go.Proofs.Try.func17 rfl (by decide) rfl rfl rfl (pureR_many (e := (.pair (.pair (.pair (.int .i64) (.pair (.int .i64) (.pair (.int .i64) (.pair (.int .i64) .unit)))) (.pair (.int .i64) (.pair (.sl (.int .i64)) (.pair (.pair .bool (.pair (.sl (.int .i64)) .unit)) (.pair (.sl (.int .i64)) (.pair (.pair .bool (.pair (.sl (.int .i64)) .unit)) .unit)))))) (.pair (.int .i64) .unit))) rfl) ?_
  subst hfns
  intro x r hw hs
  repeat'
    (try (conv => whnf)
     first
       | (have hs := letv_out hs)
       | (refine draw_and (by kernel_rfl) ?_)
       | (refine both_mk ?_ ?_)
       | (refine br_bool (fun h => ?_) (fun h => ?_) <;> first | have hs := cT h hs | have hs := cF h hs)
       | (refine bind_elim hs fun v hb hs => ?_; first | refine callK_liftG hG28 rfl hb ?_ | refine callK_liftG hG59 rfl hb ?_)
       | refine chk_elim hs fun hs => ?_
       | exact fin_some hs rfl
       | (intro b hb; first | have hs := nilq_elim hs b hb | have hs := nilqn_elim hs b hb)
       | (have hs := cT rfl hs)
       | (have hs := cF rfl hs)
       | exact (none_ne hs).elim)
noncomputable def lf_R18_Do : List AV → Option AV := liftF (.pair (.pair (.pair (.int .i64) (.pair (.int .i64) (.pair (.int .i64) (.pair (.int .i64) .unit)))) (.pair (.int .i64) (.pair (.sl (.int .i64)) (.pair (.pair .bool (.pair (.sl (.int .i64)) .unit)) (.pair (.sl (.int .i64)) (.pair (.pair .bool (.pair (.sl (.int .i64)) .unit)) .unit)))))) (.pair (.int .i64) .unit)) (unpR (.pair (.pair (.pair (.int .i64) (.pair (.int .i64) (.pair (.int .i64) (.pair (.int .i64) .unit)))) (.pair (.int .i64) (.pair (.sl (.int .i64)) (.pair (.pair .bool (.pair (.sl (.int .i64)) .unit)) (.pair (.sl (.int .i64)) (.pair (.pair .bool (.pair (.sl (.int .i64)) .unit)) .unit)))))) (.pair (.pair (.int .i64) (.pair (.int .i64) (.pair (.int .i64) .unit))) (.pair (.int .i64) .unit)))) (fun x => R18_Do x.1 x.2.1)
def tt_R18_Do : List (Nat × Ty) := [(3, .int .i64), (4, .bool), (24, .sl (.int .i64)), (26, .pair .bool (.pair (.sl (.int .i64)) .unit)), (28, .pair (.pair (.int .i64) (.pair (.int .i64) (.pair (.int .i64) (.pair (.int .i64) .unit)))) (.pair (.int .i64) (.pair (.sl (.int .i64)) (.pair (.pair .bool (.pair (.sl (.int .i64)) .unit)) (.pair (.sl (.int .i64)) (.pair (.pair .bool (.pair (.sl (.int .i64)) .unit)) .unit)))))), (48, .pair (.int .i64) (.pair (.int .i64) (.pair (.int .i64) .unit)))]
def et_R18_Do : List (Nat × Nat) := [(24, 3)]
theorem tt_R18_Do_ok : subT tt tt_R18_Do = true := by kernel_rfl
theorem et_R18_Do_ok : subE et et_R18_Do = true := by kernel_rfl
noncomputable def E_R18_Do (fns : List (Nat × (List AV → Option AV))) : Env := ⟨0, 0, et_R18_Do, tt_R18_Do, fns, [], [(9, (.one 0 (.one 1 (.one 2 (.one 3 (.one 4 (.one 5 (.one 6 (.one 7 (.one 8 (.one 100009 .nil))))))))))), (12, (.one 0 (.one 1 (.one 3 (.one 4 (.alt (.cons 2 (.one 5 (.one 100006 (.one 7 (.one 100008 .nil)))) (.cons 5 (.one 2 (.one 100006 (.one 7 (.one 100008 .nil)))) .nil)))))))), (18, (.one 0 (.one 1 (.one 2 (.one 3 (.one 4 (.one 5 (.one 6 (.one 7 (.one 8 (.one 100009 .nil))))))))))), (19, (.one 0 (.one 1 (.alt (.cons 2 (.alt (.cons 3 (.one 4 .nil) .nil)) .nil)))))], [(0, [1, 2, 4, 5]), (1, [1, 2, 4, 5, 10]), (2, [4, 5, 6]), (3, [1, 2, 4, 5, 17]), (4, [4, 5, 6]), (5, [1, 2, 4, 5, 7]), (6, [1, 2, 4, 5, 7, 26]), (7, [1, 2, 4, 5, 7]), (8, [1, 2, 4, 5, 7]), (9, [1, 2, 4, 5, 7]), (10, [1, 2, 4, 5, 7]), (11, [1, 2, 4, 5, 7, 52]), (12, [1, 2, 4, 5, 7]), (13, [1, 2, 4, 5, 7, 62]), (14, [1, 2, 4, 5, 7]), (15, [1, 2, 4, 5, 7]), (16, [2, 4, 5, 7, 77]), (17, [2, 4, 5, 7]), (18, [2, 4, 5, 7]), (19, [4, 5, 6]), (2000019, [4, 5]), (3000019, []), (4000000, [2, 4, 5]), (4000001, [2, 4, 5]), (4000002, [4, 5]), (4000003, [2, 4, 5]), (4000004, [4, 5]), (4000005, [2, 4, 5, 7]), (4000006, [2, 4, 5, 7]), (4000007, [2, 4, 5, 7]), (4000008, [2, 4, 5, 7]), (4000009, [2, 4, 5, 7]), (4000010, [2, 4, 5, 7]), (4000011, [2, 4, 5, 7]), (4000012, [2, 4, 5, 7, 55]), (4000013, [2, 4, 5, 7, 55]), (4000014, [2, 4, 5, 7, 55]), (4000015, [2, 4, 5, 7]), (4000016, [2, 4, 5, 7, 55]), (4000017, [2, 4, 5, 7, 55]), (4000018, [2, 4, 5, 7, 55]), (4000019, [4, 5, 55])], none, []⟩
set_option maxRecDepth 100000 in
set_option maxHeartbeats 40000000 in
theorem c_R18_Do : PCon Go.Proofs.Try.prog 21 lf_R18_Do := by
  obtain ⟨G28, hG28, cG28⟩ : ∃ G : ((.pair (.pair (.pair (.int .i64) (.pair (.int .i64) (.pair (.int .i64) (.pair (.int .i64) .unit)))) (.pair (.int .i64) (.pair (.sl (.int .i64)) (.pair (.pair .bool (.pair (.sl (.int .i64)) .unit)) (.pair (.sl (.int .i64)) (.pair (.pair .bool (.pair (.sl (.int .i64)) .unit)) .unit)))))) .unit) : Ty).den → Option Bool, (∀ x, G x = R18_Fine x.1) ∧ PCon Go.Proofs.Try.prog 28 (liftF (.pair (.pair (.pair (.int .i64) (.pair (.int .i64) (.pair (.int .i64) (.pair (.int .i64) .unit)))) (.pair (.int .i64) (.pair (.sl (.int .i64)) (.pair (.pair .bool (.pair (.sl (.int .i64)) .unit)) (.pair (.sl (.int .i64)) (.pair (.pair .bool (.pair (.sl (.int .i64)) .unit)) .unit)))))) .unit) (unpack .bool) G) := ⟨_, fun _ => rfl, c_R18_Fine⟩
  obtain ⟨G32, hG32, cG32⟩ : ∃ G : ((.pair (.pair (.pair (.int .i64) (.pair (.int .i64) (.pair (.int .i64) (.pair (.int .i64) .unit)))) (.pair (.int .i64) (.pair (.sl (.int .i64)) (.pair (.pair .bool (.pair (.sl (.int .i64)) .unit)) (.pair (.sl (.int .i64)) (.pair (.pair .bool (.pair (.sl (.int .i64)) .unit)) .unit)))))) .unit) : Ty).den → Option (List Int), (∀ x, G x = R18_What x.1) ∧ PCon Go.Proofs.Try.prog 32 (liftF (.pair (.pair (.pair (.int .i64) (.pair (.int .i64) (.pair (.int .i64) (.pair (.int .i64) .unit)))) (.pair (.int .i64) (.pair (.sl (.int .i64)) (.pair (.pair .bool (.pair (.sl (.int .i64)) .unit)) (.pair (.sl (.int .i64)) (.pair (.pair .bool (.pair (.sl (.int .i64)) .unit)) .unit)))))) .unit) (unpack (.sl (.int .i64))) G) := ⟨_, fun _ => rfl, c_R18_What⟩
  obtain ⟨G64, hG64, cG64⟩ : ∃ G : ((.pair (.sl (.int .i64)) (.pair (.int .i64) .unit)) : Ty).den → Option Int, (∀ x, G x = R17_At x.1 x.2.1) ∧ PCon Go.Proofs.Try.prog 64 (liftF (.pair (.sl (.int .i64)) (.pair (.int .i64) .unit)) (unpack (.int .i64)) G) := ⟨_, fun _ => rfl, c_R17_At⟩
  obtain ⟨fns, hfns, hf⟩ : ∃ fns, fns = [(28, liftF (.pair (.pair (.pair (.int .i64) (.pair (.int .i64) (.pair (.int .i64) (.pair (.int .i64) .unit)))) (.pair (.int .i64) (.pair (.sl (.int .i64)) (.pair (.pair .bool (.pair (.sl (.int .i64)) .unit)) (.pair (.sl (.int .i64)) (.pair (.pair .bool (.pair (.sl (.int .i64)) .unit)) .unit)))))) .unit) (unpack .bool) G28), (32, liftF (.pair (.pair (.pair (.int .i64) (.pair (.int .i64) (.pair (.int .i64) (.pair (.int .i64) .unit)))) (.pair (.int .i64) (.pair (.sl (.int .i64)) (.pair (.pair .bool (.pair (.sl (.int .i64)) .unit)) (.pair (.sl (.int .i64)) (.pair (.pair .bool (.pair (.sl (.int .i64)) .unit)) .unit)))))) .unit) (unpack (.sl (.int .i64))) G32), (64, liftF (.pair (.sl (.int .i64)) (.pair (.int .i64) .unit)) (unpack (.int .i64)) G64)] ∧ FnsOk Go.Proofs.Try.prog fns := ⟨_, rfl, FnsOk.cons cG28 (FnsOk.cons cG32 (FnsOk.cons cG64 (FnsOk.nil _)))⟩
  refine lift_con (E := E_R18_Do fns) (c := bodyOf Try.f21) (nt := 95) (rs := [.cell 4 28, .cell 5 48, .tmp 6]) (ts := [28, 48, 3]) (EnvC.sub tt_ok et_ok hf (PrsOk.nil _) (ItsOk.nil _) tt_R18_Do_ok et_R18_Do_ok) (PrOk.of mixed_ok) Go.Proofs.Try.func21 rfl (by decide) rfl rfl rfl (pureR_many (e := (.pair (.pair (.pair (.int .i64) (.pair (.int .i64) (.pair (.int .i64) (.pair (.int .i64) .unit)))) (.pair (.int .i64) (.pair (.sl (.int .i64)) (.pair (.pair .bool (.pair (.sl (.int .i64)) .unit)) (.pair (.sl (.int .i64)) (.pair (.pair .bool (.pair (.sl (.int .i64)) .unit)) .unit)))))) (.pair (.pair (.int .i64) (.pair (.int .i64) (.pair (.int .i64) .unit))) (.pair (.int .i64) .unit)))) rfl) ?_
  subst hfns
  intro x r hw hs
  repeat'
    (try (conv => whnf)
     first
       | (have hs := letv_out hs)
       | (refine draw_and (by kernel_rfl) ?_)
       | (refine both_mk ?_ ?_)
       | (refine br_bool (fun h => ?_) (fun h => ?_) <;> first | have hs := cT h hs | have hs := cF h hs)
       | (refine bind_elim hs fun v hb hs => ?_; first | refine callK_liftG hG28 rfl hb ?_ | refine callK_liftG hG32 rfl hb ?_ | refine callK_liftG hG64 rfl hb ?_)
       | refine chk_elim hs fun hs => ?_
       | exact fin_some hs rfl
       | (intro b hb; first | have hs := nilq_elim hs b hb | have hs := nilqn_elim hs b hb)
       | (have hs := cT rfl hs)
       | (have hs := cF rfl hs)
       | exact (none_ne hs).elim)
noncomputable def lf_R18_Leave : List AV → Option AV := liftF (.pair (.pair (.pair (.int .i64) (.pair (.int .i64) (.pair (.int .i64) (.pair (.int .i64) .unit)))) (.pair (.int .i64) (.pair (.sl (.int .i64)) (.pair (.pair .bool (.pair (.sl (.int .i64)) .unit)) (.pair (.sl (.int .i64)) (.pair (.pair .bool (.pair (.sl (.int .i64)) .unit)) .unit)))))) (.pair (.int .i64) .unit)) (unpack (.pair (.pair (.int .i64) (.pair (.int .i64) (.pair (.int .i64) (.pair (.int .i64) .unit)))) (.pair (.int .i64) (.pair (.sl (.int .i64)) (.pair (.pair .bool (.pair (.sl (.int .i64)) .unit)) (.pair (.sl (.int .i64)) (.pair (.pair .bool (.pair (.sl (.int .i64)) .unit)) .unit))))))) (fun x => R18_Leave x.1 x.2.1)
def tt_R18_Leave : List (Nat × Ty) := [(3, .int .i64), (4, .bool), (24, .sl (.int .i64)), (26, .pair .bool (.pair (.sl (.int .i64)) .unit)), (28, .pair (.pair (.int .i64) (.pair (.int .i64) (.pair (.int .i64) (.pair (.int .i64) .unit)))) (.pair (.int .i64) (.pair (.sl (.int .i64)) (.pair (.pair .bool (.pair (.sl (.int .i64)) .unit)) (.pair (.sl (.int .i64)) (.pair (.pair .bool (.pair (.sl (.int .i64)) .unit)) .unit))))))]
def et_R18_Leave : List (Nat × Nat) := [(24, 3)]
theorem tt_R18_Leave_ok : subT tt tt_R18_Leave = true := by kernel_rfl
theorem et_R18_Leave_ok : subE et et_R18_Leave = true := by kernel_rfl
noncomputable def E_R18_Leave (fns : List (Nat × (List AV → Option AV))) : Env := ⟨0, 0, et_R18_Leave, tt_R18_Leave, fns, [], [(5, (.one 0 (.one 1 (.one 2 (.one 3 (.one 5 (.one 6 (.one 7 (.one 8 (.one 9 (.one 4 (.one 100010 (.one 11 (.one 100012 .nil))))))))))))))], [(0, [1, 2, 4]), (1, [1, 2, 4, 12]), (2, [4]), (3, [1, 2, 4, 5]), (4, [1, 2, 4, 5, 20]), (5, [1, 2, 4]), (6, [1, 2, 4, 6]), (7, [1, 2, 4]), (8, [1, 2, 4, 47]), (9, [2, 4, 8]), (10, [2, 4]), (11, [4]), (4000000, [2, 4]), (4000001, [2, 4]), (4000002, [4]), (4000003, [2, 4]), (4000004, [2, 4]), (4000005, [2, 4, 25]), (4000006, [2, 4, 6, 25]), (4000007, [2, 4, 25]), (4000008, [2, 4, 25]), (4000009, [2, 4, 8, 25]), (4000010, [2, 4, 25]), (4000011, [4, 25])], none, []⟩
set_option maxRecDepth 100000 in
set_option maxHeartbeats 40000000 in
theorem c_R18_Leave : PCon Go.Proofs.Try.prog 34 lf_R18_Leave := by
  obtain ⟨G28, hG28, cG28⟩ : ∃ G : ((.pair (.pair (.pair (.int .i64) (.pair (.int .i64) (.pair (.int .i64) (.pair (.int .i64) .unit)))) (.pair (.int .i64) (.pair (.sl (.int .i64)) (.pair (.pair .bool (.pair (.sl (.int .i64)) .unit)) (.pair (.sl (.int .i64)) (.pair (.pair .bool (.pair (.sl (.int .i64)) .unit)) .unit)))))) .unit) : Ty).den → Option Bool, (∀ x, G x = R18_Fine x.1) ∧ PCon Go.Proofs.Try.prog 28 (liftF (.pair (.pair (.pair (.int .i64) (.pair (.int .i64) (.pair (.int .i64) (.pair (.int .i64) .unit)))) (.pair (.int .i64) (.pair (.sl (.int .i64)) (.pair (.pair .bool (.pair (.sl (.int .i64)) .unit)) (.pair (.sl (.int .i64)) (.pair (.pair .bool (.pair (.sl (.int .i64)) .unit)) .unit)))))) .unit) (unpack .bool) G) := ⟨_, fun _ => rfl, c_R18_Fine⟩
  obtain ⟨G64, hG64, cG64⟩ : ∃ G : ((.pair (.sl (.int .i64)) (.pair (.int .i64) .unit)) : Ty).den → Option Int, (∀ x, G x = R17_At x.1 x.2.1) ∧ PCon Go.Proofs.Try.prog 64 (liftF (.pair (.sl (.int .i64)) (.pair (.int .i64) .unit)) (unpack (.int .i64)) G) := ⟨_, fun _ => rfl, c_R17_At⟩
  obtain ⟨G77, hG77, cG77⟩ : ∃ G : ((.pair (.pair .bool (.pair (.sl (.int .i64)) .unit)) (.pair (.int .i64) .unit)) : Ty).den → Option ((Bool × (List Int) × Unit) × Bool × Unit), (∀ x, G x = R17_Leave x.1 x.2.1) ∧ PCon Go.Proofs.Try.prog 77 (liftF (.pair (.pair .bool (.pair (.sl (.int .i64)) .unit)) (.pair (.int .i64) .unit)) (unpR (.pair (.pair .bool (.pair (.sl (.int .i64)) .unit)) (.pair .bool .unit))) G) := ⟨_, fun _ => rfl, c_R17_Leave⟩
  obtain ⟨fns, hfns, hf⟩ : ∃ fns, fns = [(28, liftF (.pair (.pair (.pair (.int .i64) (.pair (.int .i64) (.pair (.int .i64) (.pair (.int .i64) .unit)))) (.pair (.int .i64) (.pair (.sl (.int .i64)) (.pair (.pair .bool (.pair (.sl (.int .i64)) .unit)) (.pair (.sl (.int .i64)) (.pair (.pair .bool (.pair (.sl (.int .i64)) .unit)) .unit)))))) .unit) (unpack .bool) G28), (64, liftF (.pair (.sl (.int .i64)) (.pair (.int .i64) .unit)) (unpack (.int .i64)) G64), (77, liftF (.pair (.pair .bool (.pair (.sl (.int .i64)) .unit)) (.pair (.int .i64) .unit)) (unpR (.pair (.pair .bool (.pair (.sl (.int .i64)) .unit)) (.pair .bool .unit))) G77)] ∧ FnsOk Go.Proofs.Try.prog fns := ⟨_, rfl, FnsOk.cons cG28 (FnsOk.cons cG64 (FnsOk.cons cG77 (FnsOk.nil _)))⟩
  refine lift_con (E := E_R18_Leave fns) (c := bodyOf Try.f34) (nt := 58) (rs := [.cell 4 28]) (ts := [28]) (EnvC.sub tt_ok et_ok hf (PrsOk.nil _) (ItsOk.nil _) tt_R18_Leave_ok et_R18_Leave_ok) (PrOk.of mixed_ok) Go.Proofs.Try.func34 rfl (by decide) rfl rfl rfl (pureR_one (e := (.pair (.pair (.int .i64) (.pair (.int .i64) (.pair (.int .i64) (.pair (.int .i64) .unit)))) (.pair (.int .i64) (.pair (.sl (.int .i64)) (.pair (.pair .bool (.pair (.sl (.int .i64)) .unit)) (.pair (.sl (.int .i64)) (.pair (.pair .bool (.pair (.sl (.int .i64)) .unit)) .unit))))))) rfl) ?_
  subst hfns
  intro x r hw hs
  repeat'
    (try (conv => whnf)
     first
       | (have hs := letv_out hs)
       | (refine draw_and (by kernel_rfl) ?_)
       | (refine both_mk ?_ ?_)
       | (refine br_bool (fun h => ?_) (fun h => ?_) <;> first | have hs := cT h hs | have hs := cF h hs)
       | (refine bind_elim hs fun v hb hs => ?_; first | refine callK_liftG hG28 rfl hb ?_ | refine callK_liftG hG64 rfl hb ?_ | refine callK_liftG hG77 rfl hb ?_)
       | refine chk_elim hs fun hs => ?_
       | exact fin_some hs rfl
       | (intro b hb; first | have hs := nilq_elim hs b hb | have hs := nilqn_elim hs b hb)
       | (have hs := cT rfl hs)
       | (have hs := cF rfl hs)
       | exact (none_ne hs).elim)
end Go.Proofs.YtbkccpddkpclaaaV
