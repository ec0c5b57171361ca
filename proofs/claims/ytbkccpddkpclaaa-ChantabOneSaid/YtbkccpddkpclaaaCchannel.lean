import Derived.Test.YtbkccpddkpclaaaVcTab
import Derived.Test.YtbkccpddkpclaaaVcLay
import Derived.Test.YtbkccpddkpclaaaDchannel
import Derived.Test.YtbkccpddkpclaaaCbase
import Derived.Test.YtbkccpddkpclaaaCclaims
namespace Go.Proofs.YtbkccpddkpclaaaV
open Go.Proofs
set_option linter.unusedVariables false
noncomputable def lf_channel_Check : List AV → Option AV := liftF (.pair (.pair (.int .i64) (.pair (.int .i64) (.pair (.int .i64) (.pair (.int .i64) .unit)))) .unit) (unpack (.int .i64)) (fun x => channel_Check x.1)
def tt_channel_Check : List (Nat × Ty) := [(3, .int .i64), (4, .bool), (23, .pair (.int .i64) (.pair (.int .i64) (.pair (.int .i64) (.pair (.int .i64) .unit)))), (35, .int .i64)]
def et_channel_Check : List (Nat × Nat) := []
theorem tt_channel_Check_ok : subT tt tt_channel_Check = true := by kernel_rfl
theorem et_channel_Check_ok : subE et et_channel_Check = true := by kernel_rfl
noncomputable def E_channel_Check (fns : List (Nat × (List AV → Option AV))) : Env := ⟨0, 0, et_channel_Check, tt_channel_Check, fns, [], [], [(0, [1]), (1, [1, 3]), (2, [2]), (3, [12]), (4, [2]), (5, [2]), (4000000, [1]), (4000001, [1]), (4000002, []), (4000003, []), (4000004, []), (4000005, [])], none, []⟩
set_option maxRecDepth 100000 in
set_option maxHeartbeats 40000000 in
theorem c_channel_Check : PCon Go.Proofs.Try.prog 26 lf_channel_Check := by
  obtain ⟨G66, hG66, cG66⟩ : ∃ G : ((.pair (.int .i64) .unit) : Ty).den → Option Bool, (∀ x, G x = poison_Fine x.1) ∧ PCon Go.Proofs.Try.prog 66 (liftF (.pair (.int .i64) .unit) (unpack .bool) G) := ⟨_, fun _ => rfl, c_poison_Fine⟩
  obtain ⟨fns, hfns, hf⟩ : ∃ fns, fns = [(66, liftF (.pair (.int .i64) .unit) (unpack .bool) G66)] ∧ FnsOk Go.Proofs.Try.prog fns := ⟨_, rfl, FnsOk.cons cG66 (FnsOk.nil _)⟩
  refine lift_con (E := E_channel_Check fns) (c := bodyOf Try.f26) (nt := 33) (rs := [.tmp 2]) (ts := [35]) (EnvC.sub tt_ok et_ok hf (PrsOk.nil _) (ItsOk.nil _) tt_channel_Check_ok et_channel_Check_ok) (PrOk.of mixed_ok) Go.Proofs.Try.func26 rfl (by decide) rfl rfl rfl (pureR_one (e := (.int .i64)) rfl) ?_
  subst hfns
  intro x r hw hs
  repeat'
    (try (conv => whnf)
     first
       | (have hs := letv_out hs)
       | (refine draw_and (by kernel_rfl) ?_)
       | (refine both_mk ?_ ?_)
       | (refine br_bool (fun h => ?_) (fun h => ?_) <;> first | have hs := cT h hs | have hs := cF h hs)
       | (refine bind_elim hs fun v hb hs => ?_; first | refine callK_liftG hG66 rfl hb ?_)
       | refine chk_elim hs fun hs => ?_
       | exact fin_some hs rfl
       | (intro b hb; first | have hs := nilq_elim hs b hb | have hs := nilqn_elim hs b hb)
       | (have hs := cT rfl hs)
       | (have hs := cF rfl hs)
       | exact (none_ne hs).elim)
noncomputable def lf_channel_shares : List AV → Option AV := liftF (.pair (.pair (.int .i64) (.pair (.int .i64) (.pair (.int .i64) (.pair (.int .i64) .unit)))) (.pair (.int .i64) .unit)) (unpack .bool) (fun x => channel_shares x.1 x.2.1)
def tt_channel_shares : List (Nat × Ty) := [(3, .int .i64), (4, .bool), (23, .pair (.int .i64) (.pair (.int .i64) (.pair (.int .i64) (.pair (.int .i64) .unit))))]
def et_channel_shares : List (Nat × Nat) := []
theorem tt_channel_shares_ok : subT tt tt_channel_shares = true := by kernel_rfl
theorem et_channel_shares_ok : subE et et_channel_shares = true := by kernel_rfl
noncomputable def E_channel_shares (fns : List (Nat × (List AV → Option AV))) : Env := ⟨0, 0, et_channel_shares, tt_channel_shares, fns, [], [], [(0, [1, 2]), (1, [4]), (4000000, [2]), (4000001, [])], none, []⟩
set_option maxRecDepth 100000 in
set_option maxHeartbeats 40000000 in
theorem c_channel_shares : PCon Go.Proofs.Try.prog 65 lf_channel_shares := by
  obtain ⟨fns, hfns, hf⟩ : ∃ fns, fns = [] ∧ FnsOk Go.Proofs.Try.prog fns := ⟨_, rfl, FnsOk.nil _⟩
  refine lift_con (E := E_channel_shares fns) (c := bodyOf Try.f65) (nt := 10) (rs := [.tmp 4]) (ts := [4]) (EnvC.sub tt_ok et_ok hf (PrsOk.nil _) (ItsOk.nil _) tt_channel_shares_ok et_channel_shares_ok) (PrOk.of mixed_ok) Go.Proofs.Try.func65 rfl (by decide) rfl rfl rfl (pureR_one (e := .bool) rfl) ?_
  subst hfns
  intro x r hw hs
  repeat'
    (try (conv => whnf)
     first
       | (have hs := letv_out hs)
       | (refine draw_and (by kernel_rfl) ?_)
       | (refine both_mk ?_ ?_)
       | (refine br_bool (fun h => ?_) (fun h => ?_) <;> first | have hs := cT h hs | have hs := cF h hs)
       | refine chk_elim hs fun hs => ?_
       | exact fin_some hs rfl
       | (intro b hb; first | have hs := nilq_elim hs b hb | have hs := nilqn_elim hs b hb)
       | (have hs := cT rfl hs)
       | (have hs := cF rfl hs)
       | exact (none_ne hs).elim)
noncomputable def lf_channel_New : List AV → Option AV := liftF (.pair (.pair (.int .i64) (.pair (.int .i64) (.pair (.int .i64) (.pair (.int .i64) .unit)))) .unit) (unpR (.pair (.pair (.pair (.int .i64) (.pair (.int .i64) (.pair (.int .i64) (.pair (.int .i64) .unit)))) (.pair (.int .i64) (.pair (.sl (.int .i64)) (.pair (.pair .bool (.pair (.sl (.int .i64)) .unit)) (.pair (.sl (.int .i64)) (.pair (.pair .bool (.pair (.sl (.int .i64)) .unit)) .unit)))))) (.pair (.int .i64) .unit))) (fun x => channel_New x.1)
def tt_channel_New : List (Nat × Ty) := [(3, .int .i64), (23, .pair (.int .i64) (.pair (.int .i64) (.pair (.int .i64) (.pair (.int .i64) .unit)))), (31, .pair .bool (.pair (.sl (.int .i64)) .unit)), (33, .pair (.pair (.int .i64) (.pair (.int .i64) (.pair (.int .i64) (.pair (.int .i64) .unit)))) (.pair (.int .i64) (.pair (.sl (.int .i64)) (.pair (.pair .bool (.pair (.sl (.int .i64)) .unit)) (.pair (.sl (.int .i64)) (.pair (.pair .bool (.pair (.sl (.int .i64)) .unit)) .unit)))))), (35, .int .i64)]
def et_channel_New : List (Nat × Nat) := []
theorem tt_channel_New_ok : subT tt tt_channel_New = true := by kernel_rfl
theorem et_channel_New_ok : subE et et_channel_New = true := by kernel_rfl
noncomputable def E_channel_New (fns : List (Nat × (List AV → Option AV))) : Env := ⟨0, 0, et_channel_New, tt_channel_New, fns, [], [(4, (.one 0 (.one 1 (.one 4 (.one 2 (.one 3 (.one 5 (.one 6 (.one 7 (.one 100008 (.one 9 .nil)))))))))))], [(0, [1, 2]), (1, [1, 2, 4]), (2, [1, 2, 4, 8]), (3, [2, 3]), (4, [2, 3]), (4000000, [1, 2]), (4000001, [1, 2]), (4000002, [1, 2]), (4000003, [2]), (4000004, [2])], none, []⟩
set_option maxRecDepth 100000 in
set_option maxHeartbeats 40000000 in
theorem c_channel_New : PCon Go.Proofs.Try.prog 22 lf_channel_New := by
  obtain ⟨G26, hG26, cG26⟩ : ∃ G : ((.pair (.pair (.int .i64) (.pair (.int .i64) (.pair (.int .i64) (.pair (.int .i64) .unit)))) .unit) : Ty).den → Option Int, (∀ x, G x = channel_Check x.1) ∧ PCon Go.Proofs.Try.prog 26 (liftF (.pair (.pair (.int .i64) (.pair (.int .i64) (.pair (.int .i64) (.pair (.int .i64) .unit)))) .unit) (unpack (.int .i64)) G) := ⟨_, fun _ => rfl, c_channel_Check⟩
  obtain ⟨G65, hG65, cG65⟩ : ∃ G : ((.pair (.pair (.int .i64) (.pair (.int .i64) (.pair (.int .i64) (.pair (.int .i64) .unit)))) (.pair (.int .i64) .unit)) : Ty).den → Option Bool, (∀ x, G x = channel_shares x.1 x.2.1) ∧ PCon Go.Proofs.Try.prog 65 (liftF (.pair (.pair (.int .i64) (.pair (.int .i64) (.pair (.int .i64) (.pair (.int .i64) .unit)))) (.pair (.int .i64) .unit)) (unpack .bool) G) := ⟨_, fun _ => rfl, c_channel_shares⟩
  obtain ⟨fns, hfns, hf⟩ : ∃ fns, fns = [(26, liftF (.pair (.pair (.int .i64) (.pair (.int .i64) (.pair (.int .i64) (.pair (.int .i64) .unit)))) .unit) (unpack (.int .i64)) G26), (65, liftF (.pair (.pair (.int .i64) (.pair (.int .i64) (.pair (.int .i64) (.pair (.int .i64) .unit)))) (.pair (.int .i64) .unit)) (unpack .bool) G65)] ∧ FnsOk Go.Proofs.Try.prog fns := ⟨_, rfl, FnsOk.cons cG26 (FnsOk.cons cG65 (FnsOk.nil _))⟩
  refine lift_con (E := E_channel_New fns) (c := bodyOf Try.f22) (nt := 19) (rs := [.cell 2 33, .tmp 3]) (ts := [33, 35]) (EnvC.sub tt_ok et_ok hf (PrsOk.nil _) (ItsOk.nil _) tt_channel_New_ok et_channel_New_ok) (PrOk.of mixed_ok) Go.Proofs.Try.func22 rfl (by decide) rfl rfl rfl (pureR_many (e := (.pair (.pair (.pair (.int .i64) (.pair (.int .i64) (.pair (.int .i64) (.pair (.int .i64) .unit)))) (.pair (.int .i64) (.pair (.sl (.int .i64)) (.pair (.pair .bool (.pair (.sl (.int .i64)) .unit)) (.pair (.sl (.int .i64)) (.pair (.pair .bool (.pair (.sl (.int .i64)) .unit)) .unit)))))) (.pair (.int .i64) .unit))) rfl) ?_
  subst hfns
  intro x r hw hs
  repeat'
    (try (conv => whnf)
     first
       | (have hs := letv_out hs)
       | (refine draw_and (by kernel_rfl) ?_)
       | (refine both_mk ?_ ?_)
       | (refine br_bool (fun h => ?_) (fun h => ?_) <;> first | have hs := cT h hs | have hs := cF h hs)
       | (refine bind_elim hs fun v hb hs => ?_; first | refine callK_liftG hG26 rfl hb ?_ | refine callK_liftG hG65 rfl hb ?_)
       | refine chk_elim hs fun hs => ?_
       | exact fin_some hs rfl
       | (intro b hb; first | have hs := nilq_elim hs b hb | have hs := nilqn_elim hs b hb)
       | (have hs := cT rfl hs)
       | (have hs := cF rfl hs)
       | exact (none_ne hs).elim)
noncomputable def lf_channel_words_1 : List AV → Option AV := liftF (.pair (.int .i64) .unit) (unpack .bool) (fun x => channel_words_1 x.1)
def tt_channel_words_1 : List (Nat × Ty) := [(3, .int .i64), (4, .bool)]
def et_channel_words_1 : List (Nat × Nat) := []
theorem tt_channel_words_1_ok : subT tt tt_channel_words_1 = true := by kernel_rfl
theorem et_channel_words_1_ok : subE et et_channel_words_1 = true := by kernel_rfl
noncomputable def E_channel_words_1 (fns : List (Nat × (List AV → Option AV))) : Env := ⟨0, 0, et_channel_words_1, tt_channel_words_1, fns, [], [], [(0, [0]), (1, [2]), (4000000, []), (4000001, [])], none, []⟩
set_option maxRecDepth 100000 in
set_option maxHeartbeats 40000000 in
theorem c_channel_words_1 : PCon Go.Proofs.Try.prog 89 lf_channel_words_1 := by
  obtain ⟨G53, hG53, cG53⟩ : ∃ G : ((.pair (.int .i64) .unit) : Ty).den → Option Bool, (∀ x, G x = word_Fine x.1) ∧ PCon Go.Proofs.Try.prog 53 (liftF (.pair (.int .i64) .unit) (unpack .bool) G) := ⟨_, fun _ => rfl, c_word_Fine⟩
  obtain ⟨fns, hfns, hf⟩ : ∃ fns, fns = [(53, liftF (.pair (.int .i64) .unit) (unpack .bool) G53)] ∧ FnsOk Go.Proofs.Try.prog fns := ⟨_, rfl, FnsOk.cons cG53 (FnsOk.nil _)⟩
  refine lift_con (E := E_channel_words_1 fns) (c := bodyOf Try.f89) (nt := 6) (rs := [.tmp 2]) (ts := [4]) (EnvC.sub tt_ok et_ok hf (PrsOk.nil _) (ItsOk.nil _) tt_channel_words_1_ok et_channel_words_1_ok) (PrOk.of mixed_ok) Go.Proofs.Try.func89 rfl (by decide) rfl rfl rfl (pureR_one (e := .bool) rfl) ?_
  subst hfns
  intro x r hw hs
  repeat'
    (try (conv => whnf)
     first
       | (have hs := letv_out hs)
       | (refine draw_and (by kernel_rfl) ?_)
       | (refine both_mk ?_ ?_)
       | (refine br_bool (fun h => ?_) (fun h => ?_) <;> first | have hs := cT h hs | have hs := cF h hs)
       | (refine bind_elim hs fun v hb hs => ?_; first | refine callK_liftG hG53 rfl hb ?_)
       | refine chk_elim hs fun hs => ?_
       | exact fin_some hs rfl
       | (intro b hb; first | have hs := nilq_elim hs b hb | have hs := nilqn_elim hs b hb)
       | (have hs := cT rfl hs)
       | (have hs := cF rfl hs)
       | exact (none_ne hs).elim)
noncomputable def lf_channel_words : List AV → Option AV := liftF (.pair (.sl (.int .i64)) .unit) (unpack .bool) (fun x => channel_words x.1)
def tt_channel_words : List (Nat × Ty) := [(3, .int .i64), (4, .bool), (24, .sl (.int .i64)), (108, .opq 1)]
def et_channel_words : List (Nat × Nat) := [(24, 3)]
theorem tt_channel_words_ok : subT tt tt_channel_words = true := by kernel_rfl
theorem et_channel_words_ok : subE et et_channel_words = true := by kernel_rfl
noncomputable def pr_channel_words_93 (fns : List (Nat × (List AV → Option AV))) : List (Nat × Proc) := (93, procOf ⟨0, 0, et_channel_words, tt_channel_words, fns, [], [], [(0, [0, 1]), (1, [0, 1, 7, 8]), (2, [0, 1, 7, 8, 9]), (3, [0, 1, 5, 7, 8]), (4, [0, 1, 5, 7, 8, 16]), (5, [4]), (6, [0, 1, 7, 8]), (7, [4])], none, []⟩ 19 [.tmp 4] (bodyOf Try.f93)) :: []
theorem pr_channel_words_93_ok {fns : List (Nat × (List AV → Option AV))} (hf : FnsOk Go.Proofs.Try.prog fns) : PrsOk Go.Proofs.Try.prog (pr_channel_words_93 fns) :=
  PrsOk.cons (proc_con (EnvC.sub (yl := none) tt_ok et_ok hf (PrsOk.nil _) (ItsOk.nil _) tt_channel_words_ok et_channel_words_ok) (PrOk.of mixed_ok) Go.Proofs.Try.func93 rfl (by decide) rfl rfl) (PrsOk.nil _)
noncomputable def pr_channel_words_88 (fns : List (Nat × (List AV → Option AV))) : List (Nat × Proc) := (88, procOf ⟨0, 0, et_channel_words, tt_channel_words, fns, (pr_channel_words_93 fns), [], [(0, [0, 1]), (1, [4])], none, []⟩ 9 [.tmp 4] (bodyOf Try.f88)) :: (pr_channel_words_93 fns)
theorem pr_channel_words_88_ok {fns : List (Nat × (List AV → Option AV))} (hf : FnsOk Go.Proofs.Try.prog fns) : PrsOk Go.Proofs.Try.prog (pr_channel_words_88 fns) :=
  PrsOk.cons (proc_con (EnvC.sub (yl := none) tt_ok et_ok hf (pr_channel_words_93_ok hf) (ItsOk.nil _) tt_channel_words_ok et_channel_words_ok) (PrOk.of mixed_ok) Go.Proofs.Try.func88 rfl (by decide) rfl rfl) (pr_channel_words_93_ok hf)
def channel_words_S1 (u0 : AV) (u1 : AV) (u2 : AV) (x1 : Int) : St :=
  ⟨[(0, u0), (1, u1), (7, u2), (8, .int .i64 x1)], [], (some ([], 0))⟩
def channel_words_M1 : Msk := ⟨[0, 1, 7, 8], [], [], [], [], [], [], [], []⟩
noncomputable def E_channel_words (fns : List (Nat × (List AV → Option AV))) : Env := ⟨0, 0, et_channel_words, tt_channel_words, fns, (pr_channel_words_88 fns), [], [(0, [0]), (1, [2]), (4000000, []), (4000001, [])], none, []⟩
set_option maxRecDepth 100000 in
set_option maxHeartbeats 40000000 in
theorem c_channel_words : PCon Go.Proofs.Try.prog 67 lf_channel_words := by
  obtain ⟨G89, hG89, cG89⟩ : ∃ G : ((.pair (.int .i64) .unit) : Ty).den → Option Bool, (∀ x, G x = channel_words_1 x.1) ∧ PCon Go.Proofs.Try.prog 89 (liftF (.pair (.int .i64) .unit) (unpack .bool) G) := ⟨_, fun _ => rfl, c_channel_words_1⟩
  obtain ⟨fns, hfns, hf⟩ : ∃ fns, fns = [(89, liftF (.pair (.int .i64) .unit) (unpack .bool) G89)] ∧ FnsOk Go.Proofs.Try.prog fns := ⟨_, rfl, FnsOk.cons cG89 (FnsOk.nil _)⟩
  refine lift_con (E := E_channel_words fns) (c := bodyOf Try.f67) (nt := 6) (rs := [.tmp 2]) (ts := [4]) (EnvC.sub tt_ok et_ok hf (pr_channel_words_88_ok hf) (ItsOk.nil _) tt_channel_words_ok et_channel_words_ok) (PrOk.of mixed_ok) Go.Proofs.Try.func67 rfl (by decide) rfl rfl rfl (pureR_one (e := .bool) rfl) ?_
  subst hfns
  intro x r hw hs
  repeat'
    (try (conv => whnf)
     first
       | (have hs := letv_out hs)
       | (refine draw_and (by kernel_rfl) ?_)
       | (refine both_mk ?_ ?_)
       | (refine br_bool (fun h => ?_) (fun h => ?_) <;> first | have hs := cT h hs | have hs := cF h hs)
       | (refine bind_elim hs fun v hb hs => ?_; first | refine callK_liftG hG89 rfl hb ?_)
       | refine chk_elim hs fun hs => ?_
       | exact fin_some hs rfl
       | (intro b hb; first | have hs := nilq_elim hs b hb | have hs := nilqn_elim hs b hb)
       | exact hJ1 _ hs
       | (have hs := cT rfl hs)
       | (have hs := cF rfl hs)
       | (refine vc_loop (channel_words_S1 _ _ _) channel_words_M1 hs rfl ?_; intro J1 k1 x1 hJ1 hs)
       | exact (none_ne hs).elim)
noncomputable def lf_channel_Fine : List AV → Option AV := liftF (.pair (.pair (.pair (.int .i64) (.pair (.int .i64) (.pair (.int .i64) (.pair (.int .i64) .unit)))) (.pair (.int .i64) (.pair (.sl (.int .i64)) (.pair (.pair .bool (.pair (.sl (.int .i64)) .unit)) (.pair (.sl (.int .i64)) (.pair (.pair .bool (.pair (.sl (.int .i64)) .unit)) .unit)))))) .unit) (unpack .bool) (fun x => channel_Fine x.1)
def tt_channel_Fine : List (Nat × Ty) := [(3, .int .i64), (4, .bool), (23, .pair (.int .i64) (.pair (.int .i64) (.pair (.int .i64) (.pair (.int .i64) .unit)))), (24, .sl (.int .i64)), (31, .pair .bool (.pair (.sl (.int .i64)) .unit)), (33, .pair (.pair (.int .i64) (.pair (.int .i64) (.pair (.int .i64) (.pair (.int .i64) .unit)))) (.pair (.int .i64) (.pair (.sl (.int .i64)) (.pair (.pair .bool (.pair (.sl (.int .i64)) .unit)) (.pair (.sl (.int .i64)) (.pair (.pair .bool (.pair (.sl (.int .i64)) .unit)) .unit)))))), (35, .int .i64)]
def et_channel_Fine : List (Nat × Nat) := [(24, 3)]
theorem tt_channel_Fine_ok : subT tt tt_channel_Fine = true := by kernel_rfl
theorem et_channel_Fine_ok : subE et et_channel_Fine = true := by kernel_rfl
noncomputable def E_channel_Fine (fns : List (Nat × (List AV → Option AV))) : Env := ⟨0, 0, et_channel_Fine, tt_channel_Fine, fns, [], [(5, (.one 0 (.one 1 (.one 2 (.one 3 (.one 4 (.one 5 (.one 6 (.one 7 (.one 8 (.one 9 (.one 10 (.one 11 (.one 12 (.one 13 (.one 14 (.one 15 (.one 16 .nil))))))))))))))))))], [(0, [1]), (1, [1, 3]), (2, [2]), (3, [1, 14]), (4, [2]), (5, [1, 34]), (6, [2]), (7, [2]), (4000000, [1]), (4000001, [1]), (4000002, []), (4000003, [1]), (4000004, []), (4000005, [1]), (4000006, []), (4000007, [])], none, []⟩
set_option maxRecDepth 100000 in
set_option maxHeartbeats 40000000 in
theorem c_channel_Fine : PCon Go.Proofs.Try.prog 23 lf_channel_Fine := by
  obtain ⟨G26, hG26, cG26⟩ : ∃ G : ((.pair (.pair (.int .i64) (.pair (.int .i64) (.pair (.int .i64) (.pair (.int .i64) .unit)))) .unit) : Ty).den → Option Int, (∀ x, G x = channel_Check x.1) ∧ PCon Go.Proofs.Try.prog 26 (liftF (.pair (.pair (.int .i64) (.pair (.int .i64) (.pair (.int .i64) (.pair (.int .i64) .unit)))) .unit) (unpack (.int .i64)) G) := ⟨_, fun _ => rfl, c_channel_Check⟩
  obtain ⟨G65, hG65, cG65⟩ : ∃ G : ((.pair (.pair (.int .i64) (.pair (.int .i64) (.pair (.int .i64) (.pair (.int .i64) .unit)))) (.pair (.int .i64) .unit)) : Ty).den → Option Bool, (∀ x, G x = channel_shares x.1 x.2.1) ∧ PCon Go.Proofs.Try.prog 65 (liftF (.pair (.pair (.int .i64) (.pair (.int .i64) (.pair (.int .i64) (.pair (.int .i64) .unit)))) (.pair (.int .i64) .unit)) (unpack .bool) G) := ⟨_, fun _ => rfl, c_channel_shares⟩
  obtain ⟨G66, hG66, cG66⟩ : ∃ G : ((.pair (.int .i64) .unit) : Ty).den → Option Bool, (∀ x, G x = poison_Fine x.1) ∧ PCon Go.Proofs.Try.prog 66 (liftF (.pair (.int .i64) .unit) (unpack .bool) G) := ⟨_, fun _ => rfl, c_poison_Fine⟩
  obtain ⟨G67, hG67, cG67⟩ : ∃ G : ((.pair (.sl (.int .i64)) .unit) : Ty).den → Option Bool, (∀ x, G x = channel_words x.1) ∧ PCon Go.Proofs.Try.prog 67 (liftF (.pair (.sl (.int .i64)) .unit) (unpack .bool) G) := ⟨_, fun _ => rfl, c_channel_words⟩
  obtain ⟨G68, hG68, cG68⟩ : ∃ G : ((.pair (.pair .bool (.pair (.sl (.int .i64)) .unit)) .unit) : Ty).den → Option Bool, (∀ x, G x = claims_Fine x.1) ∧ PCon Go.Proofs.Try.prog 68 (liftF (.pair (.pair .bool (.pair (.sl (.int .i64)) .unit)) .unit) (unpack .bool) G) := ⟨_, fun _ => rfl, c_claims_Fine⟩
  obtain ⟨fns, hfns, hf⟩ : ∃ fns, fns = [(26, liftF (.pair (.pair (.int .i64) (.pair (.int .i64) (.pair (.int .i64) (.pair (.int .i64) .unit)))) .unit) (unpack (.int .i64)) G26), (65, liftF (.pair (.pair (.int .i64) (.pair (.int .i64) (.pair (.int .i64) (.pair (.int .i64) .unit)))) (.pair (.int .i64) .unit)) (unpack .bool) G65), (66, liftF (.pair (.int .i64) .unit) (unpack .bool) G66), (67, liftF (.pair (.sl (.int .i64)) .unit) (unpack .bool) G67), (68, liftF (.pair (.pair .bool (.pair (.sl (.int .i64)) .unit)) .unit) (unpack .bool) G68)] ∧ FnsOk Go.Proofs.Try.prog fns := ⟨_, rfl, FnsOk.cons cG26 (FnsOk.cons cG65 (FnsOk.cons cG66 (FnsOk.cons cG67 (FnsOk.cons cG68 (FnsOk.nil _)))))⟩
  refine lift_con (E := E_channel_Fine fns) (c := bodyOf Try.f23) (nt := 69) (rs := [.tmp 2]) (ts := [4]) (EnvC.sub tt_ok et_ok hf (PrsOk.nil _) (ItsOk.nil _) tt_channel_Fine_ok et_channel_Fine_ok) (PrOk.of mixed_ok) Go.Proofs.Try.func23 rfl (by decide) rfl rfl rfl (pureR_one (e := .bool) rfl) ?_
  subst hfns
  intro x r hw hs
  repeat'
    (try (conv => whnf)
     first
       | (have hs := letv_out hs)
       | (refine draw_and (by kernel_rfl) ?_)
       | (refine both_mk ?_ ?_)
       | (refine br_bool (fun h => ?_) (fun h => ?_) <;> first | have hs := cT h hs | have hs := cF h hs)
       | (refine bind_elim hs fun v hb hs => ?_; first | refine callK_liftG hG26 rfl hb ?_ | refine callK_liftG hG65 rfl hb ?_ | refine callK_liftG hG66 rfl hb ?_ | refine callK_liftG hG67 rfl hb ?_ | refine callK_liftG hG68 rfl hb ?_)
       | refine chk_elim hs fun hs => ?_
       | exact fin_some hs rfl
       | (intro b hb; first | have hs := nilq_elim hs b hb | have hs := nilqn_elim hs b hb)
       | (have hs := cT rfl hs)
       | (have hs := cF rfl hs)
       | exact (none_ne hs).elim)
noncomputable def lf_channel_may : List AV → Option AV := liftF (.pair (.pair (.pair (.int .i64) (.pair (.int .i64) (.pair (.int .i64) (.pair (.int .i64) .unit)))) (.pair (.int .i64) (.pair (.sl (.int .i64)) (.pair (.pair .bool (.pair (.sl (.int .i64)) .unit)) (.pair (.sl (.int .i64)) (.pair (.pair .bool (.pair (.sl (.int .i64)) .unit)) .unit)))))) (.pair (.int .i64) .unit)) (unpack .bool) (fun x => channel_may x.1 x.2.1)
def tt_channel_may : List (Nat × Ty) := [(3, .int .i64), (4, .bool), (23, .pair (.int .i64) (.pair (.int .i64) (.pair (.int .i64) (.pair (.int .i64) .unit)))), (24, .sl (.int .i64)), (31, .pair .bool (.pair (.sl (.int .i64)) .unit)), (33, .pair (.pair (.int .i64) (.pair (.int .i64) (.pair (.int .i64) (.pair (.int .i64) .unit)))) (.pair (.int .i64) (.pair (.sl (.int .i64)) (.pair (.pair .bool (.pair (.sl (.int .i64)) .unit)) (.pair (.sl (.int .i64)) (.pair (.pair .bool (.pair (.sl (.int .i64)) .unit)) .unit))))))]
def et_channel_may : List (Nat × Nat) := [(24, 3)]
theorem tt_channel_may_ok : subT tt tt_channel_may = true := by kernel_rfl
theorem et_channel_may_ok : subE et et_channel_may = true := by kernel_rfl
noncomputable def E_channel_may (fns : List (Nat × (List AV → Option AV))) : Env := ⟨0, 0, et_channel_may, tt_channel_may, fns, [], [], [(0, [1, 2]), (1, [1, 2, 6]), (2, [1, 2, 6, 8]), (3, [1, 2, 6, 8]), (4, [1, 2, 6, 8]), (5, [2, 6, 8, 41]), (6, [2, 6, 8, 41, 42]), (7, [4]), (8, [2, 6, 8, 41, 54]), (9, [4]), (10, [2, 8, 66]), (11, [4]), (12, [4]), (4000000, [2]), (4000001, [2]), (4000002, [2]), (4000003, [2]), (4000004, [2]), (4000005, [2]), (4000006, [2]), (4000007, []), (4000008, [2]), (4000009, []), (4000010, [2]), (4000011, []), (4000012, [])], none, []⟩
set_option maxRecDepth 100000 in
set_option maxHeartbeats 40000000 in
theorem c_channel_may : PCon Go.Proofs.Try.prog 60 lf_channel_may := by
  obtain ⟨G73, hG73, cG73⟩ : ∃ G : ((.pair (.int .i64) (.pair (.int .i64) .unit)) : Ty).den → Option Bool, (∀ x, G x = poison_Hit x.1 x.2.1) ∧ PCon Go.Proofs.Try.prog 73 (liftF (.pair (.int .i64) (.pair (.int .i64) .unit)) (unpack .bool) G) := ⟨_, fun _ => rfl, c_poison_Hit⟩
  obtain ⟨G85, hG85, cG85⟩ : ∃ G : ((.pair (.pair .bool (.pair (.sl (.int .i64)) .unit)) .unit) : Ty).den → Option (Int × Bool × Unit), (∀ x, G x = claims_Head x.1) ∧ PCon Go.Proofs.Try.prog 85 (liftF (.pair (.pair .bool (.pair (.sl (.int .i64)) .unit)) .unit) (unpR (.pair (.int .i64) (.pair .bool .unit))) G) := ⟨_, fun _ => rfl, c_claims_Head⟩
  obtain ⟨fns, hfns, hf⟩ : ∃ fns, fns = [(73, liftF (.pair (.int .i64) (.pair (.int .i64) .unit)) (unpack .bool) G73), (85, liftF (.pair (.pair .bool (.pair (.sl (.int .i64)) .unit)) .unit) (unpR (.pair (.int .i64) (.pair .bool .unit))) G85)] ∧ FnsOk Go.Proofs.Try.prog fns := ⟨_, rfl, FnsOk.cons cG73 (FnsOk.cons cG85 (FnsOk.nil _))⟩
  refine lift_con (E := E_channel_may fns) (c := bodyOf Try.f60) (nt := 75) (rs := [.tmp 4]) (ts := [4]) (EnvC.sub tt_ok et_ok hf (PrsOk.nil _) (ItsOk.nil _) tt_channel_may_ok et_channel_may_ok) (PrOk.of mixed_ok) Go.Proofs.Try.func60 rfl (by decide) rfl rfl rfl (pureR_one (e := .bool) rfl) ?_
  subst hfns
  intro x r hw hs
  repeat'
    (try (conv => whnf)
     first
       | (have hs := letv_out hs)
       | (refine draw_and (by kernel_rfl) ?_)
       | (refine both_mk ?_ ?_)
       | (refine br_bool (fun h => ?_) (fun h => ?_) <;> first | have hs := cT h hs | have hs := cF h hs)
       | (refine bind_elim hs fun v hb hs => ?_; first | refine callK_liftG hG73 rfl hb ?_ | refine callK_liftG hG85 rfl hb ?_)
       | refine chk_elim hs fun hs => ?_
       | exact fin_some hs rfl
       | (intro b hb; first | have hs := nilq_elim hs b hb | have hs := nilqn_elim hs b hb)
       | (have hs := cT rfl hs)
       | (have hs := cF rfl hs)
       | exact (none_ne hs).elim)
noncomputable def lf_channel_What : List AV → Option AV := liftF (.pair (.pair (.pair (.int .i64) (.pair (.int .i64) (.pair (.int .i64) (.pair (.int .i64) .unit)))) (.pair (.int .i64) (.pair (.sl (.int .i64)) (.pair (.pair .bool (.pair (.sl (.int .i64)) .unit)) (.pair (.sl (.int .i64)) (.pair (.pair .bool (.pair (.sl (.int .i64)) .unit)) .unit)))))) .unit) (unpack (.sl (.int .i64))) (fun x => channel_What x.1)
def tt_channel_What : List (Nat × Ty) := [(3, .int .i64), (4, .bool), (24, .sl (.int .i64)), (33, .pair (.pair (.int .i64) (.pair (.int .i64) (.pair (.int .i64) (.pair (.int .i64) .unit)))) (.pair (.int .i64) (.pair (.sl (.int .i64)) (.pair (.pair .bool (.pair (.sl (.int .i64)) .unit)) (.pair (.sl (.int .i64)) (.pair (.pair .bool (.pair (.sl (.int .i64)) .unit)) .unit))))))]
def et_channel_What : List (Nat × Nat) := [(24, 3)]
theorem tt_channel_What_ok : subT tt tt_channel_What = true := by kernel_rfl
theorem et_channel_What_ok : subE et et_channel_What = true := by kernel_rfl
def channel_What_S1 (u0 : AV) (u1 : AV) (B3 : Blk) (x1 : Int × List Int) : St :=
  ⟨[(1, u0), (3, u1), (4, .int .i64 x1.1)], [(1, B3), (18, .row 3 (.int .i64) x1.2 false)], none⟩
def channel_What_M1 : Msk := ⟨[1, 3, 4], [1, 18], [(3, 18, 24)], [], [], [], [], [], []⟩
noncomputable def E_channel_What (fns : List (Nat × (List AV → Option AV))) : Env := ⟨0, 0, et_channel_What, tt_channel_What, fns, [], [], [(0, [1]), (1, [1, 7]), (2, [2]), (3, [1, 3]), (4, [1, 3, 4]), (5, [1, 3, 4, 9]), (6, [1, 3, 4]), (7, [1, 3, 4, 14]), (8, [1, 3, 4]), (9, [2]), (4000000, [1]), (4000001, [1]), (4000002, []), (4000003, [1]), (4000004, [1]), (4000005, [1, 18]), (4000006, [1, 18]), (4000007, [1, 18]), (4000008, [1, 18]), (4000009, [18])], none, []⟩
set_option maxRecDepth 100000 in
set_option maxHeartbeats 40000000 in
theorem c_channel_What : PCon Go.Proofs.Try.prog 31 lf_channel_What := by
  obtain ⟨G23, hG23, cG23⟩ : ∃ G : ((.pair (.pair (.pair (.int .i64) (.pair (.int .i64) (.pair (.int .i64) (.pair (.int .i64) .unit)))) (.pair (.int .i64) (.pair (.sl (.int .i64)) (.pair (.pair .bool (.pair (.sl (.int .i64)) .unit)) (.pair (.sl (.int .i64)) (.pair (.pair .bool (.pair (.sl (.int .i64)) .unit)) .unit)))))) .unit) : Ty).den → Option Bool, (∀ x, G x = channel_Fine x.1) ∧ PCon Go.Proofs.Try.prog 23 (liftF (.pair (.pair (.pair (.int .i64) (.pair (.int .i64) (.pair (.int .i64) (.pair (.int .i64) .unit)))) (.pair (.int .i64) (.pair (.sl (.int .i64)) (.pair (.pair .bool (.pair (.sl (.int .i64)) .unit)) (.pair (.sl (.int .i64)) (.pair (.pair .bool (.pair (.sl (.int .i64)) .unit)) .unit)))))) .unit) (unpack .bool) G) := ⟨_, fun _ => rfl, c_channel_Fine⟩
  obtain ⟨G60, hG60, cG60⟩ : ∃ G : ((.pair (.pair (.pair (.int .i64) (.pair (.int .i64) (.pair (.int .i64) (.pair (.int .i64) .unit)))) (.pair (.int .i64) (.pair (.sl (.int .i64)) (.pair (.pair .bool (.pair (.sl (.int .i64)) .unit)) (.pair (.sl (.int .i64)) (.pair (.pair .bool (.pair (.sl (.int .i64)) .unit)) .unit)))))) (.pair (.int .i64) .unit)) : Ty).den → Option Bool, (∀ x, G x = channel_may x.1 x.2.1) ∧ PCon Go.Proofs.Try.prog 60 (liftF (.pair (.pair (.pair (.int .i64) (.pair (.int .i64) (.pair (.int .i64) (.pair (.int .i64) .unit)))) (.pair (.int .i64) (.pair (.sl (.int .i64)) (.pair (.pair .bool (.pair (.sl (.int .i64)) .unit)) (.pair (.sl (.int .i64)) (.pair (.pair .bool (.pair (.sl (.int .i64)) .unit)) .unit)))))) (.pair (.int .i64) .unit)) (unpack .bool) G) := ⟨_, fun _ => rfl, c_channel_may⟩
  obtain ⟨fns, hfns, hf⟩ : ∃ fns, fns = [(23, liftF (.pair (.pair (.pair (.int .i64) (.pair (.int .i64) (.pair (.int .i64) (.pair (.int .i64) .unit)))) (.pair (.int .i64) (.pair (.sl (.int .i64)) (.pair (.pair .bool (.pair (.sl (.int .i64)) .unit)) (.pair (.sl (.int .i64)) (.pair (.pair .bool (.pair (.sl (.int .i64)) .unit)) .unit)))))) .unit) (unpack .bool) G23), (60, liftF (.pair (.pair (.pair (.int .i64) (.pair (.int .i64) (.pair (.int .i64) (.pair (.int .i64) .unit)))) (.pair (.int .i64) (.pair (.sl (.int .i64)) (.pair (.pair .bool (.pair (.sl (.int .i64)) .unit)) (.pair (.sl (.int .i64)) (.pair (.pair .bool (.pair (.sl (.int .i64)) .unit)) .unit)))))) (.pair (.int .i64) .unit)) (unpack .bool) G60)] ∧ FnsOk Go.Proofs.Try.prog fns := ⟨_, rfl, FnsOk.cons cG23 (FnsOk.cons cG60 (FnsOk.nil _))⟩
  refine lift_con (E := E_channel_What fns) (c := bodyOf Try.f31) (nt := 20) (rs := [.tmp 2]) (ts := [24]) (EnvC.sub tt_ok et_ok hf (PrsOk.nil _) (ItsOk.nil _) tt_channel_What_ok et_channel_What_ok) (PrOk.of mixed_ok) Go.Proofs.Try.func31 rfl (by decide) rfl rfl rfl (pureR_one (e := (.sl (.int .i64))) rfl) ?_
  subst hfns
  intro x r hw hs
  repeat'
    (try (conv => whnf)
     first
       | (have hs := letv_out hs)
       | (refine draw_and (by kernel_rfl) ?_)
       | (refine both_mk ?_ ?_)
       | (refine br_bool (fun h => ?_) (fun h => ?_) <;> first | have hs := cT h hs | have hs := cF h hs)
       | (refine bind_elim hs fun v hb hs => ?_; first | refine callK_liftG hG23 rfl hb ?_ | refine callK_liftG hG60 rfl hb ?_)
       | refine chk_elim hs fun hs => ?_
       | exact fin_some hs rfl
       | (intro b hb; first | have hs := nilq_elim hs b hb | have hs := nilqn_elim hs b hb)
       | exact hJ1 _ hs
       | (have hs := cT rfl hs)
       | (have hs := cF rfl hs)
       | (refine vc_loop (channel_What_S1 _ _ _) channel_What_M1 hs rfl ?_; intro J1 k1 x1 hJ1 hs)
       | exact (none_ne hs).elim)
noncomputable def lf_channel_Hit : List AV → Option AV := liftF (.pair (.pair (.pair (.int .i64) (.pair (.int .i64) (.pair (.int .i64) (.pair (.int .i64) .unit)))) (.pair (.int .i64) (.pair (.sl (.int .i64)) (.pair (.pair .bool (.pair (.sl (.int .i64)) .unit)) (.pair (.sl (.int .i64)) (.pair (.pair .bool (.pair (.sl (.int .i64)) .unit)) .unit)))))) (.pair (.int .i64) .unit)) (unpack .bool) (fun x => channel_Hit x.1 x.2.1)
def tt_channel_Hit : List (Nat × Ty) := [(3, .int .i64), (4, .bool), (23, .pair (.int .i64) (.pair (.int .i64) (.pair (.int .i64) (.pair (.int .i64) .unit)))), (31, .pair .bool (.pair (.sl (.int .i64)) .unit)), (33, .pair (.pair (.int .i64) (.pair (.int .i64) (.pair (.int .i64) (.pair (.int .i64) .unit)))) (.pair (.int .i64) (.pair (.sl (.int .i64)) (.pair (.pair .bool (.pair (.sl (.int .i64)) .unit)) (.pair (.sl (.int .i64)) (.pair (.pair .bool (.pair (.sl (.int .i64)) .unit)) .unit))))))]
def et_channel_Hit : List (Nat × Nat) := []
theorem tt_channel_Hit_ok : subT tt tt_channel_Hit = true := by kernel_rfl
theorem et_channel_Hit_ok : subE et et_channel_Hit = true := by kernel_rfl
noncomputable def E_channel_Hit (fns : List (Nat × (List AV → Option AV))) : Env := ⟨0, 0, et_channel_Hit, tt_channel_Hit, fns, [], [], [(0, [1, 2]), (1, [1, 2, 11]), (2, [4]), (3, [1, 2, 6]), (4, [2, 6, 8]), (5, [4]), (4000000, [2]), (4000001, [2]), (4000002, []), (4000003, [2]), (4000004, [2]), (4000005, [])], none, []⟩
set_option maxRecDepth 100000 in
set_option maxHeartbeats 40000000 in
theorem c_channel_Hit : PCon Go.Proofs.Try.prog 29 lf_channel_Hit := by
  obtain ⟨G23, hG23, cG23⟩ : ∃ G : ((.pair (.pair (.pair (.int .i64) (.pair (.int .i64) (.pair (.int .i64) (.pair (.int .i64) .unit)))) (.pair (.int .i64) (.pair (.sl (.int .i64)) (.pair (.pair .bool (.pair (.sl (.int .i64)) .unit)) (.pair (.sl (.int .i64)) (.pair (.pair .bool (.pair (.sl (.int .i64)) .unit)) .unit)))))) .unit) : Ty).den → Option Bool, (∀ x, G x = channel_Fine x.1) ∧ PCon Go.Proofs.Try.prog 23 (liftF (.pair (.pair (.pair (.int .i64) (.pair (.int .i64) (.pair (.int .i64) (.pair (.int .i64) .unit)))) (.pair (.int .i64) (.pair (.sl (.int .i64)) (.pair (.pair .bool (.pair (.sl (.int .i64)) .unit)) (.pair (.sl (.int .i64)) (.pair (.pair .bool (.pair (.sl (.int .i64)) .unit)) .unit)))))) .unit) (unpack .bool) G) := ⟨_, fun _ => rfl, c_channel_Fine⟩
  obtain ⟨G72, hG72, cG72⟩ : ∃ G : ((.pair (.pair .bool (.pair (.sl (.int .i64)) .unit)) (.pair (.int .i64) .unit)) : Ty).den → Option (Int × Bool × Unit), (∀ x, G x = claims_Ahead x.1 x.2.1) ∧ PCon Go.Proofs.Try.prog 72 (liftF (.pair (.pair .bool (.pair (.sl (.int .i64)) .unit)) (.pair (.int .i64) .unit)) (unpR (.pair (.int .i64) (.pair .bool .unit))) G) := ⟨_, fun _ => rfl, c_claims_Ahead⟩
  obtain ⟨G73, hG73, cG73⟩ : ∃ G : ((.pair (.int .i64) (.pair (.int .i64) .unit)) : Ty).den → Option Bool, (∀ x, G x = poison_Hit x.1 x.2.1) ∧ PCon Go.Proofs.Try.prog 73 (liftF (.pair (.int .i64) (.pair (.int .i64) .unit)) (unpack .bool) G) := ⟨_, fun _ => rfl, c_poison_Hit⟩
  obtain ⟨fns, hfns, hf⟩ : ∃ fns, fns = [(23, liftF (.pair (.pair (.pair (.int .i64) (.pair (.int .i64) (.pair (.int .i64) (.pair (.int .i64) .unit)))) (.pair (.int .i64) (.pair (.sl (.int .i64)) (.pair (.pair .bool (.pair (.sl (.int .i64)) .unit)) (.pair (.sl (.int .i64)) (.pair (.pair .bool (.pair (.sl (.int .i64)) .unit)) .unit)))))) .unit) (unpack .bool) G23), (72, liftF (.pair (.pair .bool (.pair (.sl (.int .i64)) .unit)) (.pair (.int .i64) .unit)) (unpR (.pair (.int .i64) (.pair .bool .unit))) G72), (73, liftF (.pair (.int .i64) (.pair (.int .i64) .unit)) (unpack .bool) G73)] ∧ FnsOk Go.Proofs.Try.prog fns := ⟨_, rfl, FnsOk.cons cG23 (FnsOk.cons cG72 (FnsOk.cons cG73 (FnsOk.nil _)))⟩
  refine lift_con (E := E_channel_Hit fns) (c := bodyOf Try.f29) (nt := 46) (rs := [.tmp 4]) (ts := [4]) (EnvC.sub tt_ok et_ok hf (PrsOk.nil _) (ItsOk.nil _) tt_channel_Hit_ok et_channel_Hit_ok) (PrOk.of mixed_ok) Go.Proofs.Try.func29 rfl (by decide) rfl rfl rfl (pureR_one (e := .bool) rfl) ?_
  subst hfns
  intro x r hw hs
  repeat'
    (try (conv => whnf)
     first
       | (have hs := letv_out hs)
       | (refine draw_and (by kernel_rfl) ?_)
       | (refine both_mk ?_ ?_)
       | (refine br_bool (fun h => ?_) (fun h => ?_) <;> first | have hs := cT h hs | have hs := cF h hs)
       | (refine bind_elim hs fun v hb hs => ?_; first | refine callK_liftG hG23 rfl hb ?_ | refine callK_liftG hG72 rfl hb ?_ | refine callK_liftG hG73 rfl hb ?_)
       | refine chk_elim hs fun hs => ?_
       | exact fin_some hs rfl
       | (intro b hb; first | have hs := nilq_elim hs b hb | have hs := nilqn_elim hs b hb)
       | (have hs := cT rfl hs)
       | (have hs := cF rfl hs)
       | exact (none_ne hs).elim)
noncomputable def lf_channel_behind : List AV → Option AV := liftF (.pair (.sl (.int .i64)) (.pair (.int .i64) .unit)) (unpack (.sl (.int .i64))) (fun x => channel_behind x.1 x.2.1)
def tt_channel_behind : List (Nat × Ty) := [(3, .int .i64), (24, .sl (.int .i64))]
def et_channel_behind : List (Nat × Nat) := [(24, 3)]
theorem tt_channel_behind_ok : subT tt tt_channel_behind = true := by kernel_rfl
theorem et_channel_behind_ok : subE et et_channel_behind = true := by kernel_rfl
noncomputable def E_channel_behind (fns : List (Nat × (List AV → Option AV))) : Env := ⟨0, 0, et_channel_behind, tt_channel_behind, fns, [], [], [(0, [0, 1]), (1, [0, 1, 5]), (2, [0, 1, 5]), (3, [5]), (4, [4]), (4000000, []), (4000001, [9]), (4000002, [9]), (4000003, [9]), (4000004, [9])], none, []⟩
set_option maxRecDepth 100000 in
set_option maxHeartbeats 40000000 in
theorem c_channel_behind : PCon Go.Proofs.Try.prog 55 lf_channel_behind := by
  obtain ⟨fns, hfns, hf⟩ : ∃ fns, fns = [] ∧ FnsOk Go.Proofs.Try.prog fns := ⟨_, rfl, FnsOk.nil _⟩
  refine lift_con (E := E_channel_behind fns) (c := bodyOf Try.f55) (nt := 19) (rs := [.tmp 4]) (ts := [24]) (EnvC.sub tt_ok et_ok hf (PrsOk.nil _) (ItsOk.nil _) tt_channel_behind_ok et_channel_behind_ok) (PrOk.of mixed_ok) Go.Proofs.Try.func55 rfl (by decide) rfl rfl rfl (pureR_one (e := (.sl (.int .i64))) rfl) ?_
  subst hfns
  intro x r hw hs
  repeat'
    (try (conv => whnf)
     first
       | (have hs := letv_out hs)
       | (refine draw_and (by kernel_rfl) ?_)
       | (refine both_mk ?_ ?_)
       | (refine br_bool (fun h => ?_) (fun h => ?_) <;> first | have hs := cT h hs | have hs := cF h hs)
       | refine chk_elim hs fun hs => ?_
       | exact fin_some hs rfl
       | (intro b hb; first | have hs := nilq_elim hs b hb | have hs := nilqn_elim hs b hb)
       | (have hs := cT rfl hs)
       | (have hs := cF rfl hs)
       | exact (none_ne hs).elim)
noncomputable def lf_channel_Send : List AV → Option AV := liftF (.pair (.pair (.pair (.int .i64) (.pair (.int .i64) (.pair (.int .i64) (.pair (.int .i64) .unit)))) (.pair (.int .i64) (.pair (.sl (.int .i64)) (.pair (.pair .bool (.pair (.sl (.int .i64)) .unit)) (.pair (.sl (.int .i64)) (.pair (.pair .bool (.pair (.sl (.int .i64)) .unit)) .unit)))))) (.pair (.int .i64) (.pair (.int .i64) .unit))) (unpR (.pair (.pair (.pair (.int .i64) (.pair (.int .i64) (.pair (.int .i64) (.pair (.int .i64) .unit)))) (.pair (.int .i64) (.pair (.sl (.int .i64)) (.pair (.pair .bool (.pair (.sl (.int .i64)) .unit)) (.pair (.sl (.int .i64)) (.pair (.pair .bool (.pair (.sl (.int .i64)) .unit)) .unit)))))) (.pair (.int .i64) .unit))) (fun x => channel_Send x.1 x.2.1 x.2.2.1)
def tt_channel_Send : List (Nat × Ty) := [(3, .int .i64), (4, .bool), (24, .sl (.int .i64)), (31, .pair .bool (.pair (.sl (.int .i64)) .unit)), (33, .pair (.pair (.int .i64) (.pair (.int .i64) (.pair (.int .i64) (.pair (.int .i64) .unit)))) (.pair (.int .i64) (.pair (.sl (.int .i64)) (.pair (.pair .bool (.pair (.sl (.int .i64)) .unit)) (.pair (.sl (.int .i64)) (.pair (.pair .bool (.pair (.sl (.int .i64)) .unit)) .unit)))))), (35, .int .i64)]
def et_channel_Send : List (Nat × Nat) := [(24, 3)]
theorem tt_channel_Send_ok : subT tt tt_channel_Send = true := by kernel_rfl
theorem et_channel_Send_ok : subE et et_channel_Send = true := by kernel_rfl
noncomputable def E_channel_Send (fns : List (Nat × (List AV → Option AV))) : Env := ⟨0, 0, et_channel_Send, tt_channel_Send, fns, [], [(7, (.one 0 (.one 1 (.one 2 (.one 3 (.one 5 (.one 4 (.one 100006 (.one 7 (.one 100008 .nil))))))))))], [(0, [1, 2, 3, 6]), (1, [1, 2, 3, 6, 10]), (2, [6, 7]), (3, [1, 2, 3, 6, 15]), (4, [6, 7]), (5, [2, 3, 6, 8, 9]), (6, [2, 3, 6, 8, 9, 28]), (7, [3, 6, 9]), (8, [6, 7]), (4000000, [3, 6]), (4000001, [3, 6]), (4000002, [6]), (4000003, [3, 6]), (4000004, [6]), (4000005, [3, 6, 8]), (4000006, [3, 6, 8]), (4000007, [3, 6]), (4000008, [6])], none, []⟩
set_option maxRecDepth 100000 in
set_option maxHeartbeats 40000000 in
theorem c_channel_Send : PCon Go.Proofs.Try.prog 12 lf_channel_Send := by
  obtain ⟨G23, hG23, cG23⟩ : ∃ G : ((.pair (.pair (.pair (.int .i64) (.pair (.int .i64) (.pair (.int .i64) (.pair (.int .i64) .unit)))) (.pair (.int .i64) (.pair (.sl (.int .i64)) (.pair (.pair .bool (.pair (.sl (.int .i64)) .unit)) (.pair (.sl (.int .i64)) (.pair (.pair .bool (.pair (.sl (.int .i64)) .unit)) .unit)))))) .unit) : Ty).den → Option Bool, (∀ x, G x = channel_Fine x.1) ∧ PCon Go.Proofs.Try.prog 23 (liftF (.pair (.pair (.pair (.int .i64) (.pair (.int .i64) (.pair (.int .i64) (.pair (.int .i64) .unit)))) (.pair (.int .i64) (.pair (.sl (.int .i64)) (.pair (.pair .bool (.pair (.sl (.int .i64)) .unit)) (.pair (.sl (.int .i64)) (.pair (.pair .bool (.pair (.sl (.int .i64)) .unit)) .unit)))))) .unit) (unpack .bool) G) := ⟨_, fun _ => rfl, c_channel_Fine⟩
  obtain ⟨G53, hG53, cG53⟩ : ∃ G : ((.pair (.int .i64) .unit) : Ty).den → Option Bool, (∀ x, G x = word_Fine x.1) ∧ PCon Go.Proofs.Try.prog 53 (liftF (.pair (.int .i64) .unit) (unpack .bool) G) := ⟨_, fun _ => rfl, c_word_Fine⟩
  obtain ⟨G54, hG54, cG54⟩ : ∃ G : ((.pair (.pair .bool (.pair (.sl (.int .i64)) .unit)) (.pair (.int .i64) .unit)) : Ty).den → Option ((Bool × (List Int) × Unit) × Int × Unit), (∀ x, G x = claims_Join x.1 x.2.1) ∧ PCon Go.Proofs.Try.prog 54 (liftF (.pair (.pair .bool (.pair (.sl (.int .i64)) .unit)) (.pair (.int .i64) .unit)) (unpR (.pair (.pair .bool (.pair (.sl (.int .i64)) .unit)) (.pair (.int .i64) .unit))) G) := ⟨_, fun _ => rfl, c_claims_Join⟩
  obtain ⟨G55, hG55, cG55⟩ : ∃ G : ((.pair (.sl (.int .i64)) (.pair (.int .i64) .unit)) : Ty).den → Option (List Int), (∀ x, G x = channel_behind x.1 x.2.1) ∧ PCon Go.Proofs.Try.prog 55 (liftF (.pair (.sl (.int .i64)) (.pair (.int .i64) .unit)) (unpack (.sl (.int .i64))) G) := ⟨_, fun _ => rfl, c_channel_behind⟩
  obtain ⟨fns, hfns, hf⟩ : ∃ fns, fns = [(23, liftF (.pair (.pair (.pair (.int .i64) (.pair (.int .i64) (.pair (.int .i64) (.pair (.int .i64) .unit)))) (.pair (.int .i64) (.pair (.sl (.int .i64)) (.pair (.pair .bool (.pair (.sl (.int .i64)) .unit)) (.pair (.sl (.int .i64)) (.pair (.pair .bool (.pair (.sl (.int .i64)) .unit)) .unit)))))) .unit) (unpack .bool) G23), (53, liftF (.pair (.int .i64) .unit) (unpack .bool) G53), (54, liftF (.pair (.pair .bool (.pair (.sl (.int .i64)) .unit)) (.pair (.int .i64) .unit)) (unpR (.pair (.pair .bool (.pair (.sl (.int .i64)) .unit)) (.pair (.int .i64) .unit))) G54), (55, liftF (.pair (.sl (.int .i64)) (.pair (.int .i64) .unit)) (unpack (.sl (.int .i64))) G55)] ∧ FnsOk Go.Proofs.Try.prog fns := ⟨_, rfl, FnsOk.cons cG23 (FnsOk.cons cG53 (FnsOk.cons cG54 (FnsOk.cons cG55 (FnsOk.nil _))))⟩
  refine lift_con (E := E_channel_Send fns) (c := bodyOf Try.f12) (nt := 38) (rs := [.cell 6 33, .tmp 7]) (ts := [33, 35]) (EnvC.sub tt_ok et_ok hf (PrsOk.nil _) (ItsOk.nil _) tt_channel_Send_ok et_channel_Send_ok) (PrOk.of mixed_ok) Go.Proofs.Try.func12 rfl (by decide) rfl rfl rfl (pureR_many (e := (.pair (.pair (.pair (.int .i64) (.pair (.int .i64) (.pair (.int .i64) (.pair (.int .i64) .unit)))) (.pair (.int .i64) (.pair (.sl (.int .i64)) (.pair (.pair .bool (.pair (.sl (.int .i64)) .unit)) (.pair (.sl (.int .i64)) (.pair (.pair .bool (.pair (.sl (.int .i64)) .unit)) .unit)))))) (.pair (.int .i64) .unit))) rfl) ?_
  subst hfns
  intro x r hw hs
  repeat'
    (try (conv => whnf)
     first
       | (have hs := letv_out hs)
       | (refine draw_and (by kernel_rfl) ?_)
       | (refine both_mk ?_ ?_)
       | (refine br_bool (fun h => ?_) (fun h => ?_) <;> first | have hs := cT h hs | have hs := cF h hs)
       | (refine bind_elim hs fun v hb hs => ?_; first | refine callK_liftG hG23 rfl hb ?_ | refine callK_liftG hG53 rfl hb ?_ | refine callK_liftG hG54 rfl hb ?_ | refine callK_liftG hG55 rfl hb ?_)
       | refine chk_elim hs fun hs => ?_
       | exact fin_some hs rfl
       | (intro b hb; first | have hs := nilq_elim hs b hb | have hs := nilqn_elim hs b hb)
       | (have hs := cT rfl hs)
       | (have hs := cF rfl hs)
       | exact (none_ne hs).elim)
noncomputable def lf_channel_Recv : List AV → Option AV := liftF (.pair (.pair (.pair (.int .i64) (.pair (.int .i64) (.pair (.int .i64) (.pair (.int .i64) .unit)))) (.pair (.int .i64) (.pair (.sl (.int .i64)) (.pair (.pair .bool (.pair (.sl (.int .i64)) .unit)) (.pair (.sl (.int .i64)) (.pair (.pair .bool (.pair (.sl (.int .i64)) .unit)) .unit)))))) (.pair (.int .i64) .unit)) (unpR (.pair (.pair (.pair (.int .i64) (.pair (.int .i64) (.pair (.int .i64) (.pair (.int .i64) .unit)))) (.pair (.int .i64) (.pair (.sl (.int .i64)) (.pair (.pair .bool (.pair (.sl (.int .i64)) .unit)) (.pair (.sl (.int .i64)) (.pair (.pair .bool (.pair (.sl (.int .i64)) .unit)) .unit)))))) (.pair (.int .i64) .unit))) (fun x => channel_Recv x.1 x.2.1)
def tt_channel_Recv : List (Nat × Ty) := [(3, .int .i64), (4, .bool), (31, .pair .bool (.pair (.sl (.int .i64)) .unit)), (33, .pair (.pair (.int .i64) (.pair (.int .i64) (.pair (.int .i64) (.pair (.int .i64) .unit)))) (.pair (.int .i64) (.pair (.sl (.int .i64)) (.pair (.pair .bool (.pair (.sl (.int .i64)) .unit)) (.pair (.sl (.int .i64)) (.pair (.pair .bool (.pair (.sl (.int .i64)) .unit)) .unit)))))), (35, .int .i64)]
def et_channel_Recv : List (Nat × Nat) := []
theorem tt_channel_Recv_ok : subT tt tt_channel_Recv = true := by kernel_rfl
theorem et_channel_Recv_ok : subE et et_channel_Recv = true := by kernel_rfl
noncomputable def E_channel_Recv (fns : List (Nat × (List AV → Option AV))) : Env := ⟨0, 0, et_channel_Recv, tt_channel_Recv, fns, [], [], [(0, [1, 2, 4]), (1, [1, 2, 4, 10]), (2, [4, 5]), (3, [2, 4, 6, 7]), (4, [2, 4, 6, 7, 20]), (5, [2, 4, 7]), (6, [4, 5]), (4000000, [2, 4]), (4000001, [2, 4]), (4000002, [4]), (4000003, [2, 4, 6]), (4000004, [2, 4, 6]), (4000005, [2, 4]), (4000006, [4])], none, []⟩
set_option maxRecDepth 100000 in
set_option maxHeartbeats 40000000 in
theorem c_channel_Recv : PCon Go.Proofs.Try.prog 14 lf_channel_Recv := by
  obtain ⟨G23, hG23, cG23⟩ : ∃ G : ((.pair (.pair (.pair (.int .i64) (.pair (.int .i64) (.pair (.int .i64) (.pair (.int .i64) .unit)))) (.pair (.int .i64) (.pair (.sl (.int .i64)) (.pair (.pair .bool (.pair (.sl (.int .i64)) .unit)) (.pair (.sl (.int .i64)) (.pair (.pair .bool (.pair (.sl (.int .i64)) .unit)) .unit)))))) .unit) : Ty).den → Option Bool, (∀ x, G x = channel_Fine x.1) ∧ PCon Go.Proofs.Try.prog 23 (liftF (.pair (.pair (.pair (.int .i64) (.pair (.int .i64) (.pair (.int .i64) (.pair (.int .i64) .unit)))) (.pair (.int .i64) (.pair (.sl (.int .i64)) (.pair (.pair .bool (.pair (.sl (.int .i64)) .unit)) (.pair (.sl (.int .i64)) (.pair (.pair .bool (.pair (.sl (.int .i64)) .unit)) .unit)))))) .unit) (unpack .bool) G) := ⟨_, fun _ => rfl, c_channel_Fine⟩
  obtain ⟨G54, hG54, cG54⟩ : ∃ G : ((.pair (.pair .bool (.pair (.sl (.int .i64)) .unit)) (.pair (.int .i64) .unit)) : Ty).den → Option ((Bool × (List Int) × Unit) × Int × Unit), (∀ x, G x = claims_Join x.1 x.2.1) ∧ PCon Go.Proofs.Try.prog 54 (liftF (.pair (.pair .bool (.pair (.sl (.int .i64)) .unit)) (.pair (.int .i64) .unit)) (unpR (.pair (.pair .bool (.pair (.sl (.int .i64)) .unit)) (.pair (.int .i64) .unit))) G) := ⟨_, fun _ => rfl, c_claims_Join⟩
  obtain ⟨fns, hfns, hf⟩ : ∃ fns, fns = [(23, liftF (.pair (.pair (.pair (.int .i64) (.pair (.int .i64) (.pair (.int .i64) (.pair (.int .i64) .unit)))) (.pair (.int .i64) (.pair (.sl (.int .i64)) (.pair (.pair .bool (.pair (.sl (.int .i64)) .unit)) (.pair (.sl (.int .i64)) (.pair (.pair .bool (.pair (.sl (.int .i64)) .unit)) .unit)))))) .unit) (unpack .bool) G23), (54, liftF (.pair (.pair .bool (.pair (.sl (.int .i64)) .unit)) (.pair (.int .i64) .unit)) (unpR (.pair (.pair .bool (.pair (.sl (.int .i64)) .unit)) (.pair (.int .i64) .unit))) G54)] ∧ FnsOk Go.Proofs.Try.prog fns := ⟨_, rfl, FnsOk.cons cG23 (FnsOk.cons cG54 (FnsOk.nil _))⟩
  refine lift_con (E := E_channel_Recv fns) (c := bodyOf Try.f14) (nt := 25) (rs := [.cell 4 33, .tmp 5]) (ts := [33, 35]) (EnvC.sub tt_ok et_ok hf (PrsOk.nil _) (ItsOk.nil _) tt_channel_Recv_ok et_channel_Recv_ok) (PrOk.of mixed_ok) Go.Proofs.Try.func14 rfl (by decide) rfl rfl rfl (pureR_many (e := (.pair (.pair (.pair (.int .i64) (.pair (.int .i64) (.pair (.int .i64) (.pair (.int .i64) .unit)))) (.pair (.int .i64) (.pair (.sl (.int .i64)) (.pair (.pair .bool (.pair (.sl (.int .i64)) .unit)) (.pair (.sl (.int .i64)) (.pair (.pair .bool (.pair (.sl (.int .i64)) .unit)) .unit)))))) (.pair (.int .i64) .unit))) rfl) ?_
  subst hfns
  intro x r hw hs
  repeat'
    (try (conv => whnf)
     first
       | (have hs := letv_out hs)
       | (refine draw_and (by kernel_rfl) ?_)
       | (refine both_mk ?_ ?_)
       | (refine br_bool (fun h => ?_) (fun h => ?_) <;> first | have hs := cT h hs | have hs := cF h hs)
       | (refine bind_elim hs fun v hb hs => ?_; first | refine callK_liftG hG23 rfl hb ?_ | refine callK_liftG hG54 rfl hb ?_)
       | refine chk_elim hs fun hs => ?_
       | exact fin_some hs rfl
       | (intro b hb; first | have hs := nilq_elim hs b hb | have hs := nilqn_elim hs b hb)
       | (have hs := cT rfl hs)
       | (have hs := cF rfl hs)
       | exact (none_ne hs).elim)
noncomputable def lf_channel_without : List AV → Option AV := liftF (.pair (.sl (.int .i64)) (.pair (.int .i64) .unit)) (unpack (.sl (.int .i64))) (fun x => channel_without x.1 x.2.1)
def tt_channel_without : List (Nat × Ty) := [(3, .int .i64), (24, .sl (.int .i64))]
def et_channel_without : List (Nat × Nat) := [(24, 3)]
theorem tt_channel_without_ok : subT tt tt_channel_without = true := by kernel_rfl
theorem et_channel_without_ok : subE et et_channel_without = true := by kernel_rfl
noncomputable def pr_channel_without_87 (fns : List (Nat × (List AV → Option AV))) : List (Nat × Proc) := (87, procOf ⟨0, 0, et_channel_without, tt_channel_without, fns, [(86, delT)], [], [(0, [0]), (1, [0, 4]), (2, [2]), (3, [2])], none, []⟩ 8 [.tmp 2] (bodyOf Try.f87)) :: [(86, delT)]
theorem pr_channel_without_87_ok {fns : List (Nat × (List AV → Option AV))} (hf : FnsOk Go.Proofs.Try.prog fns) : PrsOk Go.Proofs.Try.prog (pr_channel_without_87 fns) :=
  PrsOk.cons (proc_con (EnvC.sub (yl := none) tt_ok et_ok hf (PrsOk.cons (del_con lays_del Go.Proofs.Try.func86 rfl (by decide)) (PrsOk.nil _)) (ItsOk.nil _) tt_channel_without_ok et_channel_without_ok) (PrOk.of mixed_ok) Go.Proofs.Try.func87 rfl (by decide) rfl rfl) (PrsOk.cons (del_con lays_del Go.Proofs.Try.func86 rfl (by decide)) (PrsOk.nil _))
noncomputable def E_channel_without (fns : List (Nat × (List AV → Option AV))) : Env := ⟨0, 0, et_channel_without, tt_channel_without, fns, (pr_channel_without_87 fns), [], [(0, [0, 1]), (1, [4]), (4000000, []), (4000001, [])], none, []⟩
set_option maxRecDepth 100000 in
set_option maxHeartbeats 40000000 in
theorem c_channel_without : PCon Go.Proofs.Try.prog 62 lf_channel_without := by
  obtain ⟨fns, hfns, hf⟩ : ∃ fns, fns = [] ∧ FnsOk Go.Proofs.Try.prog fns := ⟨_, rfl, FnsOk.nil _⟩
  refine lift_con (E := E_channel_without fns) (c := bodyOf Try.f62) (nt := 11) (rs := [.tmp 4]) (ts := [24]) (EnvC.sub tt_ok et_ok hf (pr_channel_without_87_ok hf) (ItsOk.nil _) tt_channel_without_ok et_channel_without_ok) (PrOk.of mixed_ok) Go.Proofs.Try.func62 rfl (by decide) rfl rfl rfl (pureR_one (e := (.sl (.int .i64))) rfl) ?_
  subst hfns
  intro x r hw hs
  repeat'
    (try (conv => whnf)
     first
       | (have hs := letv_out hs)
       | (refine draw_and (by kernel_rfl) ?_)
       | (refine both_mk ?_ ?_)
       | (refine br_bool (fun h => ?_) (fun h => ?_) <;> first | have hs := cT h hs | have hs := cF h hs)
       | refine chk_elim hs fun hs => ?_
       | exact fin_some hs rfl
       | (intro b hb; first | have hs := nilq_elim hs b hb | have hs := nilqn_elim hs b hb)
       | (have hs := cT rfl hs)
       | (have hs := cF rfl hs)
       | exact (none_ne hs).elim)
noncomputable def lf_channel_Leave : List AV → Option AV := liftF (.pair (.pair (.pair (.int .i64) (.pair (.int .i64) (.pair (.int .i64) (.pair (.int .i64) .unit)))) (.pair (.int .i64) (.pair (.sl (.int .i64)) (.pair (.pair .bool (.pair (.sl (.int .i64)) .unit)) (.pair (.sl (.int .i64)) (.pair (.pair .bool (.pair (.sl (.int .i64)) .unit)) .unit)))))) (.pair (.int .i64) .unit)) (unpack (.pair (.pair (.int .i64) (.pair (.int .i64) (.pair (.int .i64) (.pair (.int .i64) .unit)))) (.pair (.int .i64) (.pair (.sl (.int .i64)) (.pair (.pair .bool (.pair (.sl (.int .i64)) .unit)) (.pair (.sl (.int .i64)) (.pair (.pair .bool (.pair (.sl (.int .i64)) .unit)) .unit))))))) (fun x => channel_Leave x.1 x.2.1)
def tt_channel_Leave : List (Nat × Ty) := [(3, .int .i64), (4, .bool), (24, .sl (.int .i64)), (31, .pair .bool (.pair (.sl (.int .i64)) .unit)), (33, .pair (.pair (.int .i64) (.pair (.int .i64) (.pair (.int .i64) (.pair (.int .i64) .unit)))) (.pair (.int .i64) (.pair (.sl (.int .i64)) (.pair (.pair .bool (.pair (.sl (.int .i64)) .unit)) (.pair (.sl (.int .i64)) (.pair (.pair .bool (.pair (.sl (.int .i64)) .unit)) .unit))))))]
def et_channel_Leave : List (Nat × Nat) := [(24, 3)]
theorem tt_channel_Leave_ok : subT tt tt_channel_Leave = true := by kernel_rfl
theorem et_channel_Leave_ok : subE et et_channel_Leave = true := by kernel_rfl
noncomputable def E_channel_Leave (fns : List (Nat × (List AV → Option AV))) : Env := ⟨0, 0, et_channel_Leave, tt_channel_Leave, fns, [], [], [(0, [1, 2, 4]), (1, [1, 2, 4, 9]), (2, [4]), (3, [1, 2, 4, 5, 6]), (4, [1, 2, 4, 5, 18]), (5, [1, 2, 4]), (6, [1, 2, 4]), (7, [2, 4]), (8, [4]), (4000000, [2, 4]), (4000001, [2, 4]), (4000002, [4]), (4000003, [2, 4]), (4000004, [2, 4]), (4000005, [2, 4]), (4000006, [2, 4]), (4000007, [2, 4]), (4000008, [4])], none, []⟩
set_option maxRecDepth 100000 in
set_option maxHeartbeats 40000000 in
theorem c_channel_Leave : PCon Go.Proofs.Try.prog 33 lf_channel_Leave := by
  obtain ⟨G23, hG23, cG23⟩ : ∃ G : ((.pair (.pair (.pair (.int .i64) (.pair (.int .i64) (.pair (.int .i64) (.pair (.int .i64) .unit)))) (.pair (.int .i64) (.pair (.sl (.int .i64)) (.pair (.pair .bool (.pair (.sl (.int .i64)) .unit)) (.pair (.sl (.int .i64)) (.pair (.pair .bool (.pair (.sl (.int .i64)) .unit)) .unit)))))) .unit) : Ty).den → Option Bool, (∀ x, G x = channel_Fine x.1) ∧ PCon Go.Proofs.Try.prog 23 (liftF (.pair (.pair (.pair (.int .i64) (.pair (.int .i64) (.pair (.int .i64) (.pair (.int .i64) .unit)))) (.pair (.int .i64) (.pair (.sl (.int .i64)) (.pair (.pair .bool (.pair (.sl (.int .i64)) .unit)) (.pair (.sl (.int .i64)) (.pair (.pair .bool (.pair (.sl (.int .i64)) .unit)) .unit)))))) .unit) (unpack .bool) G) := ⟨_, fun _ => rfl, c_channel_Fine⟩
  obtain ⟨G62, hG62, cG62⟩ : ∃ G : ((.pair (.sl (.int .i64)) (.pair (.int .i64) .unit)) : Ty).den → Option (List Int), (∀ x, G x = channel_without x.1 x.2.1) ∧ PCon Go.Proofs.Try.prog 62 (liftF (.pair (.sl (.int .i64)) (.pair (.int .i64) .unit)) (unpack (.sl (.int .i64))) G) := ⟨_, fun _ => rfl, c_channel_without⟩
  obtain ⟨G72, hG72, cG72⟩ : ∃ G : ((.pair (.pair .bool (.pair (.sl (.int .i64)) .unit)) (.pair (.int .i64) .unit)) : Ty).den → Option (Int × Bool × Unit), (∀ x, G x = claims_Ahead x.1 x.2.1) ∧ PCon Go.Proofs.Try.prog 72 (liftF (.pair (.pair .bool (.pair (.sl (.int .i64)) .unit)) (.pair (.int .i64) .unit)) (unpR (.pair (.int .i64) (.pair .bool .unit))) G) := ⟨_, fun _ => rfl, c_claims_Ahead⟩
  obtain ⟨G76, hG76, cG76⟩ : ∃ G : ((.pair (.pair .bool (.pair (.sl (.int .i64)) .unit)) (.pair (.int .i64) .unit)) : Ty).den → Option ((Bool × (List Int) × Unit) × Bool × Unit), (∀ x, G x = claims_Leave x.1 x.2.1) ∧ PCon Go.Proofs.Try.prog 76 (liftF (.pair (.pair .bool (.pair (.sl (.int .i64)) .unit)) (.pair (.int .i64) .unit)) (unpR (.pair (.pair .bool (.pair (.sl (.int .i64)) .unit)) (.pair .bool .unit))) G) := ⟨_, fun _ => rfl, c_claims_Leave⟩
  obtain ⟨fns, hfns, hf⟩ : ∃ fns, fns = [(23, liftF (.pair (.pair (.pair (.int .i64) (.pair (.int .i64) (.pair (.int .i64) (.pair (.int .i64) .unit)))) (.pair (.int .i64) (.pair (.sl (.int .i64)) (.pair (.pair .bool (.pair (.sl (.int .i64)) .unit)) (.pair (.sl (.int .i64)) (.pair (.pair .bool (.pair (.sl (.int .i64)) .unit)) .unit)))))) .unit) (unpack .bool) G23), (62, liftF (.pair (.sl (.int .i64)) (.pair (.int .i64) .unit)) (unpack (.sl (.int .i64))) G62), (72, liftF (.pair (.pair .bool (.pair (.sl (.int .i64)) .unit)) (.pair (.int .i64) .unit)) (unpR (.pair (.int .i64) (.pair .bool .unit))) G72), (76, liftF (.pair (.pair .bool (.pair (.sl (.int .i64)) .unit)) (.pair (.int .i64) .unit)) (unpR (.pair (.pair .bool (.pair (.sl (.int .i64)) .unit)) (.pair .bool .unit))) G76)] ∧ FnsOk Go.Proofs.Try.prog fns := ⟨_, rfl, FnsOk.cons cG23 (FnsOk.cons cG62 (FnsOk.cons cG72 (FnsOk.cons cG76 (FnsOk.nil _))))⟩
  refine lift_con (E := E_channel_Leave fns) (c := bodyOf Try.f33) (nt := 41) (rs := [.cell 4 33]) (ts := [33]) (EnvC.sub tt_ok et_ok hf (PrsOk.nil _) (ItsOk.nil _) tt_channel_Leave_ok et_channel_Leave_ok) (PrOk.of mixed_ok) Go.Proofs.Try.func33 rfl (by decide) rfl rfl rfl (pureR_one (e := (.pair (.pair (.int .i64) (.pair (.int .i64) (.pair (.int .i64) (.pair (.int .i64) .unit)))) (.pair (.int .i64) (.pair (.sl (.int .i64)) (.pair (.pair .bool (.pair (.sl (.int .i64)) .unit)) (.pair (.sl (.int .i64)) (.pair (.pair .bool (.pair (.sl (.int .i64)) .unit)) .unit))))))) rfl) ?_
  subst hfns
  intro x r hw hs
  repeat'
    (try (conv => whnf)
     first
       | (have hs := letv_out hs)
       | (refine draw_and (by kernel_rfl) ?_)
       | (refine both_mk ?_ ?_)
       | (refine br_bool (fun h => ?_) (fun h => ?_) <;> first | have hs := cT h hs | have hs := cF h hs)
       | (refine bind_elim hs fun v hb hs => ?_; first | refine callK_liftG hG23 rfl hb ?_ | refine callK_liftG hG62 rfl hb ?_ | refine callK_liftG hG72 rfl hb ?_ | refine callK_liftG hG76 rfl hb ?_)
       | refine chk_elim hs fun hs => ?_
       | exact fin_some hs rfl
       | (intro b hb; first | have hs := nilq_elim hs b hb | have hs := nilqn_elim hs b hb)
       | (have hs := cT rfl hs)
       | (have hs := cF rfl hs)
       | exact (none_ne hs).elim)
noncomputable def lf_channel_sent : List AV → Option AV := liftF (.pair (.pair (.pair (.int .i64) (.pair (.int .i64) (.pair (.int .i64) (.pair (.int .i64) .unit)))) (.pair (.int .i64) (.pair (.sl (.int .i64)) (.pair (.pair .bool (.pair (.sl (.int .i64)) .unit)) (.pair (.sl (.int .i64)) (.pair (.pair .bool (.pair (.sl (.int .i64)) .unit)) .unit)))))) .unit) (unpR (.pair (.pair (.pair (.int .i64) (.pair (.int .i64) (.pair (.int .i64) (.pair (.int .i64) .unit)))) (.pair (.int .i64) (.pair (.sl (.int .i64)) (.pair (.pair .bool (.pair (.sl (.int .i64)) .unit)) (.pair (.sl (.int .i64)) (.pair (.pair .bool (.pair (.sl (.int .i64)) .unit)) .unit)))))) (.pair (.int .i64) (.pair (.int .i64) .unit)))) (fun x => channel_sent x.1)
def tt_channel_sent : List (Nat × Ty) := [(3, .int .i64), (24, .sl (.int .i64)), (31, .pair .bool (.pair (.sl (.int .i64)) .unit)), (33, .pair (.pair (.int .i64) (.pair (.int .i64) (.pair (.int .i64) (.pair (.int .i64) .unit)))) (.pair (.int .i64) (.pair (.sl (.int .i64)) (.pair (.pair .bool (.pair (.sl (.int .i64)) .unit)) (.pair (.sl (.int .i64)) (.pair (.pair .bool (.pair (.sl (.int .i64)) .unit)) .unit))))))]
def et_channel_sent : List (Nat × Nat) := [(24, 3)]
theorem tt_channel_sent_ok : subT tt tt_channel_sent = true := by kernel_rfl
theorem et_channel_sent_ok : subE et et_channel_sent = true := by kernel_rfl
noncomputable def E_channel_sent (fns : List (Nat × (List AV → Option AV))) : Env := ⟨0, 0, et_channel_sent, tt_channel_sent, fns, [], [], [(0, [1, 2]), (1, [1, 2, 5]), (2, [1, 2, 5, 7]), (3, [1, 2, 5, 7]), (4, [1, 2, 5, 7]), (5, [2, 3, 4]), (4000000, [1, 2]), (4000001, [1, 2]), (4000002, [1, 2]), (4000003, [1, 2]), (4000004, [1, 2]), (4000005, [2])], none, []⟩
set_option maxRecDepth 100000 in
set_option maxHeartbeats 40000000 in
theorem c_channel_sent : PCon Go.Proofs.Try.prog 61 lf_channel_sent := by
  obtain ⟨G62, hG62, cG62⟩ : ∃ G : ((.pair (.sl (.int .i64)) (.pair (.int .i64) .unit)) : Ty).den → Option (List Int), (∀ x, G x = channel_without x.1 x.2.1) ∧ PCon Go.Proofs.Try.prog 62 (liftF (.pair (.sl (.int .i64)) (.pair (.int .i64) .unit)) (unpack (.sl (.int .i64))) G) := ⟨_, fun _ => rfl, c_channel_without⟩
  obtain ⟨G76, hG76, cG76⟩ : ∃ G : ((.pair (.pair .bool (.pair (.sl (.int .i64)) .unit)) (.pair (.int .i64) .unit)) : Ty).den → Option ((Bool × (List Int) × Unit) × Bool × Unit), (∀ x, G x = claims_Leave x.1 x.2.1) ∧ PCon Go.Proofs.Try.prog 76 (liftF (.pair (.pair .bool (.pair (.sl (.int .i64)) .unit)) (.pair (.int .i64) .unit)) (unpR (.pair (.pair .bool (.pair (.sl (.int .i64)) .unit)) (.pair .bool .unit))) G) := ⟨_, fun _ => rfl, c_claims_Leave⟩
  obtain ⟨G85, hG85, cG85⟩ : ∃ G : ((.pair (.pair .bool (.pair (.sl (.int .i64)) .unit)) .unit) : Ty).den → Option (Int × Bool × Unit), (∀ x, G x = claims_Head x.1) ∧ PCon Go.Proofs.Try.prog 85 (liftF (.pair (.pair .bool (.pair (.sl (.int .i64)) .unit)) .unit) (unpR (.pair (.int .i64) (.pair .bool .unit))) G) := ⟨_, fun _ => rfl, c_claims_Head⟩
  obtain ⟨fns, hfns, hf⟩ : ∃ fns, fns = [(62, liftF (.pair (.sl (.int .i64)) (.pair (.int .i64) .unit)) (unpack (.sl (.int .i64))) G62), (76, liftF (.pair (.pair .bool (.pair (.sl (.int .i64)) .unit)) (.pair (.int .i64) .unit)) (unpR (.pair (.pair .bool (.pair (.sl (.int .i64)) .unit)) (.pair .bool .unit))) G76), (85, liftF (.pair (.pair .bool (.pair (.sl (.int .i64)) .unit)) .unit) (unpR (.pair (.int .i64) (.pair .bool .unit))) G85)] ∧ FnsOk Go.Proofs.Try.prog fns := ⟨_, rfl, FnsOk.cons cG62 (FnsOk.cons cG76 (FnsOk.cons cG85 (FnsOk.nil _)))⟩
  refine lift_con (E := E_channel_sent fns) (c := bodyOf Try.f61) (nt := 33) (rs := [.cell 2 33, .tmp 3, .tmp 4]) (ts := [33, 3, 3]) (EnvC.sub tt_ok et_ok hf (PrsOk.nil _) (ItsOk.nil _) tt_channel_sent_ok et_channel_sent_ok) (PrOk.of mixed_ok) Go.Proofs.Try.func61 rfl (by decide) rfl rfl rfl (pureR_many (e := (.pair (.pair (.pair (.int .i64) (.pair (.int .i64) (.pair (.int .i64) (.pair (.int .i64) .unit)))) (.pair (.int .i64) (.pair (.sl (.int .i64)) (.pair (.pair .bool (.pair (.sl (.int .i64)) .unit)) (.pair (.sl (.int .i64)) (.pair (.pair .bool (.pair (.sl (.int .i64)) .unit)) .unit)))))) (.pair (.int .i64) (.pair (.int .i64) .unit)))) rfl) ?_
  subst hfns
  intro x r hw hs
  repeat'
    (try (conv => whnf)
     first
       | (have hs := letv_out hs)
       | (refine draw_and (by kernel_rfl) ?_)
       | (refine both_mk ?_ ?_)
       | (refine br_bool (fun h => ?_) (fun h => ?_) <;> first | have hs := cT h hs | have hs := cF h hs)
       | (refine bind_elim hs fun v hb hs => ?_; first | refine callK_liftG hG62 rfl hb ?_ | refine callK_liftG hG76 rfl hb ?_ | refine callK_liftG hG85 rfl hb ?_)
       | refine chk_elim hs fun hs => ?_
       | exact fin_some hs rfl
       | (intro b hb; first | have hs := nilq_elim hs b hb | have hs := nilqn_elim hs b hb)
       | (have hs := cT rfl hs)
       | (have hs := cF rfl hs)
       | exact (none_ne hs).elim)
noncomputable def lf_channel_got : List AV → Option AV := liftF (.pair (.pair (.pair (.int .i64) (.pair (.int .i64) (.pair (.int .i64) (.pair (.int .i64) .unit)))) (.pair (.int .i64) (.pair (.sl (.int .i64)) (.pair (.pair .bool (.pair (.sl (.int .i64)) .unit)) (.pair (.sl (.int .i64)) (.pair (.pair .bool (.pair (.sl (.int .i64)) .unit)) .unit)))))) .unit) (unpR (.pair (.pair (.pair (.int .i64) (.pair (.int .i64) (.pair (.int .i64) (.pair (.int .i64) .unit)))) (.pair (.int .i64) (.pair (.sl (.int .i64)) (.pair (.pair .bool (.pair (.sl (.int .i64)) .unit)) (.pair (.sl (.int .i64)) (.pair (.pair .bool (.pair (.sl (.int .i64)) .unit)) .unit)))))) (.pair (.int .i64) .unit))) (fun x => channel_got x.1)
def tt_channel_got : List (Nat × Ty) := [(3, .int .i64), (31, .pair .bool (.pair (.sl (.int .i64)) .unit)), (33, .pair (.pair (.int .i64) (.pair (.int .i64) (.pair (.int .i64) (.pair (.int .i64) .unit)))) (.pair (.int .i64) (.pair (.sl (.int .i64)) (.pair (.pair .bool (.pair (.sl (.int .i64)) .unit)) (.pair (.sl (.int .i64)) (.pair (.pair .bool (.pair (.sl (.int .i64)) .unit)) .unit))))))]
def et_channel_got : List (Nat × Nat) := []
theorem tt_channel_got_ok : subT tt tt_channel_got = true := by kernel_rfl
theorem et_channel_got_ok : subE et et_channel_got = true := by kernel_rfl
noncomputable def E_channel_got (fns : List (Nat × (List AV → Option AV))) : Env := ⟨0, 0, et_channel_got, tt_channel_got, fns, [], [], [(0, [1, 2]), (1, [1, 2, 4]), (2, [1, 2, 4]), (3, [2, 3]), (4000000, [1, 2]), (4000001, [1, 2]), (4000002, [1, 2]), (4000003, [2])], none, []⟩
set_option maxRecDepth 100000 in
set_option maxHeartbeats 40000000 in
theorem c_channel_got : PCon Go.Proofs.Try.prog 63 lf_channel_got := by
  obtain ⟨G76, hG76, cG76⟩ : ∃ G : ((.pair (.pair .bool (.pair (.sl (.int .i64)) .unit)) (.pair (.int .i64) .unit)) : Ty).den → Option ((Bool × (List Int) × Unit) × Bool × Unit), (∀ x, G x = claims_Leave x.1 x.2.1) ∧ PCon Go.Proofs.Try.prog 76 (liftF (.pair (.pair .bool (.pair (.sl (.int .i64)) .unit)) (.pair (.int .i64) .unit)) (unpR (.pair (.pair .bool (.pair (.sl (.int .i64)) .unit)) (.pair .bool .unit))) G) := ⟨_, fun _ => rfl, c_claims_Leave⟩
  obtain ⟨G85, hG85, cG85⟩ : ∃ G : ((.pair (.pair .bool (.pair (.sl (.int .i64)) .unit)) .unit) : Ty).den → Option (Int × Bool × Unit), (∀ x, G x = claims_Head x.1) ∧ PCon Go.Proofs.Try.prog 85 (liftF (.pair (.pair .bool (.pair (.sl (.int .i64)) .unit)) .unit) (unpR (.pair (.int .i64) (.pair .bool .unit))) G) := ⟨_, fun _ => rfl, c_claims_Head⟩
  obtain ⟨fns, hfns, hf⟩ : ∃ fns, fns = [(76, liftF (.pair (.pair .bool (.pair (.sl (.int .i64)) .unit)) (.pair (.int .i64) .unit)) (unpR (.pair (.pair .bool (.pair (.sl (.int .i64)) .unit)) (.pair .bool .unit))) G76), (85, liftF (.pair (.pair .bool (.pair (.sl (.int .i64)) .unit)) .unit) (unpR (.pair (.int .i64) (.pair .bool .unit))) G85)] ∧ FnsOk Go.Proofs.Try.prog fns := ⟨_, rfl, FnsOk.cons cG76 (FnsOk.cons cG85 (FnsOk.nil _))⟩
  refine lift_con (E := E_channel_got fns) (c := bodyOf Try.f63) (nt := 22) (rs := [.cell 2 33, .tmp 3]) (ts := [33, 3]) (EnvC.sub tt_ok et_ok hf (PrsOk.nil _) (ItsOk.nil _) tt_channel_got_ok et_channel_got_ok) (PrOk.of mixed_ok) Go.Proofs.Try.func63 rfl (by decide) rfl rfl rfl (pureR_many (e := (.pair (.pair (.pair (.int .i64) (.pair (.int .i64) (.pair (.int .i64) (.pair (.int .i64) .unit)))) (.pair (.int .i64) (.pair (.sl (.int .i64)) (.pair (.pair .bool (.pair (.sl (.int .i64)) .unit)) (.pair (.sl (.int .i64)) (.pair (.pair .bool (.pair (.sl (.int .i64)) .unit)) .unit)))))) (.pair (.int .i64) .unit))) rfl) ?_
  subst hfns
  intro x r hw hs
  repeat'
    (try (conv => whnf)
     first
       | (have hs := letv_out hs)
       | (refine draw_and (by kernel_rfl) ?_)
       | (refine both_mk ?_ ?_)
       | (refine br_bool (fun h => ?_) (fun h => ?_) <;> first | have hs := cT h hs | have hs := cF h hs)
       | (refine bind_elim hs fun v hb hs => ?_; first | refine callK_liftG hG76 rfl hb ?_ | refine callK_liftG hG85 rfl hb ?_)
       | refine chk_elim hs fun hs => ?_
       | exact fin_some hs rfl
       | (intro b hb; first | have hs := nilq_elim hs b hb | have hs := nilqn_elim hs b hb)
       | (have hs := cT rfl hs)
       | (have hs := cF rfl hs)
       | exact (none_ne hs).elim)
noncomputable def lf_channel_Do : List AV → Option AV := liftF (.pair (.pair (.pair (.int .i64) (.pair (.int .i64) (.pair (.int .i64) (.pair (.int .i64) .unit)))) (.pair (.int .i64) (.pair (.sl (.int .i64)) (.pair (.pair .bool (.pair (.sl (.int .i64)) .unit)) (.pair (.sl (.int .i64)) (.pair (.pair .bool (.pair (.sl (.int .i64)) .unit)) .unit)))))) (.pair (.int .i64) .unit)) (unpR (.pair (.pair (.pair (.int .i64) (.pair (.int .i64) (.pair (.int .i64) (.pair (.int .i64) .unit)))) (.pair (.int .i64) (.pair (.sl (.int .i64)) (.pair (.pair .bool (.pair (.sl (.int .i64)) .unit)) (.pair (.sl (.int .i64)) (.pair (.pair .bool (.pair (.sl (.int .i64)) .unit)) .unit)))))) (.pair (.pair (.int .i64) (.pair (.int .i64) (.pair (.int .i64) .unit))) (.pair (.int .i64) .unit)))) (fun x => channel_Do x.1 x.2.1)
def tt_channel_Do : List (Nat × Ty) := [(3, .int .i64), (4, .bool), (24, .sl (.int .i64)), (33, .pair (.pair (.int .i64) (.pair (.int .i64) (.pair (.int .i64) (.pair (.int .i64) .unit)))) (.pair (.int .i64) (.pair (.sl (.int .i64)) (.pair (.pair .bool (.pair (.sl (.int .i64)) .unit)) (.pair (.sl (.int .i64)) (.pair (.pair .bool (.pair (.sl (.int .i64)) .unit)) .unit)))))), (35, .int .i64), (45, .pair (.int .i64) (.pair (.int .i64) (.pair (.int .i64) .unit)))]
def et_channel_Do : List (Nat × Nat) := [(24, 3)]
theorem tt_channel_Do_ok : subT tt tt_channel_Do = true := by kernel_rfl
theorem et_channel_Do_ok : subE et et_channel_Do = true := by kernel_rfl
noncomputable def E_channel_Do (fns : List (Nat × (List AV → Option AV))) : Env := ⟨0, 0, et_channel_Do, tt_channel_Do, fns, [], [(11, (.one 0 (.one 1 (.alt (.cons 2 (.alt (.cons 3 (.one 4 .nil) .nil)) .nil))))), (16, (.one 0 (.one 1 (.alt (.cons 2 (.alt (.cons 3 (.one 4 .nil) .nil)) .nil)))))], [(0, [1, 2, 4, 5]), (1, [1, 2, 4, 5, 8]), (2, [4, 5, 6]), (3, [1, 2, 4, 5, 14]), (4, [4, 5, 6]), (5, [1, 2, 4, 5, 7]), (6, [1, 2, 4, 5, 7, 23]), (7, [1, 2, 4, 5, 7]), (8, [2, 4, 5, 7, 32]), (9, [2, 4, 5, 7, 32, 33]), (10, [2, 4, 5, 7]), (11, [4, 5, 6]), (12, [2, 4, 5, 7, 43]), (13, [2, 4, 5, 7]), (14, [2, 4, 5, 7]), (15, [2, 4, 5, 7]), (16, [4, 5, 6]), (2000011, [4, 5]), (3000011, []), (2000016, [4, 5]), (3000016, []), (4000000, [2, 4, 5]), (4000001, [2, 4, 5]), (4000002, [4, 5]), (4000003, [2, 4, 5]), (4000004, [4, 5]), (4000005, [2, 4, 5, 7]), (4000006, [2, 4, 5, 7]), (4000007, [2, 4, 5, 7]), (4000008, [2, 4, 5, 7]), (4000009, [2, 4, 5, 7]), (4000010, [2, 4, 5, 7]), (4000011, [4, 5]), (4000012, [2, 4, 5, 7]), (4000013, [2, 4, 5, 7]), (4000014, [2, 4, 5, 7]), (4000015, [2, 4, 5, 7]), (4000016, [4, 5])], none, []⟩
set_option maxRecDepth 100000 in
set_option maxHeartbeats 40000000 in
theorem c_channel_Do : PCon Go.Proofs.Try.prog 20 lf_channel_Do := by
  obtain ⟨G23, hG23, cG23⟩ : ∃ G : ((.pair (.pair (.pair (.int .i64) (.pair (.int .i64) (.pair (.int .i64) (.pair (.int .i64) .unit)))) (.pair (.int .i64) (.pair (.sl (.int .i64)) (.pair (.pair .bool (.pair (.sl (.int .i64)) .unit)) (.pair (.sl (.int .i64)) (.pair (.pair .bool (.pair (.sl (.int .i64)) .unit)) .unit)))))) .unit) : Ty).den → Option Bool, (∀ x, G x = channel_Fine x.1) ∧ PCon Go.Proofs.Try.prog 23 (liftF (.pair (.pair (.pair (.int .i64) (.pair (.int .i64) (.pair (.int .i64) (.pair (.int .i64) .unit)))) (.pair (.int .i64) (.pair (.sl (.int .i64)) (.pair (.pair .bool (.pair (.sl (.int .i64)) .unit)) (.pair (.sl (.int .i64)) (.pair (.pair .bool (.pair (.sl (.int .i64)) .unit)) .unit)))))) .unit) (unpack .bool) G) := ⟨_, fun _ => rfl, c_channel_Fine⟩
  obtain ⟨G55, hG55, cG55⟩ : ∃ G : ((.pair (.sl (.int .i64)) (.pair (.int .i64) .unit)) : Ty).den → Option (List Int), (∀ x, G x = channel_behind x.1 x.2.1) ∧ PCon Go.Proofs.Try.prog 55 (liftF (.pair (.sl (.int .i64)) (.pair (.int .i64) .unit)) (unpack (.sl (.int .i64))) G) := ⟨_, fun _ => rfl, c_channel_behind⟩
  obtain ⟨G60, hG60, cG60⟩ : ∃ G : ((.pair (.pair (.pair (.int .i64) (.pair (.int .i64) (.pair (.int .i64) (.pair (.int .i64) .unit)))) (.pair (.int .i64) (.pair (.sl (.int .i64)) (.pair (.pair .bool (.pair (.sl (.int .i64)) .unit)) (.pair (.sl (.int .i64)) (.pair (.pair .bool (.pair (.sl (.int .i64)) .unit)) .unit)))))) (.pair (.int .i64) .unit)) : Ty).den → Option Bool, (∀ x, G x = channel_may x.1 x.2.1) ∧ PCon Go.Proofs.Try.prog 60 (liftF (.pair (.pair (.pair (.int .i64) (.pair (.int .i64) (.pair (.int .i64) (.pair (.int .i64) .unit)))) (.pair (.int .i64) (.pair (.sl (.int .i64)) (.pair (.pair .bool (.pair (.sl (.int .i64)) .unit)) (.pair (.sl (.int .i64)) (.pair (.pair .bool (.pair (.sl (.int .i64)) .unit)) .unit)))))) (.pair (.int .i64) .unit)) (unpack .bool) G) := ⟨_, fun _ => rfl, c_channel_may⟩
  obtain ⟨G61, hG61, cG61⟩ : ∃ G : ((.pair (.pair (.pair (.int .i64) (.pair (.int .i64) (.pair (.int .i64) (.pair (.int .i64) .unit)))) (.pair (.int .i64) (.pair (.sl (.int .i64)) (.pair (.pair .bool (.pair (.sl (.int .i64)) .unit)) (.pair (.sl (.int .i64)) (.pair (.pair .bool (.pair (.sl (.int .i64)) .unit)) .unit)))))) .unit) : Ty).den → Option (((Int × Int × Int × Int × Unit) × Int × (List Int) × (Bool × (List Int) × Unit) × (List Int) × (Bool × (List Int) × Unit) × Unit) × Int × Int × Unit), (∀ x, G x = channel_sent x.1) ∧ PCon Go.Proofs.Try.prog 61 (liftF (.pair (.pair (.pair (.int .i64) (.pair (.int .i64) (.pair (.int .i64) (.pair (.int .i64) .unit)))) (.pair (.int .i64) (.pair (.sl (.int .i64)) (.pair (.pair .bool (.pair (.sl (.int .i64)) .unit)) (.pair (.sl (.int .i64)) (.pair (.pair .bool (.pair (.sl (.int .i64)) .unit)) .unit)))))) .unit) (unpR (.pair (.pair (.pair (.int .i64) (.pair (.int .i64) (.pair (.int .i64) (.pair (.int .i64) .unit)))) (.pair (.int .i64) (.pair (.sl (.int .i64)) (.pair (.pair .bool (.pair (.sl (.int .i64)) .unit)) (.pair (.sl (.int .i64)) (.pair (.pair .bool (.pair (.sl (.int .i64)) .unit)) .unit)))))) (.pair (.int .i64) (.pair (.int .i64) .unit)))) G) := ⟨_, fun _ => rfl, c_channel_sent⟩
  obtain ⟨G62, hG62, cG62⟩ : ∃ G : ((.pair (.sl (.int .i64)) (.pair (.int .i64) .unit)) : Ty).den → Option (List Int), (∀ x, G x = channel_without x.1 x.2.1) ∧ PCon Go.Proofs.Try.prog 62 (liftF (.pair (.sl (.int .i64)) (.pair (.int .i64) .unit)) (unpack (.sl (.int .i64))) G) := ⟨_, fun _ => rfl, c_channel_without⟩
  obtain ⟨G63, hG63, cG63⟩ : ∃ G : ((.pair (.pair (.pair (.int .i64) (.pair (.int .i64) (.pair (.int .i64) (.pair (.int .i64) .unit)))) (.pair (.int .i64) (.pair (.sl (.int .i64)) (.pair (.pair .bool (.pair (.sl (.int .i64)) .unit)) (.pair (.sl (.int .i64)) (.pair (.pair .bool (.pair (.sl (.int .i64)) .unit)) .unit)))))) .unit) : Ty).den → Option (((Int × Int × Int × Int × Unit) × Int × (List Int) × (Bool × (List Int) × Unit) × (List Int) × (Bool × (List Int) × Unit) × Unit) × Int × Unit), (∀ x, G x = channel_got x.1) ∧ PCon Go.Proofs.Try.prog 63 (liftF (.pair (.pair (.pair (.int .i64) (.pair (.int .i64) (.pair (.int .i64) (.pair (.int .i64) .unit)))) (.pair (.int .i64) (.pair (.sl (.int .i64)) (.pair (.pair .bool (.pair (.sl (.int .i64)) .unit)) (.pair (.sl (.int .i64)) (.pair (.pair .bool (.pair (.sl (.int .i64)) .unit)) .unit)))))) .unit) (unpR (.pair (.pair (.pair (.int .i64) (.pair (.int .i64) (.pair (.int .i64) (.pair (.int .i64) .unit)))) (.pair (.int .i64) (.pair (.sl (.int .i64)) (.pair (.pair .bool (.pair (.sl (.int .i64)) .unit)) (.pair (.sl (.int .i64)) (.pair (.pair .bool (.pair (.sl (.int .i64)) .unit)) .unit)))))) (.pair (.int .i64) .unit))) G) := ⟨_, fun _ => rfl, c_channel_got⟩
  obtain ⟨fns, hfns, hf⟩ : ∃ fns, fns = [(23, liftF (.pair (.pair (.pair (.int .i64) (.pair (.int .i64) (.pair (.int .i64) (.pair (.int .i64) .unit)))) (.pair (.int .i64) (.pair (.sl (.int .i64)) (.pair (.pair .bool (.pair (.sl (.int .i64)) .unit)) (.pair (.sl (.int .i64)) (.pair (.pair .bool (.pair (.sl (.int .i64)) .unit)) .unit)))))) .unit) (unpack .bool) G23), (55, liftF (.pair (.sl (.int .i64)) (.pair (.int .i64) .unit)) (unpack (.sl (.int .i64))) G55), (60, liftF (.pair (.pair (.pair (.int .i64) (.pair (.int .i64) (.pair (.int .i64) (.pair (.int .i64) .unit)))) (.pair (.int .i64) (.pair (.sl (.int .i64)) (.pair (.pair .bool (.pair (.sl (.int .i64)) .unit)) (.pair (.sl (.int .i64)) (.pair (.pair .bool (.pair (.sl (.int .i64)) .unit)) .unit)))))) (.pair (.int .i64) .unit)) (unpack .bool) G60), (61, liftF (.pair (.pair (.pair (.int .i64) (.pair (.int .i64) (.pair (.int .i64) (.pair (.int .i64) .unit)))) (.pair (.int .i64) (.pair (.sl (.int .i64)) (.pair (.pair .bool (.pair (.sl (.int .i64)) .unit)) (.pair (.sl (.int .i64)) (.pair (.pair .bool (.pair (.sl (.int .i64)) .unit)) .unit)))))) .unit) (unpR (.pair (.pair (.pair (.int .i64) (.pair (.int .i64) (.pair (.int .i64) (.pair (.int .i64) .unit)))) (.pair (.int .i64) (.pair (.sl (.int .i64)) (.pair (.pair .bool (.pair (.sl (.int .i64)) .unit)) (.pair (.sl (.int .i64)) (.pair (.pair .bool (.pair (.sl (.int .i64)) .unit)) .unit)))))) (.pair (.int .i64) (.pair (.int .i64) .unit)))) G61), (62, liftF (.pair (.sl (.int .i64)) (.pair (.int .i64) .unit)) (unpack (.sl (.int .i64))) G62), (63, liftF (.pair (.pair (.pair (.int .i64) (.pair (.int .i64) (.pair (.int .i64) (.pair (.int .i64) .unit)))) (.pair (.int .i64) (.pair (.sl (.int .i64)) (.pair (.pair .bool (.pair (.sl (.int .i64)) .unit)) (.pair (.sl (.int .i64)) (.pair (.pair .bool (.pair (.sl (.int .i64)) .unit)) .unit)))))) .unit) (unpR (.pair (.pair (.pair (.int .i64) (.pair (.int .i64) (.pair (.int .i64) (.pair (.int .i64) .unit)))) (.pair (.int .i64) (.pair (.sl (.int .i64)) (.pair (.pair .bool (.pair (.sl (.int .i64)) .unit)) (.pair (.sl (.int .i64)) (.pair (.pair .bool (.pair (.sl (.int .i64)) .unit)) .unit)))))) (.pair (.int .i64) .unit))) G63)] ∧ FnsOk Go.Proofs.Try.prog fns := ⟨_, rfl, FnsOk.cons cG23 (FnsOk.cons cG55 (FnsOk.cons cG60 (FnsOk.cons cG61 (FnsOk.cons cG62 (FnsOk.cons cG63 (FnsOk.nil _))))))⟩
  refine lift_con (E := E_channel_Do fns) (c := bodyOf Try.f20) (nt := 62) (rs := [.cell 4 33, .cell 5 45, .tmp 6]) (ts := [33, 45, 35]) (EnvC.sub tt_ok et_ok hf (PrsOk.nil _) (ItsOk.nil _) tt_channel_Do_ok et_channel_Do_ok) (PrOk.of mixed_ok) Go.Proofs.Try.func20 rfl (by decide) rfl rfl rfl (pureR_many (e := (.pair (.pair (.pair (.int .i64) (.pair (.int .i64) (.pair (.int .i64) (.pair (.int .i64) .unit)))) (.pair (.int .i64) (.pair (.sl (.int .i64)) (.pair (.pair .bool (.pair (.sl (.int .i64)) .unit)) (.pair (.sl (.int .i64)) (.pair (.pair .bool (.pair (.sl (.int .i64)) .unit)) .unit)))))) (.pair (.pair (.int .i64) (.pair (.int .i64) (.pair (.int .i64) .unit))) (.pair (.int .i64) .unit)))) rfl) ?_
  subst hfns
  intro x r hw hs
  repeat'
    (try (conv => whnf)
     first
       | (have hs := letv_out hs)
       | (refine draw_and (by kernel_rfl) ?_)
       | (refine both_mk ?_ ?_)
       | (refine br_bool (fun h => ?_) (fun h => ?_) <;> first | have hs := cT h hs | have hs := cF h hs)
       | (refine bind_elim hs fun v hb hs => ?_; first | refine callK_liftG hG23 rfl hb ?_ | refine callK_liftG hG55 rfl hb ?_ | refine callK_liftG hG60 rfl hb ?_ | refine callK_liftG hG61 rfl hb ?_ | refine callK_liftG hG62 rfl hb ?_ | refine callK_liftG hG63 rfl hb ?_)
       | refine chk_elim hs fun hs => ?_
       | exact fin_some hs rfl
       | (intro b hb; first | have hs := nilq_elim hs b hb | have hs := nilqn_elim hs b hb)
       | (have hs := cT rfl hs)
       | (have hs := cF rfl hs)
       | exact (none_ne hs).elim)
noncomputable def lf_channel_Poison : List AV → Option AV := liftF (.pair (.pair (.pair (.int .i64) (.pair (.int .i64) (.pair (.int .i64) (.pair (.int .i64) .unit)))) (.pair (.int .i64) (.pair (.sl (.int .i64)) (.pair (.pair .bool (.pair (.sl (.int .i64)) .unit)) (.pair (.sl (.int .i64)) (.pair (.pair .bool (.pair (.sl (.int .i64)) .unit)) .unit)))))) (.pair (.int .i64) .unit)) (unpR (.pair (.pair (.pair (.int .i64) (.pair (.int .i64) (.pair (.int .i64) (.pair (.int .i64) .unit)))) (.pair (.int .i64) (.pair (.sl (.int .i64)) (.pair (.pair .bool (.pair (.sl (.int .i64)) .unit)) (.pair (.sl (.int .i64)) (.pair (.pair .bool (.pair (.sl (.int .i64)) .unit)) .unit)))))) (.pair (.int .i64) .unit))) (fun x => channel_Poison x.1 x.2.1)
def tt_channel_Poison : List (Nat × Ty) := [(3, .int .i64), (4, .bool), (33, .pair (.pair (.int .i64) (.pair (.int .i64) (.pair (.int .i64) (.pair (.int .i64) .unit)))) (.pair (.int .i64) (.pair (.sl (.int .i64)) (.pair (.pair .bool (.pair (.sl (.int .i64)) .unit)) (.pair (.sl (.int .i64)) (.pair (.pair .bool (.pair (.sl (.int .i64)) .unit)) .unit)))))), (35, .int .i64)]
def et_channel_Poison : List (Nat × Nat) := []
theorem tt_channel_Poison_ok : subT tt tt_channel_Poison = true := by kernel_rfl
theorem et_channel_Poison_ok : subE et et_channel_Poison = true := by kernel_rfl
noncomputable def E_channel_Poison (fns : List (Nat × (List AV → Option AV))) : Env := ⟨0, 0, et_channel_Poison, tt_channel_Poison, fns, [], [], [(0, [1, 2, 4]), (1, [1, 2, 4, 10]), (2, [4, 5]), (3, [2, 4, 6, 7]), (4, [2, 4, 6, 7, 20]), (5, [2, 4, 7]), (6, [4, 5]), (4000000, [2, 4]), (4000001, [2, 4]), (4000002, [4]), (4000003, [2, 4]), (4000004, [2, 4]), (4000005, [2, 4]), (4000006, [4])], none, []⟩
set_option maxRecDepth 100000 in
set_option maxHeartbeats 40000000 in
theorem c_channel_Poison : PCon Go.Proofs.Try.prog 16 lf_channel_Poison := by
  obtain ⟨G23, hG23, cG23⟩ : ∃ G : ((.pair (.pair (.pair (.int .i64) (.pair (.int .i64) (.pair (.int .i64) (.pair (.int .i64) .unit)))) (.pair (.int .i64) (.pair (.sl (.int .i64)) (.pair (.pair .bool (.pair (.sl (.int .i64)) .unit)) (.pair (.sl (.int .i64)) (.pair (.pair .bool (.pair (.sl (.int .i64)) .unit)) .unit)))))) .unit) : Ty).den → Option Bool, (∀ x, G x = channel_Fine x.1) ∧ PCon Go.Proofs.Try.prog 23 (liftF (.pair (.pair (.pair (.int .i64) (.pair (.int .i64) (.pair (.int .i64) (.pair (.int .i64) .unit)))) (.pair (.int .i64) (.pair (.sl (.int .i64)) (.pair (.pair .bool (.pair (.sl (.int .i64)) .unit)) (.pair (.sl (.int .i64)) (.pair (.pair .bool (.pair (.sl (.int .i64)) .unit)) .unit)))))) .unit) (unpack .bool) G) := ⟨_, fun _ => rfl, c_channel_Fine⟩
  obtain ⟨G58, hG58, cG58⟩ : ∃ G : ((.pair (.int .i64) (.pair (.int .i64) .unit)) : Ty).den → Option (Int × Int × Unit), (∀ x, G x = poison_Raise x.1 x.2.1) ∧ PCon Go.Proofs.Try.prog 58 (liftF (.pair (.int .i64) (.pair (.int .i64) .unit)) (unpR (.pair (.int .i64) (.pair (.int .i64) .unit))) G) := ⟨_, fun _ => rfl, c_poison_Raise⟩
  obtain ⟨fns, hfns, hf⟩ : ∃ fns, fns = [(23, liftF (.pair (.pair (.pair (.int .i64) (.pair (.int .i64) (.pair (.int .i64) (.pair (.int .i64) .unit)))) (.pair (.int .i64) (.pair (.sl (.int .i64)) (.pair (.pair .bool (.pair (.sl (.int .i64)) .unit)) (.pair (.sl (.int .i64)) (.pair (.pair .bool (.pair (.sl (.int .i64)) .unit)) .unit)))))) .unit) (unpack .bool) G23), (58, liftF (.pair (.int .i64) (.pair (.int .i64) .unit)) (unpR (.pair (.int .i64) (.pair (.int .i64) .unit))) G58)] ∧ FnsOk Go.Proofs.Try.prog fns := ⟨_, rfl, FnsOk.cons cG23 (FnsOk.cons cG58 (FnsOk.nil _))⟩
  refine lift_con (E := E_channel_Poison fns) (c := bodyOf Try.f16) (nt := 25) (rs := [.cell 4 33, .tmp 5]) (ts := [33, 35]) (EnvC.sub tt_ok et_ok hf (PrsOk.nil _) (ItsOk.nil _) tt_channel_Poison_ok et_channel_Poison_ok) (PrOk.of mixed_ok) Go.Proofs.Try.func16 rfl (by decide) rfl rfl rfl (pureR_many (e := (.pair (.pair (.pair (.int .i64) (.pair (.int .i64) (.pair (.int .i64) (.pair (.int .i64) .unit)))) (.pair (.int .i64) (.pair (.sl (.int .i64)) (.pair (.pair .bool (.pair (.sl (.int .i64)) .unit)) (.pair (.sl (.int .i64)) (.pair (.pair .bool (.pair (.sl (.int .i64)) .unit)) .unit)))))) (.pair (.int .i64) .unit))) rfl) ?_
  subst hfns
  intro x r hw hs
  repeat'
    (try (conv => whnf)
     first
       | (have hs := letv_out hs)
       | (refine draw_and (by kernel_rfl) ?_)
       | (refine both_mk ?_ ?_)
       | (refine br_bool (fun h => ?_) (fun h => ?_) <;> first | have hs := cT h hs | have hs := cF h hs)
       | (refine bind_elim hs fun v hb hs => ?_; first | refine callK_liftG hG23 rfl hb ?_ | refine callK_liftG hG58 rfl hb ?_)
       | refine chk_elim hs fun hs => ?_
       | exact fin_some hs rfl
       | (intro b hb; first | have hs := nilq_elim hs b hb | have hs := nilqn_elim hs b hb)
       | (have hs := cT rfl hs)
       | (have hs := cF rfl hs)
       | exact (none_ne hs).elim)
end Go.Proofs.YtbkccpddkpclaaaV
