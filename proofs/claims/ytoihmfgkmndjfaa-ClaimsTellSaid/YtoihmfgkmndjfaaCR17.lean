import Derived.Test.YtoihmfgkmndjfaaVcTab
import Derived.Test.YtoihmfgkmndjfaaDR17
namespace Go.Proofs.YtoihmfgkmndjfaaV
open Go.Proofs
set_option linter.unusedVariables false
noncomputable def lf_R17_At : List AV → Option AV := liftF (.pair (.sl (.int .i64)) (.pair (.int .i64) .unit)) (unpack (.int .i64)) (fun x => R17_At x.1 x.2.1)
def tt_R17_At : List (Nat × Ty) := [(3, .int .i64), (22, .sl (.int .i64))]
def et_R17_At : List (Nat × Nat) := [(22, 3)]
theorem tt_R17_At_ok : subT tt tt_R17_At = true := by kernel_rfl
theorem et_R17_At_ok : subE et et_R17_At = true := by kernel_rfl
def R17_At_S1 (u0 : AV) (u1 : AV) (x1 : Int) : St :=
  ⟨[(0, u0), (1, u1), (5, .int .i64 x1)], [], none⟩
def R17_At_M1 : Msk := ⟨[0, 1, 5], [], [], [], [], [], [], [], []⟩
noncomputable def E_R17_At (fns : List (Nat × (List AV → Option AV))) : Env := ⟨0, 0, et_R17_At, tt_R17_At, fns, [], [], [(0, [0, 1]), (1, [0, 1, 5]), (2, [0, 1, 5, 9]), (3, [0, 1, 5]), (4, [0, 1, 5, 17]), (5, [4]), (6, [4])]⟩
set_option maxRecDepth 100000 in
set_option maxHeartbeats 4000000 in
theorem c_R17_At : PCon Go.Proofs.Try.prog 73 lf_R17_At := by
  obtain ⟨fns, hfns, hf⟩ : ∃ fns, fns = [] ∧ FnsOk Go.Proofs.Try.prog fns := ⟨_, rfl, FnsOk.nil _⟩
  refine lift_con (E := E_R17_At fns) (c := bodyOf Try.f73) (nt := 19) (rs := [.tmp 4]) (ts := [3]) (EnvC.sub tt_ok et_ok hf (PrsOk.nil _) tt_R17_At_ok et_R17_At_ok) (PrOk.of mixed_ok) Go.Proofs.Try.func73 rfl (by decide) rfl rfl rfl (pureR_one (e := (.int .i64)) rfl) ?_
  subst hfns
  intro x r hw hs
  repeat'
    (try (conv => whnf)
     first
       | (have hs := letv_out hs)
       | (refine br_bool (fun h => ?_) (fun h => ?_) <;> first | have hs := cT h hs | have hs := cF h hs)
       | refine chk_elim hs fun hs => ?_
       | exact fin_some hs rfl
       | (intro b hb; first | have hs := nilq_elim hs b hb | have hs := nilqn_elim hs b hb)
       | exact hJ1 _ hs
       | (have hs := cT rfl hs)
       | (have hs := cF rfl hs)
       | exact (none_ne hs).elim
       | (refine draw_and (by kernel_rfl) ?_)
       | (refine vc_loop (R17_At_S1 _ _) R17_At_M1 hs rfl ?_; intro J1 k1 x1 hJ1 hs))
noncomputable def lf_R17_Fine : List AV → Option AV := liftF (.pair (.pair .bool (.pair (.sl (.int .i64)) .unit)) .unit) (unpack .bool) (fun x => R17_Fine x.1)
def tt_R17_Fine : List (Nat × Ty) := [(3, .int .i64), (4, .bool), (22, .sl (.int .i64)), (69, .pair .bool (.pair (.sl (.int .i64)) .unit))]
def et_R17_Fine : List (Nat × Nat) := [(22, 3)]
theorem tt_R17_Fine_ok : subT tt tt_R17_Fine = true := by kernel_rfl
theorem et_R17_Fine_ok : subE et et_R17_Fine = true := by kernel_rfl
def R17_Fine_S1 (u0 : AV) (B2 : Blk) (x1 : Int) : St :=
  ⟨[(1, u0), (3, .int .i64 x1)], [(1, B2)], none⟩
def R17_Fine_M1 : Msk := ⟨[1, 3], [1], [], [], [], [], [], [], []⟩
noncomputable def E_R17_Fine (fns : List (Nat × (List AV → Option AV))) : Env := ⟨0, 0, et_R17_Fine, tt_R17_Fine, fns, [], [(4, [0, 1, 2, 3, 4, 5, 6, 7, 8, 9, 10, 11, 12, 13, 14, 15, 16, 17, 18, 19, 20, 21, 23, 22, 24, 25])], [(0, [1]), (1, [1, 3]), (2, [1, 3, 8]), (3, [1, 3]), (4, [1, 3, 36]), (5, [2]), (6, [2])]⟩
set_option maxRecDepth 100000 in
set_option maxHeartbeats 4000000 in
theorem c_R17_Fine : PCon Go.Proofs.Try.prog 47 lf_R17_Fine := by
  obtain ⟨G73, hG73, cG73⟩ : ∃ G : ((.pair (.sl (.int .i64)) (.pair (.int .i64) .unit)) : Ty).den → Option Int, (∀ x, G x = R17_At x.1 x.2.1) ∧ PCon Go.Proofs.Try.prog 73 (liftF (.pair (.sl (.int .i64)) (.pair (.int .i64) .unit)) (unpack (.int .i64)) G) := ⟨_, fun _ => rfl, c_R17_At⟩
  obtain ⟨fns, hfns, hf⟩ : ∃ fns, fns = [(73, liftF (.pair (.sl (.int .i64)) (.pair (.int .i64) .unit)) (unpack (.int .i64)) G73)] ∧ FnsOk Go.Proofs.Try.prog fns := ⟨_, rfl, FnsOk.cons cG73 (FnsOk.nil _)⟩
  refine lift_con (E := E_R17_Fine fns) (c := bodyOf Try.f47) (nt := 45) (rs := [.tmp 2]) (ts := [4]) (EnvC.sub tt_ok et_ok hf (PrsOk.nil _) tt_R17_Fine_ok et_R17_Fine_ok) (PrOk.of mixed_ok) Go.Proofs.Try.func47 rfl (by decide) rfl rfl rfl (pureR_one (e := .bool) rfl) ?_
  subst hfns
  intro x r hw hs
  repeat'
    (try (conv => whnf)
     first
       | (have hs := letv_out hs)
       | (refine br_bool (fun h => ?_) (fun h => ?_) <;> first | have hs := cT h hs | have hs := cF h hs)
       | (refine bind_elim hs fun v hb hs => ?_; first | refine callK_lift rfl ((hG73 _).trans hb) ?_)
       | refine chk_elim hs fun hs => ?_
       | exact fin_some hs rfl
       | (intro b hb; first | have hs := nilq_elim hs b hb | have hs := nilqn_elim hs b hb)
       | exact hJ1 _ hs
       | (have hs := cT rfl hs)
       | (have hs := cF rfl hs)
       | exact (none_ne hs).elim
       | (refine draw_and (by kernel_rfl) ?_)
       | (refine vc_loop (R17_Fine_S1 _ _) R17_Fine_M1 hs rfl ?_; intro J1 k1 x1 hJ1 hs))
noncomputable def lf_R17_Join : List AV → Option AV := liftF (.pair (.pair .bool (.pair (.sl (.int .i64)) .unit)) (.pair (.int .i64) .unit)) (unpR (.pair (.pair .bool (.pair (.sl (.int .i64)) .unit)) (.pair (.int .i64) .unit))) (fun x => R17_Join x.1 x.2.1)
def tt_R17_Join : List (Nat × Ty) := [(3, .int .i64), (4, .bool), (22, .sl (.int .i64)), (69, .pair .bool (.pair (.sl (.int .i64)) .unit))]
def et_R17_Join : List (Nat × Nat) := [(22, 3)]
theorem tt_R17_Join_ok : subT tt tt_R17_Join = true := by kernel_rfl
theorem et_R17_Join_ok : subE et et_R17_Join = true := by kernel_rfl
noncomputable def E_R17_Join (fns : List (Nat × (List AV → Option AV))) : Env := ⟨0, 0, et_R17_Join, tt_R17_Join, fns, [], [], [(0, [1, 2, 4]), (1, [1, 2, 4, 8]), (2, [4, 5]), (3, [1, 2, 4, 15]), (4, [4, 5]), (5, [1, 2, 4, 21]), (6, [4, 5]), (7, [1, 2, 4, 31]), (8, [4, 5]), (9, [2, 4]), (10, [4, 5])]⟩
set_option maxRecDepth 100000 in
set_option maxHeartbeats 4000000 in
theorem c_R17_Join : PCon Go.Proofs.Try.prog 39 lf_R17_Join := by
  obtain ⟨G47, hG47, cG47⟩ : ∃ G : ((.pair (.pair .bool (.pair (.sl (.int .i64)) .unit)) .unit) : Ty).den → Option Bool, (∀ x, G x = R17_Fine x.1) ∧ PCon Go.Proofs.Try.prog 47 (liftF (.pair (.pair .bool (.pair (.sl (.int .i64)) .unit)) .unit) (unpack .bool) G) := ⟨_, fun _ => rfl, c_R17_Fine⟩
  obtain ⟨G73, hG73, cG73⟩ : ∃ G : ((.pair (.sl (.int .i64)) (.pair (.int .i64) .unit)) : Ty).den → Option Int, (∀ x, G x = R17_At x.1 x.2.1) ∧ PCon Go.Proofs.Try.prog 73 (liftF (.pair (.sl (.int .i64)) (.pair (.int .i64) .unit)) (unpack (.int .i64)) G) := ⟨_, fun _ => rfl, c_R17_At⟩
  obtain ⟨fns, hfns, hf⟩ : ∃ fns, fns = [(47, liftF (.pair (.pair .bool (.pair (.sl (.int .i64)) .unit)) .unit) (unpack .bool) G47), (73, liftF (.pair (.sl (.int .i64)) (.pair (.int .i64) .unit)) (unpack (.int .i64)) G73)] ∧ FnsOk Go.Proofs.Try.prog fns := ⟨_, rfl, FnsOk.cons cG47 (FnsOk.cons cG73 (FnsOk.nil _))⟩
  refine lift_con (E := E_R17_Join fns) (c := bodyOf Try.f39) (nt := 41) (rs := [.cell 4 69, .tmp 5]) (ts := [69, 3]) (EnvC.sub tt_ok et_ok hf (PrsOk.nil _) tt_R17_Join_ok et_R17_Join_ok) (PrOk.of mixed_ok) Go.Proofs.Try.func39 rfl (by decide) rfl rfl rfl (pureR_many (e := (.pair (.pair .bool (.pair (.sl (.int .i64)) .unit)) (.pair (.int .i64) .unit))) rfl) ?_
  subst hfns
  intro x r hw hs
  repeat'
    (try (conv => whnf)
     first
       | (have hs := letv_out hs)
       | (refine br_bool (fun h => ?_) (fun h => ?_) <;> first | have hs := cT h hs | have hs := cF h hs)
       | (refine bind_elim hs fun v hb hs => ?_; first | refine callK_lift rfl ((hG47 _).trans hb) ?_ | refine callK_lift rfl ((hG73 _).trans hb) ?_)
       | refine chk_elim hs fun hs => ?_
       | exact fin_some hs rfl
       | (intro b hb; first | have hs := nilq_elim hs b hb | have hs := nilqn_elim hs b hb)
       | (have hs := cT rfl hs)
       | (have hs := cF rfl hs)
       | exact (none_ne hs).elim
       | (refine draw_and (by kernel_rfl) ?_))
noncomputable def lf_R17_Leave : List AV → Option AV := liftF (.pair (.pair .bool (.pair (.sl (.int .i64)) .unit)) (.pair (.int .i64) .unit)) (unpR (.pair (.pair .bool (.pair (.sl (.int .i64)) .unit)) (.pair .bool .unit))) (fun x => R17_Leave x.1 x.2.1)
def tt_R17_Leave : List (Nat × Ty) := [(3, .int .i64), (4, .bool), (22, .sl (.int .i64)), (69, .pair .bool (.pair (.sl (.int .i64)) .unit))]
def et_R17_Leave : List (Nat × Nat) := [(22, 3)]
theorem tt_R17_Leave_ok : subT tt tt_R17_Leave = true := by kernel_rfl
theorem et_R17_Leave_ok : subE et et_R17_Leave = true := by kernel_rfl
noncomputable def E_R17_Leave (fns : List (Nat × (List AV → Option AV))) : Env := ⟨0, 0, et_R17_Leave, tt_R17_Leave, fns, [], [(4, [0, 1, 2, 3, 5, 6, 7, 8, 9, 4, 100010, 11, 100012])], [(0, [1, 2, 4]), (1, [2, 4, 6]), (2, [2, 4, 6, 17]), (3, [4, 5]), (4, [2, 4]), (5, [4, 5])]⟩
set_option maxRecDepth 100000 in
set_option maxHeartbeats 4000000 in
theorem c_R17_Leave : PCon Go.Proofs.Try.prog 41 lf_R17_Leave := by
  obtain ⟨G47, hG47, cG47⟩ : ∃ G : ((.pair (.pair .bool (.pair (.sl (.int .i64)) .unit)) .unit) : Ty).den → Option Bool, (∀ x, G x = R17_Fine x.1) ∧ PCon Go.Proofs.Try.prog 47 (liftF (.pair (.pair .bool (.pair (.sl (.int .i64)) .unit)) .unit) (unpack .bool) G) := ⟨_, fun _ => rfl, c_R17_Fine⟩
  obtain ⟨G73, hG73, cG73⟩ : ∃ G : ((.pair (.sl (.int .i64)) (.pair (.int .i64) .unit)) : Ty).den → Option Int, (∀ x, G x = R17_At x.1 x.2.1) ∧ PCon Go.Proofs.Try.prog 73 (liftF (.pair (.sl (.int .i64)) (.pair (.int .i64) .unit)) (unpack (.int .i64)) G) := ⟨_, fun _ => rfl, c_R17_At⟩
  obtain ⟨fns, hfns, hf⟩ : ∃ fns, fns = [(47, liftF (.pair (.pair .bool (.pair (.sl (.int .i64)) .unit)) .unit) (unpack .bool) G47), (73, liftF (.pair (.sl (.int .i64)) (.pair (.int .i64) .unit)) (unpack (.int .i64)) G73)] ∧ FnsOk Go.Proofs.Try.prog fns := ⟨_, rfl, FnsOk.cons cG47 (FnsOk.cons cG73 (FnsOk.nil _))⟩
  refine lift_con (E := E_R17_Leave fns) (c := bodyOf Try.f41) (nt := 32) (rs := [.cell 4 69, .tmp 5]) (ts := [69, 4]) (EnvC.sub tt_ok et_ok hf (PrsOk.nil _) tt_R17_Leave_ok et_R17_Leave_ok) (PrOk.of mixed_ok) Go.Proofs.Try.func41 rfl (by decide) rfl rfl rfl (pureR_many (e := (.pair (.pair .bool (.pair (.sl (.int .i64)) .unit)) (.pair .bool .unit))) rfl) ?_
  subst hfns
  intro x r hw hs
  repeat'
    (try (conv => whnf)
     first
       | (have hs := letv_out hs)
       | (refine br_bool (fun h => ?_) (fun h => ?_) <;> first | have hs := cT h hs | have hs := cF h hs)
       | (refine bind_elim hs fun v hb hs => ?_; first | refine callK_lift rfl ((hG47 _).trans hb) ?_ | refine callK_lift rfl ((hG73 _).trans hb) ?_)
       | refine chk_elim hs fun hs => ?_
       | exact fin_some hs rfl
       | (intro b hb; first | have hs := nilq_elim hs b hb | have hs := nilqn_elim hs b hb)
       | (have hs := cT rfl hs)
       | (have hs := cF rfl hs)
       | exact (none_ne hs).elim
       | (refine draw_and (by kernel_rfl) ?_))
noncomputable def lf_R17_Head : List AV → Option AV := liftF (.pair (.pair .bool (.pair (.sl (.int .i64)) .unit)) .unit) (unpR (.pair (.int .i64) (.pair .bool .unit))) (fun x => R17_Head x.1)
def tt_R17_Head : List (Nat × Ty) := [(3, .int .i64), (4, .bool), (22, .sl (.int .i64)), (69, .pair .bool (.pair (.sl (.int .i64)) .unit))]
def et_R17_Head : List (Nat × Nat) := [(22, 3)]
theorem tt_R17_Head_ok : subT tt tt_R17_Head = true := by kernel_rfl
theorem et_R17_Head_ok : subE et et_R17_Head = true := by kernel_rfl
noncomputable def E_R17_Head (fns : List (Nat × (List AV → Option AV))) : Env := ⟨0, 0, et_R17_Head, tt_R17_Head, fns, [], [], [(0, [1]), (1, [1, 12]), (2, [2, 3]), (3, [2, 3])]⟩
set_option maxRecDepth 100000 in
set_option maxHeartbeats 4000000 in
theorem c_R17_Head : PCon Go.Proofs.Try.prog 43 lf_R17_Head := by
  obtain ⟨G47, hG47, cG47⟩ : ∃ G : ((.pair (.pair .bool (.pair (.sl (.int .i64)) .unit)) .unit) : Ty).den → Option Bool, (∀ x, G x = R17_Fine x.1) ∧ PCon Go.Proofs.Try.prog 47 (liftF (.pair (.pair .bool (.pair (.sl (.int .i64)) .unit)) .unit) (unpack .bool) G) := ⟨_, fun _ => rfl, c_R17_Fine⟩
  obtain ⟨fns, hfns, hf⟩ : ∃ fns, fns = [(47, liftF (.pair (.pair .bool (.pair (.sl (.int .i64)) .unit)) .unit) (unpack .bool) G47)] ∧ FnsOk Go.Proofs.Try.prog fns := ⟨_, rfl, FnsOk.cons cG47 (FnsOk.nil _)⟩
  refine lift_con (E := E_R17_Head fns) (c := bodyOf Try.f43) (nt := 17) (rs := [.tmp 2, .tmp 3]) (ts := [3, 4]) (EnvC.sub tt_ok et_ok hf (PrsOk.nil _) tt_R17_Head_ok et_R17_Head_ok) (PrOk.of mixed_ok) Go.Proofs.Try.func43 rfl (by decide) rfl rfl rfl (pureR_many (e := (.pair (.int .i64) (.pair .bool .unit))) rfl) ?_
  subst hfns
  intro x r hw hs
  repeat'
    (try (conv => whnf)
     first
       | (have hs := letv_out hs)
       | (refine br_bool (fun h => ?_) (fun h => ?_) <;> first | have hs := cT h hs | have hs := cF h hs)
       | (refine bind_elim hs fun v hb hs => ?_; first | refine callK_lift rfl ((hG47 _).trans hb) ?_)
       | refine chk_elim hs fun hs => ?_
       | exact fin_some hs rfl
       | (intro b hb; first | have hs := nilq_elim hs b hb | have hs := nilqn_elim hs b hb)
       | (have hs := cT rfl hs)
       | (have hs := cF rfl hs)
       | exact (none_ne hs).elim
       | (refine draw_and (by kernel_rfl) ?_))
noncomputable def lf_R17_Ahead : List AV → Option AV := liftF (.pair (.pair .bool (.pair (.sl (.int .i64)) .unit)) (.pair (.int .i64) .unit)) (unpR (.pair (.int .i64) (.pair .bool .unit))) (fun x => R17_Ahead x.1 x.2.1)
def tt_R17_Ahead : List (Nat × Ty) := [(3, .int .i64), (4, .bool), (22, .sl (.int .i64)), (69, .pair .bool (.pair (.sl (.int .i64)) .unit))]
def et_R17_Ahead : List (Nat × Nat) := [(22, 3)]
theorem tt_R17_Ahead_ok : subT tt tt_R17_Ahead = true := by kernel_rfl
theorem et_R17_Ahead_ok : subE et et_R17_Ahead = true := by kernel_rfl
noncomputable def E_R17_Ahead (fns : List (Nat × (List AV → Option AV))) : Env := ⟨0, 0, et_R17_Ahead, tt_R17_Ahead, fns, [], [], [(0, [1, 2]), (1, [2, 6]), (2, [6, 17]), (3, [4, 5]), (4, [4, 5])]⟩
set_option maxRecDepth 100000 in
set_option maxHeartbeats 4000000 in
theorem c_R17_Ahead : PCon Go.Proofs.Try.prog 45 lf_R17_Ahead := by
  obtain ⟨G47, hG47, cG47⟩ : ∃ G : ((.pair (.pair .bool (.pair (.sl (.int .i64)) .unit)) .unit) : Ty).den → Option Bool, (∀ x, G x = R17_Fine x.1) ∧ PCon Go.Proofs.Try.prog 47 (liftF (.pair (.pair .bool (.pair (.sl (.int .i64)) .unit)) .unit) (unpack .bool) G) := ⟨_, fun _ => rfl, c_R17_Fine⟩
  obtain ⟨G73, hG73, cG73⟩ : ∃ G : ((.pair (.sl (.int .i64)) (.pair (.int .i64) .unit)) : Ty).den → Option Int, (∀ x, G x = R17_At x.1 x.2.1) ∧ PCon Go.Proofs.Try.prog 73 (liftF (.pair (.sl (.int .i64)) (.pair (.int .i64) .unit)) (unpack (.int .i64)) G) := ⟨_, fun _ => rfl, c_R17_At⟩
  obtain ⟨fns, hfns, hf⟩ : ∃ fns, fns = [(47, liftF (.pair (.pair .bool (.pair (.sl (.int .i64)) .unit)) .unit) (unpack .bool) G47), (73, liftF (.pair (.sl (.int .i64)) (.pair (.int .i64) .unit)) (unpack (.int .i64)) G73)] ∧ FnsOk Go.Proofs.Try.prog fns := ⟨_, rfl, FnsOk.cons cG47 (FnsOk.cons cG73 (FnsOk.nil _))⟩
  refine lift_con (E := E_R17_Ahead fns) (c := bodyOf Try.f45) (nt := 19) (rs := [.tmp 4, .tmp 5]) (ts := [3, 4]) (EnvC.sub tt_ok et_ok hf (PrsOk.nil _) tt_R17_Ahead_ok et_R17_Ahead_ok) (PrOk.of mixed_ok) Go.Proofs.Try.func45 rfl (by decide) rfl rfl rfl (pureR_many (e := (.pair (.int .i64) (.pair .bool .unit))) rfl) ?_
  subst hfns
  intro x r hw hs
  repeat'
    (try (conv => whnf)
     first
       | (have hs := letv_out hs)
       | (refine br_bool (fun h => ?_) (fun h => ?_) <;> first | have hs := cT h hs | have hs := cF h hs)
       | (refine bind_elim hs fun v hb hs => ?_; first | refine callK_lift rfl ((hG47 _).trans hb) ?_ | refine callK_lift rfl ((hG73 _).trans hb) ?_)
       | refine chk_elim hs fun hs => ?_
       | exact fin_some hs rfl
       | (intro b hb; first | have hs := nilq_elim hs b hb | have hs := nilqn_elim hs b hb)
       | (have hs := cT rfl hs)
       | (have hs := cF rfl hs)
       | exact (none_ne hs).elim
       | (refine draw_and (by kernel_rfl) ?_))
end Go.Proofs.YtoihmfgkmndjfaaV
