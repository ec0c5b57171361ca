import Derived.Test.YtbkccpddkpclaaaVcTab
import Derived.Test.YtbkccpddkpclaaaDR19
import Derived.Test.YtbkccpddkpclaaaCR18
namespace Go.Proofs.YtbkccpddkpclaaaV
open Go.Proofs
set_option linter.unusedVariables false
noncomputable def lf_R19_New : List AV → Option AV := liftF (.pair (.sl (.pair (.int .i64) (.pair (.int .i64) (.pair (.int .i64) (.pair (.int .i64) .unit))))) .unit) (unpR (.pair (.sl (.pair (.pair (.int .i64) (.pair (.int .i64) (.pair (.int .i64) (.pair (.int .i64) .unit)))) (.pair (.int .i64) (.pair (.sl (.int .i64)) (.pair (.pair .bool (.pair (.sl (.int .i64)) .unit)) (.pair (.sl (.int .i64)) (.pair (.pair .bool (.pair (.sl (.int .i64)) .unit)) .unit))))))) (.pair (.int .i64) (.pair (.int .i64) .unit)))) (fun x => R19_New x.1)
def tt_R19_New : List (Nat × Ty) := [(3, .int .i64), (23, .pair (.int .i64) (.pair (.int .i64) (.pair (.int .i64) (.pair (.int .i64) .unit)))), (28, .pair (.pair (.int .i64) (.pair (.int .i64) (.pair (.int .i64) (.pair (.int .i64) .unit)))) (.pair (.int .i64) (.pair (.sl (.int .i64)) (.pair (.pair .bool (.pair (.sl (.int .i64)) .unit)) (.pair (.sl (.int .i64)) (.pair (.pair .bool (.pair (.sl (.int .i64)) .unit)) .unit)))))), (68, .sl (.pair (.int .i64) (.pair (.int .i64) (.pair (.int .i64) (.pair (.int .i64) .unit))))), (69, .sl (.pair (.pair (.int .i64) (.pair (.int .i64) (.pair (.int .i64) (.pair (.int .i64) .unit)))) (.pair (.int .i64) (.pair (.sl (.int .i64)) (.pair (.pair .bool (.pair (.sl (.int .i64)) .unit)) (.pair (.sl (.int .i64)) (.pair (.pair .bool (.pair (.sl (.int .i64)) .unit)) .unit)))))))]
def et_R19_New : List (Nat × Nat) := [(68, 23), (69, 28)]
theorem tt_R19_New_ok : subT tt tt_R19_New = true := by kernel_rfl
theorem et_R19_New_ok : subE et et_R19_New = true := by kernel_rfl
def R19_New_S1 (u0 : AV) (u1 : AV) (x1 : Int × (List ((Int × Int × Int × Int × Unit) × Int × (List Int) × (Bool × (List Int) × Unit) × (List Int) × (Bool × (List Int) × Unit) × Unit))) : St :=
  ⟨[(0, u0), (5, u1), (6, .int .i64 x1.1)], [(33, .row 28 (.pair (.pair (.int .i64) (.pair (.int .i64) (.pair (.int .i64) (.pair (.int .i64) .unit)))) (.pair (.int .i64) (.pair (.sl (.int .i64)) (.pair (.pair .bool (.pair (.sl (.int .i64)) .unit)) (.pair (.sl (.int .i64)) (.pair (.pair .bool (.pair (.sl (.int .i64)) .unit)) .unit)))))) x1.2 false)], none⟩
def R19_New_M1 : Msk := ⟨[0, 5, 6], [33], [(5, 33, 69)], [], [], [], [], [], []⟩
noncomputable def E_R19_New (fns : List (Nat × (List AV → Option AV))) : Env := ⟨0, 0, et_R19_New, tt_R19_New, fns, [], [], [(0, [0]), (1, [0, 11]), (2, [2, 3, 4]), (3, [0, 5]), (4, [0, 5, 6]), (5, [0, 5, 6, 15]), (6, [0, 5, 6]), (7, [0, 5, 6, 7, 8]), (8, [0, 5, 6, 7, 8, 27]), (9, [2, 3, 4]), (10, [0, 5, 6]), (11, [2, 3, 4]), (4000000, []), (4000001, []), (4000002, []), (4000003, []), (4000004, []), (4000005, [33]), (4000006, [33]), (4000007, [7, 33]), (4000008, [7, 33]), (4000009, []), (4000010, [33]), (4000011, [33])], none, []⟩
set_option maxRecDepth 100000 in
set_option maxHeartbeats 40000000 in
theorem c_R19_New : PCon Go.Proofs.Try.prog 38 lf_R19_New := by
  obtain ⟨G25, hG25, cG25⟩ : ∃ G : ((.pair (.pair (.int .i64) (.pair (.int .i64) (.pair (.int .i64) (.pair (.int .i64) .unit)))) .unit) : Ty).den → Option (((Int × Int × Int × Int × Unit) × Int × (List Int) × (Bool × (List Int) × Unit) × (List Int) × (Bool × (List Int) × Unit) × Unit) × Int × Unit), (∀ x, G x = R18_New x.1) ∧ PCon Go.Proofs.Try.prog 25 (liftF (.pair (.pair (.int .i64) (.pair (.int .i64) (.pair (.int .i64) (.pair (.int .i64) .unit)))) .unit) (unpR (.pair (.pair (.pair (.int .i64) (.pair (.int .i64) (.pair (.int .i64) (.pair (.int .i64) .unit)))) (.pair (.int .i64) (.pair (.sl (.int .i64)) (.pair (.pair .bool (.pair (.sl (.int .i64)) .unit)) (.pair (.sl (.int .i64)) (.pair (.pair .bool (.pair (.sl (.int .i64)) .unit)) .unit)))))) (.pair (.int .i64) .unit))) G) := ⟨_, fun _ => rfl, c_R18_New⟩
  obtain ⟨fns, hfns, hf⟩ : ∃ fns, fns = [(25, liftF (.pair (.pair (.int .i64) (.pair (.int .i64) (.pair (.int .i64) (.pair (.int .i64) .unit)))) .unit) (unpR (.pair (.pair (.pair (.int .i64) (.pair (.int .i64) (.pair (.int .i64) (.pair (.int .i64) .unit)))) (.pair (.int .i64) (.pair (.sl (.int .i64)) (.pair (.pair .bool (.pair (.sl (.int .i64)) .unit)) (.pair (.sl (.int .i64)) (.pair (.pair .bool (.pair (.sl (.int .i64)) .unit)) .unit)))))) (.pair (.int .i64) .unit))) G25)] ∧ FnsOk Go.Proofs.Try.prog fns := ⟨_, rfl, FnsOk.cons cG25 (FnsOk.nil _)⟩
  refine lift_con (E := E_R19_New fns) (c := bodyOf Try.f38) (nt := 35) (rs := [.tmp 2, .tmp 3, .tmp 4]) (ts := [69, 3, 3]) (EnvC.sub tt_ok et_ok hf (PrsOk.nil _) (ItsOk.nil _) tt_R19_New_ok et_R19_New_ok) (PrOk.of mixed_ok) Go.Proofs.Try.func38 rfl (by decide) rfl rfl rfl (pureR_many (e := (.pair (.sl (.pair (.pair (.int .i64) (.pair (.int .i64) (.pair (.int .i64) (.pair (.int .i64) .unit)))) (.pair (.int .i64) (.pair (.sl (.int .i64)) (.pair (.pair .bool (.pair (.sl (.int .i64)) .unit)) (.pair (.sl (.int .i64)) (.pair (.pair .bool (.pair (.sl (.int .i64)) .unit)) .unit))))))) (.pair (.int .i64) (.pair (.int .i64) .unit)))) rfl) ?_
  subst hfns
  intro x r hw hs
  repeat'
    (try (conv => whnf)
     first
       | (have hs := letv_out hs)
       | (refine draw_and (by kernel_rfl) ?_)
       | (refine both_mk ?_ ?_)
       | (refine br_bool (fun h => ?_) (fun h => ?_) <;> first | have hs := cT h hs | have hs := cF h hs)
       | (refine bind_elim hs fun v hb hs => ?_; first | refine callK_liftG hG25 rfl hb ?_)
       | refine chk_elim hs fun hs => ?_
       | exact fin_some hs rfl
       | (intro b hb; first | have hs := nilq_elim hs b hb | have hs := nilqn_elim hs b hb)
       | exact hJ1 _ hs
       | (have hs := cT rfl hs)
       | (have hs := cF rfl hs)
       | (refine vc_loop (R19_New_S1 _ _) R19_New_M1 hs rfl ?_; intro J1 k1 x1 hJ1 hs)
       | exact (none_ne hs).elim)
noncomputable def lf_R19_Moves : List AV → Option AV := liftF (.pair (.sl (.pair (.pair (.int .i64) (.pair (.int .i64) (.pair (.int .i64) (.pair (.int .i64) .unit)))) (.pair (.int .i64) (.pair (.sl (.int .i64)) (.pair (.pair .bool (.pair (.sl (.int .i64)) .unit)) (.pair (.sl (.int .i64)) (.pair (.pair .bool (.pair (.sl (.int .i64)) .unit)) .unit))))))) .unit) (unpack (.sl (.pair (.int .i64) (.pair (.int .i64) .unit)))) (fun x => R19_Moves x.1)
def tt_R19_Moves : List (Nat × Ty) := [(3, .int .i64), (24, .sl (.int .i64)), (28, .pair (.pair (.int .i64) (.pair (.int .i64) (.pair (.int .i64) (.pair (.int .i64) .unit)))) (.pair (.int .i64) (.pair (.sl (.int .i64)) (.pair (.pair .bool (.pair (.sl (.int .i64)) .unit)) (.pair (.sl (.int .i64)) (.pair (.pair .bool (.pair (.sl (.int .i64)) .unit)) .unit)))))), (69, .sl (.pair (.pair (.int .i64) (.pair (.int .i64) (.pair (.int .i64) (.pair (.int .i64) .unit)))) (.pair (.int .i64) (.pair (.sl (.int .i64)) (.pair (.pair .bool (.pair (.sl (.int .i64)) .unit)) (.pair (.sl (.int .i64)) (.pair (.pair .bool (.pair (.sl (.int .i64)) .unit)) .unit))))))), (79, .sl (.pair (.int .i64) (.pair (.int .i64) .unit))), (86, .pair (.int .i64) (.pair (.int .i64) .unit))]
def et_R19_Moves : List (Nat × Nat) := [(24, 3), (69, 28), (79, 86)]
theorem tt_R19_Moves_ok : subT tt tt_R19_Moves = true := by kernel_rfl
theorem et_R19_Moves_ok : subE et et_R19_Moves = true := by kernel_rfl
def R19_Moves_S1 (u0 : AV) (u1 : AV) (u2 : AV) (u3 : AV) (x2 : Int × (List (Int × Int × Unit))) : St :=
  ⟨[(0, u0), (3, u1), (4, u2), (5, u3), (6, .int .i64 x2.1)], [(32, .row 86 (.pair (.int .i64) (.pair (.int .i64) .unit)) x2.2 false)], none⟩
def R19_Moves_M1 : Msk := ⟨[0, 3, 4, 5, 6], [32], [], [], [], [], [], [], []⟩
def R19_Moves_S2 (u0 : AV) (u1 : AV) (x1 : Int × (List (Int × Int × Unit))) : St :=
  ⟨[(0, u0), (3, u1), (4, .int .i64 x1.1)], [(32, .row 86 (.pair (.int .i64) (.pair (.int .i64) .unit)) x1.2 false)], none⟩
def R19_Moves_M2 : Msk := ⟨[0, 3, 4], [32], [(3, 32, 79)], [], [], [], [], [], []⟩
noncomputable def E_R19_Moves (fns : List (Nat × (List AV → Option AV))) : Env := ⟨0, 0, et_R19_Moves, tt_R19_Moves, fns, [], [], [(0, [0]), (1, [0, 3]), (2, [0, 3, 4]), (3, [0, 3, 4, 10]), (4, [0, 3, 4]), (5, [0, 3, 4, 5]), (6, [0, 3, 4, 5, 6]), (7, [0, 3, 4, 5, 6, 21]), (8, [0, 3, 4, 5, 6]), (9, [0, 3, 4, 5, 6]), (10, [2]), (4000000, []), (4000001, []), (4000002, []), (4000003, [32]), (4000004, [32]), (4000005, [32]), (4000006, [32]), (4000007, [32]), (4000008, [32]), (4000009, [32]), (4000010, [32])], none, []⟩
set_option maxRecDepth 100000 in
set_option maxHeartbeats 40000000 in
theorem c_R19_Moves : PCon Go.Proofs.Try.prog 41 lf_R19_Moves := by
  obtain ⟨G32, hG32, cG32⟩ : ∃ G : ((.pair (.pair (.pair (.int .i64) (.pair (.int .i64) (.pair (.int .i64) (.pair (.int .i64) .unit)))) (.pair (.int .i64) (.pair (.sl (.int .i64)) (.pair (.pair .bool (.pair (.sl (.int .i64)) .unit)) (.pair (.sl (.int .i64)) (.pair (.pair .bool (.pair (.sl (.int .i64)) .unit)) .unit)))))) .unit) : Ty).den → Option (List Int), (∀ x, G x = R18_What x.1) ∧ PCon Go.Proofs.Try.prog 32 (liftF (.pair (.pair (.pair (.int .i64) (.pair (.int .i64) (.pair (.int .i64) (.pair (.int .i64) .unit)))) (.pair (.int .i64) (.pair (.sl (.int .i64)) (.pair (.pair .bool (.pair (.sl (.int .i64)) .unit)) (.pair (.sl (.int .i64)) (.pair (.pair .bool (.pair (.sl (.int .i64)) .unit)) .unit)))))) .unit) (unpack (.sl (.int .i64))) G) := ⟨_, fun _ => rfl, c_R18_What⟩
  obtain ⟨fns, hfns, hf⟩ : ∃ fns, fns = [(32, liftF (.pair (.pair (.pair (.int .i64) (.pair (.int .i64) (.pair (.int .i64) (.pair (.int .i64) .unit)))) (.pair (.int .i64) (.pair (.sl (.int .i64)) (.pair (.pair .bool (.pair (.sl (.int .i64)) .unit)) (.pair (.sl (.int .i64)) (.pair (.pair .bool (.pair (.sl (.int .i64)) .unit)) .unit)))))) .unit) (unpack (.sl (.int .i64))) G32)] ∧ FnsOk Go.Proofs.Try.prog fns := ⟨_, rfl, FnsOk.cons cG32 (FnsOk.nil _)⟩
  refine lift_con (E := E_R19_Moves fns) (c := bodyOf Try.f41) (nt := 34) (rs := [.tmp 2]) (ts := [79]) (EnvC.sub tt_ok et_ok hf (PrsOk.nil _) (ItsOk.nil _) tt_R19_Moves_ok et_R19_Moves_ok) (PrOk.of mixed_ok) Go.Proofs.Try.func41 rfl (by decide) rfl rfl rfl (pureR_one (e := (.sl (.pair (.int .i64) (.pair (.int .i64) .unit)))) rfl) ?_
  subst hfns
  intro x r hw hs
  repeat'
    (try (conv => whnf)
     first
       | (have hs := letv_out hs)
       | (refine draw_and (by kernel_rfl) ?_)
       | (refine both_mk ?_ ?_)
       | (refine br_bool (fun h => ?_) (fun h => ?_) <;> first | have hs := cT h hs | have hs := cF h hs)
       | (refine bind_elim hs fun v hb hs => ?_; first | refine callK_liftG hG32 rfl hb ?_)
       | refine chk_elim hs fun hs => ?_
       | exact fin_some hs rfl
       | (intro b hb; first | have hs := nilq_elim hs b hb | have hs := nilqn_elim hs b hb)
       | exact hJ1 _ hs
       | exact hJ2 _ hs
       | (have hs := cT rfl hs)
       | (have hs := cF rfl hs)
       | (refine vc_loop (R19_Moves_S1 _ _ _ _) R19_Moves_M1 hs rfl ?_; intro J1 k1 x1 hJ1 hs)
       | (refine vc_loop (R19_Moves_S2 _ _) R19_Moves_M2 hs rfl ?_; intro J2 k2 x2 hJ2 hs)
       | exact (none_ne hs).elim)
noncomputable def lf_R19_Hits : List AV → Option AV := liftF (.pair (.sl (.pair (.pair (.int .i64) (.pair (.int .i64) (.pair (.int .i64) (.pair (.int .i64) .unit)))) (.pair (.int .i64) (.pair (.sl (.int .i64)) (.pair (.pair .bool (.pair (.sl (.int .i64)) .unit)) (.pair (.sl (.int .i64)) (.pair (.pair .bool (.pair (.sl (.int .i64)) .unit)) .unit))))))) (.pair (.int .i64) .unit)) (unpack (.sl (.int .i64))) (fun x => R19_Hits x.1 x.2.1)
def tt_R19_Hits : List (Nat × Ty) := [(3, .int .i64), (24, .sl (.int .i64)), (28, .pair (.pair (.int .i64) (.pair (.int .i64) (.pair (.int .i64) (.pair (.int .i64) .unit)))) (.pair (.int .i64) (.pair (.sl (.int .i64)) (.pair (.pair .bool (.pair (.sl (.int .i64)) .unit)) (.pair (.sl (.int .i64)) (.pair (.pair .bool (.pair (.sl (.int .i64)) .unit)) .unit)))))), (69, .sl (.pair (.pair (.int .i64) (.pair (.int .i64) (.pair (.int .i64) (.pair (.int .i64) .unit)))) (.pair (.int .i64) (.pair (.sl (.int .i64)) (.pair (.pair .bool (.pair (.sl (.int .i64)) .unit)) (.pair (.sl (.int .i64)) (.pair (.pair .bool (.pair (.sl (.int .i64)) .unit)) .unit)))))))]
def et_R19_Hits : List (Nat × Nat) := [(24, 3), (69, 28)]
theorem tt_R19_Hits_ok : subT tt tt_R19_Hits = true := by kernel_rfl
theorem et_R19_Hits_ok : subE et et_R19_Hits = true := by kernel_rfl
def R19_Hits_S1 (u0 : AV) (u1 : AV) (u2 : AV) (x1 : Int × List Int) : St :=
  ⟨[(0, u0), (1, u1), (5, u2), (6, .int .i64 x1.1)], [(22, .row 3 (.int .i64) x1.2 false)], none⟩
def R19_Hits_M1 : Msk := ⟨[0, 1, 5, 6], [22], [(5, 22, 24)], [], [], [], [], [], []⟩
noncomputable def E_R19_Hits (fns : List (Nat × (List AV → Option AV))) : Env := ⟨0, 0, et_R19_Hits, tt_R19_Hits, fns, [], [], [(0, [0, 1]), (1, [0, 1, 5]), (2, [0, 1, 5, 6]), (3, [0, 1, 5, 6, 10]), (4, [0, 1, 5, 6]), (5, [0, 1, 5, 6, 18]), (6, [0, 1, 5, 6]), (7, [4]), (4000000, []), (4000001, []), (4000002, []), (4000003, [22]), (4000004, [22]), (4000005, [22]), (4000006, [22]), (4000007, [22])], none, []⟩
set_option maxRecDepth 100000 in
set_option maxHeartbeats 40000000 in
theorem c_R19_Hits : PCon Go.Proofs.Try.prog 45 lf_R19_Hits := by
  obtain ⟨G30, hG30, cG30⟩ : ∃ G : ((.pair (.pair (.pair (.int .i64) (.pair (.int .i64) (.pair (.int .i64) (.pair (.int .i64) .unit)))) (.pair (.int .i64) (.pair (.sl (.int .i64)) (.pair (.pair .bool (.pair (.sl (.int .i64)) .unit)) (.pair (.sl (.int .i64)) (.pair (.pair .bool (.pair (.sl (.int .i64)) .unit)) .unit)))))) (.pair (.int .i64) .unit)) : Ty).den → Option Bool, (∀ x, G x = R18_Hit x.1 x.2.1) ∧ PCon Go.Proofs.Try.prog 30 (liftF (.pair (.pair (.pair (.int .i64) (.pair (.int .i64) (.pair (.int .i64) (.pair (.int .i64) .unit)))) (.pair (.int .i64) (.pair (.sl (.int .i64)) (.pair (.pair .bool (.pair (.sl (.int .i64)) .unit)) (.pair (.sl (.int .i64)) (.pair (.pair .bool (.pair (.sl (.int .i64)) .unit)) .unit)))))) (.pair (.int .i64) .unit)) (unpack .bool) G) := ⟨_, fun _ => rfl, c_R18_Hit⟩
  obtain ⟨fns, hfns, hf⟩ : ∃ fns, fns = [(30, liftF (.pair (.pair (.pair (.int .i64) (.pair (.int .i64) (.pair (.int .i64) (.pair (.int .i64) .unit)))) (.pair (.int .i64) (.pair (.sl (.int .i64)) (.pair (.pair .bool (.pair (.sl (.int .i64)) .unit)) (.pair (.sl (.int .i64)) (.pair (.pair .bool (.pair (.sl (.int .i64)) .unit)) .unit)))))) (.pair (.int .i64) .unit)) (unpack .bool) G30)] ∧ FnsOk Go.Proofs.Try.prog fns := ⟨_, rfl, FnsOk.cons cG30 (FnsOk.nil _)⟩
  refine lift_con (E := E_R19_Hits fns) (c := bodyOf Try.f45) (nt := 24) (rs := [.tmp 4]) (ts := [24]) (EnvC.sub tt_ok et_ok hf (PrsOk.nil _) (ItsOk.nil _) tt_R19_Hits_ok et_R19_Hits_ok) (PrOk.of mixed_ok) Go.Proofs.Try.func45 rfl (by decide) rfl rfl rfl (pureR_one (e := (.sl (.int .i64))) rfl) ?_
  subst hfns
  intro x r hw hs
  repeat'
    (try (conv => whnf)
     first
       | (have hs := letv_out hs)
       | (refine draw_and (by kernel_rfl) ?_)
       | (refine both_mk ?_ ?_)
       | (refine br_bool (fun h => ?_) (fun h => ?_) <;> first | have hs := cT h hs | have hs := cF h hs)
       | (refine bind_elim hs fun v hb hs => ?_; first | refine callK_liftG hG30 rfl hb ?_)
       | refine chk_elim hs fun hs => ?_
       | exact fin_some hs rfl
       | (intro b hb; first | have hs := nilq_elim hs b hb | have hs := nilqn_elim hs b hb)
       | exact hJ1 _ hs
       | (have hs := cT rfl hs)
       | (have hs := cF rfl hs)
       | (refine vc_loop (R19_Hits_S1 _ _ _) R19_Hits_M1 hs rfl ?_; intro J1 k1 x1 hJ1 hs)
       | exact (none_ne hs).elim)
noncomputable def lf_R19_Is : List AV → Option AV := liftF (.pair (.sl (.pair (.pair (.int .i64) (.pair (.int .i64) (.pair (.int .i64) (.pair (.int .i64) .unit)))) (.pair (.int .i64) (.pair (.sl (.int .i64)) (.pair (.pair .bool (.pair (.sl (.int .i64)) .unit)) (.pair (.sl (.int .i64)) (.pair (.pair .bool (.pair (.sl (.int .i64)) .unit)) .unit))))))) (.pair (.int .i64) .unit)) (unpack .bool) (fun x => R19_Is x.1 x.2.1)
def tt_R19_Is : List (Nat × Ty) := [(3, .int .i64), (4, .bool), (69, .sl (.pair (.pair (.int .i64) (.pair (.int .i64) (.pair (.int .i64) (.pair (.int .i64) .unit)))) (.pair (.int .i64) (.pair (.sl (.int .i64)) (.pair (.pair .bool (.pair (.sl (.int .i64)) .unit)) (.pair (.sl (.int .i64)) (.pair (.pair .bool (.pair (.sl (.int .i64)) .unit)) .unit)))))))]
def et_R19_Is : List (Nat × Nat) := [(69, 28)]
theorem tt_R19_Is_ok : subT tt tt_R19_Is = true := by kernel_rfl
theorem et_R19_Is_ok : subE et et_R19_Is = true := by kernel_rfl
noncomputable def E_R19_Is (fns : List (Nat × (List AV → Option AV))) : Env := ⟨0, 0, et_R19_Is, tt_R19_Is, fns, [], [], [(0, [0, 1]), (1, [4]), (4000000, []), (4000001, [])], none, []⟩
set_option maxRecDepth 100000 in
set_option maxHeartbeats 40000000 in
theorem c_R19_Is : PCon Go.Proofs.Try.prog 81 lf_R19_Is := by
  obtain ⟨fns, hfns, hf⟩ : ∃ fns, fns = [] ∧ FnsOk Go.Proofs.Try.prog fns := ⟨_, rfl, FnsOk.nil _⟩
  refine lift_con (E := E_R19_Is fns) (c := bodyOf Try.f81) (nt := 13) (rs := [.tmp 4]) (ts := [4]) (EnvC.sub tt_ok et_ok hf (PrsOk.nil _) (ItsOk.nil _) tt_R19_Is_ok et_R19_Is_ok) (PrOk.of mixed_ok) Go.Proofs.Try.func81 rfl (by decide) rfl rfl rfl (pureR_one (e := .bool) rfl) ?_
  subst hfns
  intro x r hw hs
  repeat'
    (try (conv => whnf)
     first
       | (have hs := letv_out hs)
       | (refine draw_and (by kernel_rfl) ?_)
       | (refine both_mk ?_ ?_)
       | (refine br_bool (fun h => ?_) (fun h => ?_) <;> first | have hs := cT h hs | have hs := cF h hs)
       | refine chk_elim hs fun hs => ?_
       | exact fin_some hs rfl
       | (intro b hb; first | have hs := nilq_elim hs b hb | have hs := nilqn_elim hs b hb)
       | (have hs := cT rfl hs)
       | (have hs := cF rfl hs)
       | exact (none_ne hs).elim)
noncomputable def lf_R19_put : List AV → Option AV := liftF (.pair (.sl (.pair (.pair (.int .i64) (.pair (.int .i64) (.pair (.int .i64) (.pair (.int .i64) .unit)))) (.pair (.int .i64) (.pair (.sl (.int .i64)) (.pair (.pair .bool (.pair (.sl (.int .i64)) .unit)) (.pair (.sl (.int .i64)) (.pair (.pair .bool (.pair (.sl (.int .i64)) .unit)) .unit))))))) (.pair (.int .i64) (.pair (.pair (.pair (.int .i64) (.pair (.int .i64) (.pair (.int .i64) (.pair (.int .i64) .unit)))) (.pair (.int .i64) (.pair (.sl (.int .i64)) (.pair (.pair .bool (.pair (.sl (.int .i64)) .unit)) (.pair (.sl (.int .i64)) (.pair (.pair .bool (.pair (.sl (.int .i64)) .unit)) .unit)))))) .unit))) (unpack (.sl (.pair (.pair (.int .i64) (.pair (.int .i64) (.pair (.int .i64) (.pair (.int .i64) .unit)))) (.pair (.int .i64) (.pair (.sl (.int .i64)) (.pair (.pair .bool (.pair (.sl (.int .i64)) .unit)) (.pair (.sl (.int .i64)) (.pair (.pair .bool (.pair (.sl (.int .i64)) .unit)) .unit)))))))) (fun x => R19_put x.1 x.2.1 x.2.2.1)
def tt_R19_put : List (Nat × Ty) := [(28, .pair (.pair (.int .i64) (.pair (.int .i64) (.pair (.int .i64) (.pair (.int .i64) .unit)))) (.pair (.int .i64) (.pair (.sl (.int .i64)) (.pair (.pair .bool (.pair (.sl (.int .i64)) .unit)) (.pair (.sl (.int .i64)) (.pair (.pair .bool (.pair (.sl (.int .i64)) .unit)) .unit)))))), (69, .sl (.pair (.pair (.int .i64) (.pair (.int .i64) (.pair (.int .i64) (.pair (.int .i64) .unit)))) (.pair (.int .i64) (.pair (.sl (.int .i64)) (.pair (.pair .bool (.pair (.sl (.int .i64)) .unit)) (.pair (.sl (.int .i64)) (.pair (.pair .bool (.pair (.sl (.int .i64)) .unit)) .unit)))))))]
def et_R19_put : List (Nat × Nat) := [(69, 28)]
theorem tt_R19_put_ok : subT tt tt_R19_put = true := by kernel_rfl
theorem et_R19_put_ok : subE et et_R19_put = true := by kernel_rfl
noncomputable def E_R19_put (fns : List (Nat × (List AV → Option AV))) : Env := ⟨0, 0, et_R19_put, tt_R19_put, fns, [], [], [(0, [0, 1, 5]), (1, [1, 5, 7]), (2, [7]), (3, [6]), (4000000, [5]), (4000001, [5, 9]), (4000002, [9]), (4000003, [9])], none, []⟩
set_option maxRecDepth 100000 in
set_option maxHeartbeats 40000000 in
theorem c_R19_put : PCon Go.Proofs.Try.prog 82 lf_R19_put := by
  obtain ⟨fns, hfns, hf⟩ : ∃ fns, fns = [] ∧ FnsOk Go.Proofs.Try.prog fns := ⟨_, rfl, FnsOk.nil _⟩
  refine lift_con (E := E_R19_put fns) (c := bodyOf Try.f82) (nt := 15) (rs := [.tmp 6]) (ts := [69]) (EnvC.sub tt_ok et_ok hf (PrsOk.nil _) (ItsOk.nil _) tt_R19_put_ok et_R19_put_ok) (PrOk.of mixed_ok) Go.Proofs.Try.func82 rfl (by decide) rfl rfl rfl (pureR_one (e := (.sl (.pair (.pair (.int .i64) (.pair (.int .i64) (.pair (.int .i64) (.pair (.int .i64) .unit)))) (.pair (.int .i64) (.pair (.sl (.int .i64)) (.pair (.pair .bool (.pair (.sl (.int .i64)) .unit)) (.pair (.sl (.int .i64)) (.pair (.pair .bool (.pair (.sl (.int .i64)) .unit)) .unit)))))))) rfl) ?_
  subst hfns
  intro x r hw hs
  repeat'
    (try (conv => whnf)
     first
       | (have hs := letv_out hs)
       | (refine draw_and (by kernel_rfl) ?_)
       | (refine both_mk ?_ ?_)
       | (refine br_bool (fun h => ?_) (fun h => ?_) <;> first | have hs := cT h hs | have hs := cF h hs)
       | refine chk_elim hs fun hs => ?_
       | exact fin_some hs rfl
       | (intro b hb; first | have hs := nilq_elim hs b hb | have hs := nilqn_elim hs b hb)
       | (have hs := cT rfl hs)
       | (have hs := cF rfl hs)
       | exact (none_ne hs).elim)
noncomputable def lf_R19_Poison : List AV → Option AV := liftF (.pair (.sl (.pair (.pair (.int .i64) (.pair (.int .i64) (.pair (.int .i64) (.pair (.int .i64) .unit)))) (.pair (.int .i64) (.pair (.sl (.int .i64)) (.pair (.pair .bool (.pair (.sl (.int .i64)) .unit)) (.pair (.sl (.int .i64)) (.pair (.pair .bool (.pair (.sl (.int .i64)) .unit)) .unit))))))) (.pair (.int .i64) (.pair (.int .i64) .unit))) (unpR (.pair (.sl (.pair (.pair (.int .i64) (.pair (.int .i64) (.pair (.int .i64) (.pair (.int .i64) .unit)))) (.pair (.int .i64) (.pair (.sl (.int .i64)) (.pair (.pair .bool (.pair (.sl (.int .i64)) .unit)) (.pair (.sl (.int .i64)) (.pair (.pair .bool (.pair (.sl (.int .i64)) .unit)) .unit))))))) (.pair (.int .i64) .unit))) (fun x => R19_Poison x.1 x.2.1 x.2.2.1)
def tt_R19_Poison : List (Nat × Ty) := [(3, .int .i64), (4, .bool), (28, .pair (.pair (.int .i64) (.pair (.int .i64) (.pair (.int .i64) (.pair (.int .i64) .unit)))) (.pair (.int .i64) (.pair (.sl (.int .i64)) (.pair (.pair .bool (.pair (.sl (.int .i64)) .unit)) (.pair (.sl (.int .i64)) (.pair (.pair .bool (.pair (.sl (.int .i64)) .unit)) .unit)))))), (69, .sl (.pair (.pair (.int .i64) (.pair (.int .i64) (.pair (.int .i64) (.pair (.int .i64) .unit)))) (.pair (.int .i64) (.pair (.sl (.int .i64)) (.pair (.pair .bool (.pair (.sl (.int .i64)) .unit)) (.pair (.sl (.int .i64)) (.pair (.pair .bool (.pair (.sl (.int .i64)) .unit)) .unit)))))))]
def et_R19_Poison : List (Nat × Nat) := [(69, 28)]
theorem tt_R19_Poison_ok : subT tt tt_R19_Poison = true := by kernel_rfl
theorem et_R19_Poison_ok : subE et et_R19_Poison = true := by kernel_rfl
noncomputable def E_R19_Poison (fns : List (Nat × (List AV → Option AV))) : Env := ⟨0, 0, et_R19_Poison, tt_R19_Poison, fns, [], [], [(0, [0, 1, 2]), (1, [0, 1, 2, 13]), (2, [6, 7]), (3, [0, 1, 8, 9]), (4, [0, 1, 8, 9, 25]), (5, [6, 7]), (6, [6, 7]), (4000000, []), (4000001, []), (4000002, []), (4000003, [8]), (4000004, [8]), (4000005, []), (4000006, [])], none, []⟩
set_option maxRecDepth 100000 in
set_option maxHeartbeats 40000000 in
theorem c_R19_Poison : PCon Go.Proofs.Try.prog 50 lf_R19_Poison := by
  obtain ⟨G17, hG17, cG17⟩ : ∃ G : ((.pair (.pair (.pair (.int .i64) (.pair (.int .i64) (.pair (.int .i64) (.pair (.int .i64) .unit)))) (.pair (.int .i64) (.pair (.sl (.int .i64)) (.pair (.pair .bool (.pair (.sl (.int .i64)) .unit)) (.pair (.sl (.int .i64)) (.pair (.pair .bool (.pair (.sl (.int .i64)) .unit)) .unit)))))) (.pair (.int .i64) .unit)) : Ty).den → Option (((Int × Int × Int × Int × Unit) × Int × (List Int) × (Bool × (List Int) × Unit) × (List Int) × (Bool × (List Int) × Unit) × Unit) × Int × Unit), (∀ x, G x = R18_Poison x.1 x.2.1) ∧ PCon Go.Proofs.Try.prog 17 (liftF (.pair (.pair (.pair (.int .i64) (.pair (.int .i64) (.pair (.int .i64) (.pair (.int .i64) .unit)))) (.pair (.int .i64) (.pair (.sl (.int .i64)) (.pair (.pair .bool (.pair (.sl (.int .i64)) .unit)) (.pair (.sl (.int .i64)) (.pair (.pair .bool (.pair (.sl (.int .i64)) .unit)) .unit)))))) (.pair (.int .i64) .unit)) (unpR (.pair (.pair (.pair (.int .i64) (.pair (.int .i64) (.pair (.int .i64) (.pair (.int .i64) .unit)))) (.pair (.int .i64) (.pair (.sl (.int .i64)) (.pair (.pair .bool (.pair (.sl (.int .i64)) .unit)) (.pair (.sl (.int .i64)) (.pair (.pair .bool (.pair (.sl (.int .i64)) .unit)) .unit)))))) (.pair (.int .i64) .unit))) G) := ⟨_, fun _ => rfl, c_R18_Poison⟩
  obtain ⟨G81, hG81, cG81⟩ : ∃ G : ((.pair (.sl (.pair (.pair (.int .i64) (.pair (.int .i64) (.pair (.int .i64) (.pair (.int .i64) .unit)))) (.pair (.int .i64) (.pair (.sl (.int .i64)) (.pair (.pair .bool (.pair (.sl (.int .i64)) .unit)) (.pair (.sl (.int .i64)) (.pair (.pair .bool (.pair (.sl (.int .i64)) .unit)) .unit))))))) (.pair (.int .i64) .unit)) : Ty).den → Option Bool, (∀ x, G x = R19_Is x.1 x.2.1) ∧ PCon Go.Proofs.Try.prog 81 (liftF (.pair (.sl (.pair (.pair (.int .i64) (.pair (.int .i64) (.pair (.int .i64) (.pair (.int .i64) .unit)))) (.pair (.int .i64) (.pair (.sl (.int .i64)) (.pair (.pair .bool (.pair (.sl (.int .i64)) .unit)) (.pair (.sl (.int .i64)) (.pair (.pair .bool (.pair (.sl (.int .i64)) .unit)) .unit))))))) (.pair (.int .i64) .unit)) (unpack .bool) G) := ⟨_, fun _ => rfl, c_R19_Is⟩
  obtain ⟨G82, hG82, cG82⟩ : ∃ G : ((.pair (.sl (.pair (.pair (.int .i64) (.pair (.int .i64) (.pair (.int .i64) (.pair (.int .i64) .unit)))) (.pair (.int .i64) (.pair (.sl (.int .i64)) (.pair (.pair .bool (.pair (.sl (.int .i64)) .unit)) (.pair (.sl (.int .i64)) (.pair (.pair .bool (.pair (.sl (.int .i64)) .unit)) .unit))))))) (.pair (.int .i64) (.pair (.pair (.pair (.int .i64) (.pair (.int .i64) (.pair (.int .i64) (.pair (.int .i64) .unit)))) (.pair (.int .i64) (.pair (.sl (.int .i64)) (.pair (.pair .bool (.pair (.sl (.int .i64)) .unit)) (.pair (.sl (.int .i64)) (.pair (.pair .bool (.pair (.sl (.int .i64)) .unit)) .unit)))))) .unit))) : Ty).den → Option (List ((Int × Int × Int × Int × Unit) × Int × (List Int) × (Bool × (List Int) × Unit) × (List Int) × (Bool × (List Int) × Unit) × Unit)), (∀ x, G x = R19_put x.1 x.2.1 x.2.2.1) ∧ PCon Go.Proofs.Try.prog 82 (liftF (.pair (.sl (.pair (.pair (.int .i64) (.pair (.int .i64) (.pair (.int .i64) (.pair (.int .i64) .unit)))) (.pair (.int .i64) (.pair (.sl (.int .i64)) (.pair (.pair .bool (.pair (.sl (.int .i64)) .unit)) (.pair (.sl (.int .i64)) (.pair (.pair .bool (.pair (.sl (.int .i64)) .unit)) .unit))))))) (.pair (.int .i64) (.pair (.pair (.pair (.int .i64) (.pair (.int .i64) (.pair (.int .i64) (.pair (.int .i64) .unit)))) (.pair (.int .i64) (.pair (.sl (.int .i64)) (.pair (.pair .bool (.pair (.sl (.int .i64)) .unit)) (.pair (.sl (.int .i64)) (.pair (.pair .bool (.pair (.sl (.int .i64)) .unit)) .unit)))))) .unit))) (unpack (.sl (.pair (.pair (.int .i64) (.pair (.int .i64) (.pair (.int .i64) (.pair (.int .i64) .unit)))) (.pair (.int .i64) (.pair (.sl (.int .i64)) (.pair (.pair .bool (.pair (.sl (.int .i64)) .unit)) (.pair (.sl (.int .i64)) (.pair (.pair .bool (.pair (.sl (.int .i64)) .unit)) .unit)))))))) G) := ⟨_, fun _ => rfl, c_R19_put⟩
  obtain ⟨fns, hfns, hf⟩ : ∃ fns, fns = [(17, liftF (.pair (.pair (.pair (.int .i64) (.pair (.int .i64) (.pair (.int .i64) (.pair (.int .i64) .unit)))) (.pair (.int .i64) (.pair (.sl (.int .i64)) (.pair (.pair .bool (.pair (.sl (.int .i64)) .unit)) (.pair (.sl (.int .i64)) (.pair (.pair .bool (.pair (.sl (.int .i64)) .unit)) .unit)))))) (.pair (.int .i64) .unit)) (unpR (.pair (.pair (.pair (.int .i64) (.pair (.int .i64) (.pair (.int .i64) (.pair (.int .i64) .unit)))) (.pair (.int .i64) (.pair (.sl (.int .i64)) (.pair (.pair .bool (.pair (.sl (.int .i64)) .unit)) (.pair (.sl (.int .i64)) (.pair (.pair .bool (.pair (.sl (.int .i64)) .unit)) .unit)))))) (.pair (.int .i64) .unit))) G17), (81, liftF (.pair (.sl (.pair (.pair (.int .i64) (.pair (.int .i64) (.pair (.int .i64) (.pair (.int .i64) .unit)))) (.pair (.int .i64) (.pair (.sl (.int .i64)) (.pair (.pair .bool (.pair (.sl (.int .i64)) .unit)) (.pair (.sl (.int .i64)) (.pair (.pair .bool (.pair (.sl (.int .i64)) .unit)) .unit))))))) (.pair (.int .i64) .unit)) (unpack .bool) G81), (82, liftF (.pair (.sl (.pair (.pair (.int .i64) (.pair (.int .i64) (.pair (.int .i64) (.pair (.int .i64) .unit)))) (.pair (.int .i64) (.pair (.sl (.int .i64)) (.pair (.pair .bool (.pair (.sl (.int .i64)) .unit)) (.pair (.sl (.int .i64)) (.pair (.pair .bool (.pair (.sl (.int .i64)) .unit)) .unit))))))) (.pair (.int .i64) (.pair (.pair (.pair (.int .i64) (.pair (.int .i64) (.pair (.int .i64) (.pair (.int .i64) .unit)))) (.pair (.int .i64) (.pair (.sl (.int .i64)) (.pair (.pair .bool (.pair (.sl (.int .i64)) .unit)) (.pair (.sl (.int .i64)) (.pair (.pair .bool (.pair (.sl (.int .i64)) .unit)) .unit)))))) .unit))) (unpack (.sl (.pair (.pair (.int .i64) (.pair (.int .i64) (.pair (.int .i64) (.pair (.int .i64) .unit)))) (.pair (.int .i64) (.pair (.sl (.int .i64)) (.pair (.pair .bool (.pair (.sl (.int .i64)) .unit)) (.pair (.sl (.int .i64)) (.pair (.pair .bool (.pair (.sl (.int .i64)) .unit)) .unit)))))))) G82)] ∧ FnsOk Go.Proofs.Try.prog fns := ⟨_, rfl, FnsOk.cons cG17 (FnsOk.cons cG81 (FnsOk.cons cG82 (FnsOk.nil _)))⟩
  refine lift_con (E := E_R19_Poison fns) (c := bodyOf Try.f50) (nt := 32) (rs := [.tmp 6, .tmp 7]) (ts := [69, 3]) (EnvC.sub tt_ok et_ok hf (PrsOk.nil _) (ItsOk.nil _) tt_R19_Poison_ok et_R19_Poison_ok) (PrOk.of mixed_ok) Go.Proofs.Try.func50 rfl (by decide) rfl rfl rfl (pureR_many (e := (.pair (.sl (.pair (.pair (.int .i64) (.pair (.int .i64) (.pair (.int .i64) (.pair (.int .i64) .unit)))) (.pair (.int .i64) (.pair (.sl (.int .i64)) (.pair (.pair .bool (.pair (.sl (.int .i64)) .unit)) (.pair (.sl (.int .i64)) (.pair (.pair .bool (.pair (.sl (.int .i64)) .unit)) .unit))))))) (.pair (.int .i64) .unit))) rfl) ?_
  subst hfns
  intro x r hw hs
  repeat'
    (try (conv => whnf)
     first
       | (have hs := letv_out hs)
       | (refine draw_and (by kernel_rfl) ?_)
       | (refine both_mk ?_ ?_)
       | (refine br_bool (fun h => ?_) (fun h => ?_) <;> first | have hs := cT h hs | have hs := cF h hs)
       | (refine bind_elim hs fun v hb hs => ?_; first | refine callK_liftG hG17 rfl hb ?_ | refine callK_liftG hG81 rfl hb ?_ | refine callK_liftG hG82 rfl hb ?_)
       | refine chk_elim hs fun hs => ?_
       | exact fin_some hs rfl
       | (intro b hb; first | have hs := nilq_elim hs b hb | have hs := nilqn_elim hs b hb)
       | (have hs := cT rfl hs)
       | (have hs := cF rfl hs)
       | exact (none_ne hs).elim)
noncomputable def lf_R19_Do : List AV → Option AV := liftF (.pair (.sl (.pair (.pair (.int .i64) (.pair (.int .i64) (.pair (.int .i64) (.pair (.int .i64) .unit)))) (.pair (.int .i64) (.pair (.sl (.int .i64)) (.pair (.pair .bool (.pair (.sl (.int .i64)) .unit)) (.pair (.sl (.int .i64)) (.pair (.pair .bool (.pair (.sl (.int .i64)) .unit)) .unit))))))) (.pair (.pair (.int .i64) (.pair (.int .i64) .unit)) .unit)) (unpR (.pair (.sl (.pair (.pair (.int .i64) (.pair (.int .i64) (.pair (.int .i64) (.pair (.int .i64) .unit)))) (.pair (.int .i64) (.pair (.sl (.int .i64)) (.pair (.pair .bool (.pair (.sl (.int .i64)) .unit)) (.pair (.sl (.int .i64)) (.pair (.pair .bool (.pair (.sl (.int .i64)) .unit)) .unit))))))) (.pair (.pair (.int .i64) (.pair (.int .i64) (.pair (.int .i64) .unit))) (.pair (.int .i64) .unit)))) (fun x => R19_Do x.1 x.2.1)
def tt_R19_Do : List (Nat × Ty) := [(3, .int .i64), (4, .bool), (28, .pair (.pair (.int .i64) (.pair (.int .i64) (.pair (.int .i64) (.pair (.int .i64) .unit)))) (.pair (.int .i64) (.pair (.sl (.int .i64)) (.pair (.pair .bool (.pair (.sl (.int .i64)) .unit)) (.pair (.sl (.int .i64)) (.pair (.pair .bool (.pair (.sl (.int .i64)) .unit)) .unit)))))), (48, .pair (.int .i64) (.pair (.int .i64) (.pair (.int .i64) .unit))), (69, .sl (.pair (.pair (.int .i64) (.pair (.int .i64) (.pair (.int .i64) (.pair (.int .i64) .unit)))) (.pair (.int .i64) (.pair (.sl (.int .i64)) (.pair (.pair .bool (.pair (.sl (.int .i64)) .unit)) (.pair (.sl (.int .i64)) (.pair (.pair .bool (.pair (.sl (.int .i64)) .unit)) .unit))))))), (86, .pair (.int .i64) (.pair (.int .i64) .unit))]
def et_R19_Do : List (Nat × Nat) := [(69, 28)]
theorem tt_R19_Do_ok : subT tt tt_R19_Do = true := by kernel_rfl
theorem et_R19_Do_ok : subE et et_R19_Do = true := by kernel_rfl
noncomputable def E_R19_Do (fns : List (Nat × (List AV → Option AV))) : Env := ⟨0, 0, et_R19_Do, tt_R19_Do, fns, [], [(3, (.one 0 (.one 1 (.one 2 (.one 3 (.one 4 (.one 5 (.one 6 (.alt (.cons 7 (.one 8 (.one 9 (.one 10 (.one 11 (.alt (.cons 12 (.alt (.cons 13 (.alt (.cons 14 (.alt (.cons 15 (.one 16 .nil) .nil)) .nil)) .nil)) (.cons 13 (.alt (.cons 12 (.alt (.cons 14 (.alt (.cons 15 (.one 16 .nil) .nil)) .nil)) .nil)) .nil))))))) (.cons 12 (.alt (.cons 7 (.one 8 (.one 9 (.one 10 (.one 11 (.alt (.cons 13 (.alt (.cons 14 (.alt (.cons 15 (.one 16 .nil) .nil)) .nil)) .nil)))))) (.cons 13 (.one 7 (.one 8 (.one 9 (.one 10 (.one 11 (.alt (.cons 14 (.alt (.cons 15 (.one 16 .nil) .nil)) .nil))))))) .nil))) (.cons 13 (.alt (.cons 7 (.one 8 (.one 9 (.one 10 (.one 11 (.alt (.cons 12 (.alt (.cons 14 (.alt (.cons 15 (.one 16 .nil) .nil)) .nil)) .nil)))))) (.cons 12 (.one 7 (.one 8 (.one 9 (.one 10 (.one 11 (.alt (.cons 14 (.alt (.cons 15 (.one 16 .nil) .nil)) .nil))))))) .nil))) .nil)))))))))))), (5, (.one 0 (.one 1 (.one 2 (.one 3 (.alt (.cons 4 (.one 5 .nil) .nil))))))), (6, (.one 0 (.one 1 (.one 2 (.one 3 (.one 5 (.one 4 (.one 6 (.one 100007 (.one 8 .nil))))))))))], [(0, [0, 3, 5]), (1, [0, 3, 5, 14]), (2, [4, 5, 6]), (3, [0, 3, 5, 7, 8, 9]), (4, [0, 3, 5, 7, 8, 9, 30]), (5, [4, 5, 6]), (6, [4, 5, 6]), (2000003, []), (3000003, [7, 8]), (2000005, [5]), (3000005, []), (4000000, [3, 5]), (4000001, [3, 5]), (4000002, [5]), (4000003, [3, 5, 7, 8]), (4000004, [3, 5, 7, 8]), (4000005, [5]), (4000006, [5])], none, []⟩
set_option maxRecDepth 100000 in
set_option maxHeartbeats 40000000 in
theorem c_R19_Do : PCon Go.Proofs.Try.prog 51 lf_R19_Do := by
  obtain ⟨G21, hG21, cG21⟩ : ∃ G : ((.pair (.pair (.pair (.int .i64) (.pair (.int .i64) (.pair (.int .i64) (.pair (.int .i64) .unit)))) (.pair (.int .i64) (.pair (.sl (.int .i64)) (.pair (.pair .bool (.pair (.sl (.int .i64)) .unit)) (.pair (.sl (.int .i64)) (.pair (.pair .bool (.pair (.sl (.int .i64)) .unit)) .unit)))))) (.pair (.int .i64) .unit)) : Ty).den → Option (((Int × Int × Int × Int × Unit) × Int × (List Int) × (Bool × (List Int) × Unit) × (List Int) × (Bool × (List Int) × Unit) × Unit) × (Int × Int × Int × Unit) × Int × Unit), (∀ x, G x = R18_Do x.1 x.2.1) ∧ PCon Go.Proofs.Try.prog 21 (liftF (.pair (.pair (.pair (.int .i64) (.pair (.int .i64) (.pair (.int .i64) (.pair (.int .i64) .unit)))) (.pair (.int .i64) (.pair (.sl (.int .i64)) (.pair (.pair .bool (.pair (.sl (.int .i64)) .unit)) (.pair (.sl (.int .i64)) (.pair (.pair .bool (.pair (.sl (.int .i64)) .unit)) .unit)))))) (.pair (.int .i64) .unit)) (unpR (.pair (.pair (.pair (.int .i64) (.pair (.int .i64) (.pair (.int .i64) (.pair (.int .i64) .unit)))) (.pair (.int .i64) (.pair (.sl (.int .i64)) (.pair (.pair .bool (.pair (.sl (.int .i64)) .unit)) (.pair (.sl (.int .i64)) (.pair (.pair .bool (.pair (.sl (.int .i64)) .unit)) .unit)))))) (.pair (.pair (.int .i64) (.pair (.int .i64) (.pair (.int .i64) .unit))) (.pair (.int .i64) .unit)))) G) := ⟨_, fun _ => rfl, c_R18_Do⟩
  obtain ⟨G81, hG81, cG81⟩ : ∃ G : ((.pair (.sl (.pair (.pair (.int .i64) (.pair (.int .i64) (.pair (.int .i64) (.pair (.int .i64) .unit)))) (.pair (.int .i64) (.pair (.sl (.int .i64)) (.pair (.pair .bool (.pair (.sl (.int .i64)) .unit)) (.pair (.sl (.int .i64)) (.pair (.pair .bool (.pair (.sl (.int .i64)) .unit)) .unit))))))) (.pair (.int .i64) .unit)) : Ty).den → Option Bool, (∀ x, G x = R19_Is x.1 x.2.1) ∧ PCon Go.Proofs.Try.prog 81 (liftF (.pair (.sl (.pair (.pair (.int .i64) (.pair (.int .i64) (.pair (.int .i64) (.pair (.int .i64) .unit)))) (.pair (.int .i64) (.pair (.sl (.int .i64)) (.pair (.pair .bool (.pair (.sl (.int .i64)) .unit)) (.pair (.sl (.int .i64)) (.pair (.pair .bool (.pair (.sl (.int .i64)) .unit)) .unit))))))) (.pair (.int .i64) .unit)) (unpack .bool) G) := ⟨_, fun _ => rfl, c_R19_Is⟩
  obtain ⟨G82, hG82, cG82⟩ : ∃ G : ((.pair (.sl (.pair (.pair (.int .i64) (.pair (.int .i64) (.pair (.int .i64) (.pair (.int .i64) .unit)))) (.pair (.int .i64) (.pair (.sl (.int .i64)) (.pair (.pair .bool (.pair (.sl (.int .i64)) .unit)) (.pair (.sl (.int .i64)) (.pair (.pair .bool (.pair (.sl (.int .i64)) .unit)) .unit))))))) (.pair (.int .i64) (.pair (.pair (.pair (.int .i64) (.pair (.int .i64) (.pair (.int .i64) (.pair (.int .i64) .unit)))) (.pair (.int .i64) (.pair (.sl (.int .i64)) (.pair (.pair .bool (.pair (.sl (.int .i64)) .unit)) (.pair (.sl (.int .i64)) (.pair (.pair .bool (.pair (.sl (.int .i64)) .unit)) .unit)))))) .unit))) : Ty).den → Option (List ((Int × Int × Int × Int × Unit) × Int × (List Int) × (Bool × (List Int) × Unit) × (List Int) × (Bool × (List Int) × Unit) × Unit)), (∀ x, G x = R19_put x.1 x.2.1 x.2.2.1) ∧ PCon Go.Proofs.Try.prog 82 (liftF (.pair (.sl (.pair (.pair (.int .i64) (.pair (.int .i64) (.pair (.int .i64) (.pair (.int .i64) .unit)))) (.pair (.int .i64) (.pair (.sl (.int .i64)) (.pair (.pair .bool (.pair (.sl (.int .i64)) .unit)) (.pair (.sl (.int .i64)) (.pair (.pair .bool (.pair (.sl (.int .i64)) .unit)) .unit))))))) (.pair (.int .i64) (.pair (.pair (.pair (.int .i64) (.pair (.int .i64) (.pair (.int .i64) (.pair (.int .i64) .unit)))) (.pair (.int .i64) (.pair (.sl (.int .i64)) (.pair (.pair .bool (.pair (.sl (.int .i64)) .unit)) (.pair (.sl (.int .i64)) (.pair (.pair .bool (.pair (.sl (.int .i64)) .unit)) .unit)))))) .unit))) (unpack (.sl (.pair (.pair (.int .i64) (.pair (.int .i64) (.pair (.int .i64) (.pair (.int .i64) .unit)))) (.pair (.int .i64) (.pair (.sl (.int .i64)) (.pair (.pair .bool (.pair (.sl (.int .i64)) .unit)) (.pair (.sl (.int .i64)) (.pair (.pair .bool (.pair (.sl (.int .i64)) .unit)) .unit)))))))) G) := ⟨_, fun _ => rfl, c_R19_put⟩
  obtain ⟨fns, hfns, hf⟩ : ∃ fns, fns = [(21, liftF (.pair (.pair (.pair (.int .i64) (.pair (.int .i64) (.pair (.int .i64) (.pair (.int .i64) .unit)))) (.pair (.int .i64) (.pair (.sl (.int .i64)) (.pair (.pair .bool (.pair (.sl (.int .i64)) .unit)) (.pair (.sl (.int .i64)) (.pair (.pair .bool (.pair (.sl (.int .i64)) .unit)) .unit)))))) (.pair (.int .i64) .unit)) (unpR (.pair (.pair (.pair (.int .i64) (.pair (.int .i64) (.pair (.int .i64) (.pair (.int .i64) .unit)))) (.pair (.int .i64) (.pair (.sl (.int .i64)) (.pair (.pair .bool (.pair (.sl (.int .i64)) .unit)) (.pair (.sl (.int .i64)) (.pair (.pair .bool (.pair (.sl (.int .i64)) .unit)) .unit)))))) (.pair (.pair (.int .i64) (.pair (.int .i64) (.pair (.int .i64) .unit))) (.pair (.int .i64) .unit)))) G21), (81, liftF (.pair (.sl (.pair (.pair (.int .i64) (.pair (.int .i64) (.pair (.int .i64) (.pair (.int .i64) .unit)))) (.pair (.int .i64) (.pair (.sl (.int .i64)) (.pair (.pair .bool (.pair (.sl (.int .i64)) .unit)) (.pair (.sl (.int .i64)) (.pair (.pair .bool (.pair (.sl (.int .i64)) .unit)) .unit))))))) (.pair (.int .i64) .unit)) (unpack .bool) G81), (82, liftF (.pair (.sl (.pair (.pair (.int .i64) (.pair (.int .i64) (.pair (.int .i64) (.pair (.int .i64) .unit)))) (.pair (.int .i64) (.pair (.sl (.int .i64)) (.pair (.pair .bool (.pair (.sl (.int .i64)) .unit)) (.pair (.sl (.int .i64)) (.pair (.pair .bool (.pair (.sl (.int .i64)) .unit)) .unit))))))) (.pair (.int .i64) (.pair (.pair (.pair (.int .i64) (.pair (.int .i64) (.pair (.int .i64) (.pair (.int .i64) .unit)))) (.pair (.int .i64) (.pair (.sl (.int .i64)) (.pair (.pair .bool (.pair (.sl (.int .i64)) .unit)) (.pair (.sl (.int .i64)) (.pair (.pair .bool (.pair (.sl (.int .i64)) .unit)) .unit)))))) .unit))) (unpack (.sl (.pair (.pair (.int .i64) (.pair (.int .i64) (.pair (.int .i64) (.pair (.int .i64) .unit)))) (.pair (.int .i64) (.pair (.sl (.int .i64)) (.pair (.pair .bool (.pair (.sl (.int .i64)) .unit)) (.pair (.sl (.int .i64)) (.pair (.pair .bool (.pair (.sl (.int .i64)) .unit)) .unit)))))))) G82)] ∧ FnsOk Go.Proofs.Try.prog fns := ⟨_, rfl, FnsOk.cons cG21 (FnsOk.cons cG81 (FnsOk.cons cG82 (FnsOk.nil _)))⟩
  refine lift_con (E := E_R19_Do fns) (c := bodyOf Try.f51) (nt := 40) (rs := [.tmp 4, .cell 5 48, .tmp 6]) (ts := [69, 48, 3]) (EnvC.sub tt_ok et_ok hf (PrsOk.nil _) (ItsOk.nil _) tt_R19_Do_ok et_R19_Do_ok) (PrOk.of mixed_ok) Go.Proofs.Try.func51 rfl (by decide) rfl rfl rfl (pureR_many (e := (.pair (.sl (.pair (.pair (.int .i64) (.pair (.int .i64) (.pair (.int .i64) (.pair (.int .i64) .unit)))) (.pair (.int .i64) (.pair (.sl (.int .i64)) (.pair (.pair .bool (.pair (.sl (.int .i64)) .unit)) (.pair (.sl (.int .i64)) (.pair (.pair .bool (.pair (.sl (.int .i64)) .unit)) .unit))))))) (.pair (.pair (.int .i64) (.pair (.int .i64) (.pair (.int .i64) .unit))) (.pair (.int .i64) .unit)))) rfl) ?_
  subst hfns
  intro x r hw hs
  repeat'
    (try (conv => whnf)
     first
       | (have hs := letv_out hs)
       | (refine draw_and (by kernel_rfl) ?_)
       | (refine both_mk ?_ ?_)
       | (refine br_bool (fun h => ?_) (fun h => ?_) <;> first | have hs := cT h hs | have hs := cF h hs)
       | (refine bind_elim hs fun v hb hs => ?_; first | refine callK_liftG hG21 rfl hb ?_ | refine callK_liftG hG81 rfl hb ?_ | refine callK_liftG hG82 rfl hb ?_)
       | refine chk_elim hs fun hs => ?_
       | exact fin_some hs rfl
       | (intro b hb; first | have hs := nilq_elim hs b hb | have hs := nilqn_elim hs b hb)
       | (have hs := cT rfl hs)
       | (have hs := cF rfl hs)
       | exact (none_ne hs).elim)
noncomputable def lf_R19_Leave : List AV → Option AV := liftF (.pair (.sl (.pair (.pair (.int .i64) (.pair (.int .i64) (.pair (.int .i64) (.pair (.int .i64) .unit)))) (.pair (.int .i64) (.pair (.sl (.int .i64)) (.pair (.pair .bool (.pair (.sl (.int .i64)) .unit)) (.pair (.sl (.int .i64)) (.pair (.pair .bool (.pair (.sl (.int .i64)) .unit)) .unit))))))) (.pair (.int .i64) .unit)) (unpack (.sl (.pair (.pair (.int .i64) (.pair (.int .i64) (.pair (.int .i64) (.pair (.int .i64) .unit)))) (.pair (.int .i64) (.pair (.sl (.int .i64)) (.pair (.pair .bool (.pair (.sl (.int .i64)) .unit)) (.pair (.sl (.int .i64)) (.pair (.pair .bool (.pair (.sl (.int .i64)) .unit)) .unit)))))))) (fun x => R19_Leave x.1 x.2.1)
def tt_R19_Leave : List (Nat × Ty) := [(3, .int .i64), (28, .pair (.pair (.int .i64) (.pair (.int .i64) (.pair (.int .i64) (.pair (.int .i64) .unit)))) (.pair (.int .i64) (.pair (.sl (.int .i64)) (.pair (.pair .bool (.pair (.sl (.int .i64)) .unit)) (.pair (.sl (.int .i64)) (.pair (.pair .bool (.pair (.sl (.int .i64)) .unit)) .unit)))))), (69, .sl (.pair (.pair (.int .i64) (.pair (.int .i64) (.pair (.int .i64) (.pair (.int .i64) .unit)))) (.pair (.int .i64) (.pair (.sl (.int .i64)) (.pair (.pair .bool (.pair (.sl (.int .i64)) .unit)) (.pair (.sl (.int .i64)) (.pair (.pair .bool (.pair (.sl (.int .i64)) .unit)) .unit)))))))]
def et_R19_Leave : List (Nat × Nat) := [(69, 28)]
theorem tt_R19_Leave_ok : subT tt tt_R19_Leave = true := by kernel_rfl
theorem et_R19_Leave_ok : subE et et_R19_Leave = true := by kernel_rfl
def R19_Leave_S1 (u0 : AV) (x1 : (List ((Int × Int × Int × Int × Unit) × Int × (List Int) × (Bool × (List Int) × Unit) × (List Int) × (Bool × (List Int) × Unit) × Unit)) × Int) : St :=
  ⟨[(0, .ro (.pair (.pair (.int .i64) (.pair (.int .i64) (.pair (.int .i64) (.pair (.int .i64) .unit)))) (.pair (.int .i64) (.pair (.sl (.int .i64)) (.pair (.pair .bool (.pair (.sl (.int .i64)) .unit)) (.pair (.sl (.int .i64)) (.pair (.pair .bool (.pair (.sl (.int .i64)) .unit)) .unit)))))) x1.1), (1, u0), (5, .int .i64 x1.2)], [], none⟩
def R19_Leave_M1 : Msk := ⟨[0, 1, 5], [], [], [], [], [], [], [], []⟩
noncomputable def E_R19_Leave (fns : List (Nat × (List AV → Option AV))) : Env := ⟨0, 0, et_R19_Leave, tt_R19_Leave, fns, [], [], [(0, [0, 1]), (1, [0, 1, 5]), (2, [0, 1, 5, 9]), (3, [0, 1, 5]), (4, [0, 1, 5]), (5, [4]), (4000000, []), (4000001, []), (4000002, []), (4000003, []), (4000004, []), (4000005, [])], none, []⟩
set_option maxRecDepth 100000 in
set_option maxHeartbeats 40000000 in
theorem c_R19_Leave : PCon Go.Proofs.Try.prog 52 lf_R19_Leave := by
  obtain ⟨G34, hG34, cG34⟩ : ∃ G : ((.pair (.pair (.pair (.int .i64) (.pair (.int .i64) (.pair (.int .i64) (.pair (.int .i64) .unit)))) (.pair (.int .i64) (.pair (.sl (.int .i64)) (.pair (.pair .bool (.pair (.sl (.int .i64)) .unit)) (.pair (.sl (.int .i64)) (.pair (.pair .bool (.pair (.sl (.int .i64)) .unit)) .unit)))))) (.pair (.int .i64) .unit)) : Ty).den → Option ((Int × Int × Int × Int × Unit) × Int × (List Int) × (Bool × (List Int) × Unit) × (List Int) × (Bool × (List Int) × Unit) × Unit), (∀ x, G x = R18_Leave x.1 x.2.1) ∧ PCon Go.Proofs.Try.prog 34 (liftF (.pair (.pair (.pair (.int .i64) (.pair (.int .i64) (.pair (.int .i64) (.pair (.int .i64) .unit)))) (.pair (.int .i64) (.pair (.sl (.int .i64)) (.pair (.pair .bool (.pair (.sl (.int .i64)) .unit)) (.pair (.sl (.int .i64)) (.pair (.pair .bool (.pair (.sl (.int .i64)) .unit)) .unit)))))) (.pair (.int .i64) .unit)) (unpack (.pair (.pair (.int .i64) (.pair (.int .i64) (.pair (.int .i64) (.pair (.int .i64) .unit)))) (.pair (.int .i64) (.pair (.sl (.int .i64)) (.pair (.pair .bool (.pair (.sl (.int .i64)) .unit)) (.pair (.sl (.int .i64)) (.pair (.pair .bool (.pair (.sl (.int .i64)) .unit)) .unit))))))) G) := ⟨_, fun _ => rfl, c_R18_Leave⟩
  obtain ⟨G82, hG82, cG82⟩ : ∃ G : ((.pair (.sl (.pair (.pair (.int .i64) (.pair (.int .i64) (.pair (.int .i64) (.pair (.int .i64) .unit)))) (.pair (.int .i64) (.pair (.sl (.int .i64)) (.pair (.pair .bool (.pair (.sl (.int .i64)) .unit)) (.pair (.sl (.int .i64)) (.pair (.pair .bool (.pair (.sl (.int .i64)) .unit)) .unit))))))) (.pair (.int .i64) (.pair (.pair (.pair (.int .i64) (.pair (.int .i64) (.pair (.int .i64) (.pair (.int .i64) .unit)))) (.pair (.int .i64) (.pair (.sl (.int .i64)) (.pair (.pair .bool (.pair (.sl (.int .i64)) .unit)) (.pair (.sl (.int .i64)) (.pair (.pair .bool (.pair (.sl (.int .i64)) .unit)) .unit)))))) .unit))) : Ty).den → Option (List ((Int × Int × Int × Int × Unit) × Int × (List Int) × (Bool × (List Int) × Unit) × (List Int) × (Bool × (List Int) × Unit) × Unit)), (∀ x, G x = R19_put x.1 x.2.1 x.2.2.1) ∧ PCon Go.Proofs.Try.prog 82 (liftF (.pair (.sl (.pair (.pair (.int .i64) (.pair (.int .i64) (.pair (.int .i64) (.pair (.int .i64) .unit)))) (.pair (.int .i64) (.pair (.sl (.int .i64)) (.pair (.pair .bool (.pair (.sl (.int .i64)) .unit)) (.pair (.sl (.int .i64)) (.pair (.pair .bool (.pair (.sl (.int .i64)) .unit)) .unit))))))) (.pair (.int .i64) (.pair (.pair (.pair (.int .i64) (.pair (.int .i64) (.pair (.int .i64) (.pair (.int .i64) .unit)))) (.pair (.int .i64) (.pair (.sl (.int .i64)) (.pair (.pair .bool (.pair (.sl (.int .i64)) .unit)) (.pair (.sl (.int .i64)) (.pair (.pair .bool (.pair (.sl (.int .i64)) .unit)) .unit)))))) .unit))) (unpack (.sl (.pair (.pair (.int .i64) (.pair (.int .i64) (.pair (.int .i64) (.pair (.int .i64) .unit)))) (.pair (.int .i64) (.pair (.sl (.int .i64)) (.pair (.pair .bool (.pair (.sl (.int .i64)) .unit)) (.pair (.sl (.int .i64)) (.pair (.pair .bool (.pair (.sl (.int .i64)) .unit)) .unit)))))))) G) := ⟨_, fun _ => rfl, c_R19_put⟩
  obtain ⟨fns, hfns, hf⟩ : ∃ fns, fns = [(34, liftF (.pair (.pair (.pair (.int .i64) (.pair (.int .i64) (.pair (.int .i64) (.pair (.int .i64) .unit)))) (.pair (.int .i64) (.pair (.sl (.int .i64)) (.pair (.pair .bool (.pair (.sl (.int .i64)) .unit)) (.pair (.sl (.int .i64)) (.pair (.pair .bool (.pair (.sl (.int .i64)) .unit)) .unit)))))) (.pair (.int .i64) .unit)) (unpack (.pair (.pair (.int .i64) (.pair (.int .i64) (.pair (.int .i64) (.pair (.int .i64) .unit)))) (.pair (.int .i64) (.pair (.sl (.int .i64)) (.pair (.pair .bool (.pair (.sl (.int .i64)) .unit)) (.pair (.sl (.int .i64)) (.pair (.pair .bool (.pair (.sl (.int .i64)) .unit)) .unit))))))) G34), (82, liftF (.pair (.sl (.pair (.pair (.int .i64) (.pair (.int .i64) (.pair (.int .i64) (.pair (.int .i64) .unit)))) (.pair (.int .i64) (.pair (.sl (.int .i64)) (.pair (.pair .bool (.pair (.sl (.int .i64)) .unit)) (.pair (.sl (.int .i64)) (.pair (.pair .bool (.pair (.sl (.int .i64)) .unit)) .unit))))))) (.pair (.int .i64) (.pair (.pair (.pair (.int .i64) (.pair (.int .i64) (.pair (.int .i64) (.pair (.int .i64) .unit)))) (.pair (.int .i64) (.pair (.sl (.int .i64)) (.pair (.pair .bool (.pair (.sl (.int .i64)) .unit)) (.pair (.sl (.int .i64)) (.pair (.pair .bool (.pair (.sl (.int .i64)) .unit)) .unit)))))) .unit))) (unpack (.sl (.pair (.pair (.int .i64) (.pair (.int .i64) (.pair (.int .i64) (.pair (.int .i64) .unit)))) (.pair (.int .i64) (.pair (.sl (.int .i64)) (.pair (.pair .bool (.pair (.sl (.int .i64)) .unit)) (.pair (.sl (.int .i64)) (.pair (.pair .bool (.pair (.sl (.int .i64)) .unit)) .unit)))))))) G82)] ∧ FnsOk Go.Proofs.Try.prog fns := ⟨_, rfl, FnsOk.cons cG34 (FnsOk.cons cG82 (FnsOk.nil _))⟩
  refine lift_con (E := E_R19_Leave fns) (c := bodyOf Try.f52) (nt := 22) (rs := [.tmp 4]) (ts := [69]) (EnvC.sub tt_ok et_ok hf (PrsOk.nil _) (ItsOk.nil _) tt_R19_Leave_ok et_R19_Leave_ok) (PrOk.of mixed_ok) Go.Proofs.Try.func52 rfl (by decide) rfl rfl rfl (pureR_one (e := (.sl (.pair (.pair (.int .i64) (.pair (.int .i64) (.pair (.int .i64) (.pair (.int .i64) .unit)))) (.pair (.int .i64) (.pair (.sl (.int .i64)) (.pair (.pair .bool (.pair (.sl (.int .i64)) .unit)) (.pair (.sl (.int .i64)) (.pair (.pair .bool (.pair (.sl (.int .i64)) .unit)) .unit)))))))) rfl) ?_
  subst hfns
  intro x r hw hs
  repeat'
    (try (conv => whnf)
     first
       | (have hs := letv_out hs)
       | (refine draw_and (by kernel_rfl) ?_)
       | (refine both_mk ?_ ?_)
       | (refine br_bool (fun h => ?_) (fun h => ?_) <;> first | have hs := cT h hs | have hs := cF h hs)
       | (refine bind_elim hs fun v hb hs => ?_; first | refine callK_liftG hG34 rfl hb ?_ | refine callK_liftG hG82 rfl hb ?_)
       | refine chk_elim hs fun hs => ?_
       | exact fin_some hs rfl
       | (intro b hb; first | have hs := nilq_elim hs b hb | have hs := nilqn_elim hs b hb)
       | exact hJ1 _ hs
       | (have hs := cT rfl hs)
       | (have hs := cF rfl hs)
       | (refine vc_loop (R19_Leave_S1 _) R19_Leave_M1 hs rfl ?_; intro J1 k1 x1 hJ1 hs)
       | exact (none_ne hs).elim)
end Go.Proofs.YtbkccpddkpclaaaV
