import Derived.Test.YtoihmfgkmndjfaaVcTab
import Derived.Test.YtoihmfgkmndjfaaDR27
namespace Go.Proofs.YtoihmfgkmndjfaaV
open Go.Proofs
set_option linter.unusedVariables false
noncomputable def lf_R27_Fine : List AV → Option AV := liftF (.pair (.pair (.int .i64) (.pair (.int .i64) (.pair (.int .i64) (.pair (.sl (.int .i64)) .unit)))) .unit) (unpack .bool) (fun x => R27_Fine x.1)
def tt_R27_Fine : List (Nat × Ty) := [(3, .int .i64), (4, .bool), (22, .sl (.int .i64)), (24, .pair (.int .i64) (.pair (.int .i64) (.pair (.int .i64) (.pair (.sl (.int .i64)) .unit))))]
def et_R27_Fine : List (Nat × Nat) := [(22, 3)]
theorem tt_R27_Fine_ok : subT tt tt_R27_Fine = true := by kernel_rfl
theorem et_R27_Fine_ok : subE et et_R27_Fine = true := by kernel_rfl
def R27_Fine_S1 (u0 : AV) (B2 : Blk) (x1 : Int) : St :=
  ⟨[(1, u0), (3, .int .i64 x1)], [(1, B2)], none⟩
def R27_Fine_M1 : Msk := ⟨[1, 3], [1], [], [], [], [], [], [], []⟩
noncomputable def E_R27_Fine (fns : List (Nat × (List AV → Option AV))) : Env := ⟨0, 0, et_R27_Fine, tt_R27_Fine, fns, [], [(6, [0, 1, 2, 3, 4, 5, 6, 7, 8, 9, 10, 11, 12, 13, 14, 15, 16, 17, 18, 19, 20, 21, 22, 23, 24, 25, 26, 27, 28, 29, 30, 31, 32, 33])], [(0, [1]), (1, [1, 33]), (2, [2]), (3, [1, 3]), (4, [1, 3, 38]), (5, [1, 3]), (6, [1, 3, 74]), (7, [2]), (8, [2])]⟩
set_option maxRecDepth 100000 in
set_option maxHeartbeats 4000000 in
theorem c_R27_Fine : PCon Go.Proofs.Try.prog 19 lf_R27_Fine := by
  obtain ⟨fns, hfns, hf⟩ : ∃ fns, fns = [] ∧ FnsOk Go.Proofs.Try.prog fns := ⟨_, rfl, FnsOk.nil _⟩
  refine lift_con (E := E_R27_Fine fns) (c := bodyOf Try.f19) (nt := 75) (rs := [.tmp 2]) (ts := [4]) (EnvC.sub tt_ok et_ok hf (PrsOk.nil _) tt_R27_Fine_ok et_R27_Fine_ok) (PrOk.of mixed_ok) Go.Proofs.Try.func19 rfl (by decide) rfl rfl rfl (pureR_one (e := .bool) rfl) ?_
  subst hfns
  intro x r hw hs
  repeat'
    (try (conv => whnf)
     first
       | (have hs := letv_out hs)
       | (refine br_bool (fun h => ?_) (fun h => ?_) <;> first | have hs := cT h hs | have hs := cF h hs)
       | refine chk_elim hs fun hs => ?_
       | exact fin_some hs rfl
       | exact hJ1 _ hs
       | (have hs := cT rfl hs)
       | (have hs := cF rfl hs)
       | (refine draw_and (by kernel_rfl) ?_)
       | (refine vc_loop (R27_Fine_S1 _ _) R27_Fine_M1 hs rfl ?_; intro J1 k1 x1 hJ1 hs))
noncomputable def lf_R27_Choose : List AV → Option AV := liftF (.pair (.pair (.int .i64) (.pair (.int .i64) (.pair (.int .i64) (.pair (.sl (.int .i64)) .unit)))) (.pair (.int .i64) .unit)) (unpR (.pair (.int .i64) (.pair (.int .i64) .unit))) (fun x => R27_Choose x.1 x.2.1)
def tt_R27_Choose : List (Nat × Ty) := [(3, .int .i64), (4, .bool), (22, .sl (.int .i64)), (24, .pair (.int .i64) (.pair (.int .i64) (.pair (.int .i64) (.pair (.sl (.int .i64)) .unit))))]
def et_R27_Choose : List (Nat × Nat) := [(22, 3)]
theorem tt_R27_Choose_ok : subT tt tt_R27_Choose = true := by kernel_rfl
theorem et_R27_Choose_ok : subE et et_R27_Choose = true := by kernel_rfl
def R27_Choose_S1 (u0 : AV) (u1 : AV) (u2 : AV) (B4 : Blk) (x1 : Int) : St :=
  ⟨[(1, u0), (2, u1), (6, u2), (7, .int .i64 x1)], [(2, B4)], none⟩
def R27_Choose_M1 : Msk := ⟨[1, 2, 6, 7], [2], [], [], [], [], [], [], []⟩
noncomputable def E_R27_Choose (fns : List (Nat × (List AV → Option AV))) : Env := ⟨0, 0, et_R27_Choose, tt_R27_Choose, fns, [], [(10, [0, 1, 2, 3, 4, 5, 6, 7])], [(0, [1, 2]), (1, [1, 2, 11]), (2, [4, 5]), (3, [1, 2, 6]), (4, [1, 2, 6, 16]), (5, [4, 5]), (6, [1, 2, 6, 19]), (7, [1, 2, 6, 7]), (8, [1, 2, 6, 7, 22]), (9, [1, 2, 6, 7]), (10, [1, 2, 6, 7, 32]), (11, [4, 5]), (12, [1, 2, 6, 40]), (13, [2, 6, 8]), (14, [2, 6, 8, 45]), (15, [2, 8]), (16, [4, 5]), (17, [4, 5])]⟩
set_option maxRecDepth 100000 in
set_option maxHeartbeats 4000000 in
theorem c_R27_Choose : PCon Go.Proofs.Try.prog 17 lf_R27_Choose := by
  obtain ⟨G19, hG19, cG19⟩ : ∃ G : ((.pair (.pair (.int .i64) (.pair (.int .i64) (.pair (.int .i64) (.pair (.sl (.int .i64)) .unit)))) .unit) : Ty).den → Option Bool, (∀ x, G x = R27_Fine x.1) ∧ PCon Go.Proofs.Try.prog 19 (liftF (.pair (.pair (.int .i64) (.pair (.int .i64) (.pair (.int .i64) (.pair (.sl (.int .i64)) .unit)))) .unit) (unpack .bool) G) := ⟨_, fun _ => rfl, c_R27_Fine⟩
  obtain ⟨fns, hfns, hf⟩ : ∃ fns, fns = [(19, liftF (.pair (.pair (.int .i64) (.pair (.int .i64) (.pair (.int .i64) (.pair (.sl (.int .i64)) .unit)))) .unit) (unpack .bool) G19)] ∧ FnsOk Go.Proofs.Try.prog fns := ⟨_, rfl, FnsOk.cons cG19 (FnsOk.nil _)⟩
  refine lift_con (E := E_R27_Choose fns) (c := bodyOf Try.f17) (nt := 58) (rs := [.tmp 4, .tmp 5]) (ts := [3, 3]) (EnvC.sub tt_ok et_ok hf (PrsOk.nil _) tt_R27_Choose_ok et_R27_Choose_ok) (PrOk.of mixed_ok) Go.Proofs.Try.func17 rfl (by decide) rfl rfl rfl (pureR_many (e := (.pair (.int .i64) (.pair (.int .i64) .unit))) rfl) ?_
  subst hfns
  intro x r hw hs
  repeat'
    (try (conv => whnf)
     first
       | (have hs := letv_out hs)
       | (refine br_bool (fun h => ?_) (fun h => ?_) <;> first | have hs := cT h hs | have hs := cF h hs)
       | (refine bind_elim hs fun v hb hs => ?_; first | refine callK_lift rfl ((hG19 _).trans hb) ?_)
       | refine chk_elim hs fun hs => ?_
       | exact fin_some hs rfl
       | exact hJ1 _ hs
       | (have hs := cT rfl hs)
       | (have hs := cF rfl hs)
       | (refine draw_and (by kernel_rfl) ?_)
       | (refine vc_loop (R27_Choose_S1 _ _ _ _) R27_Choose_M1 hs rfl ?_; intro J1 k1 x1 hJ1 hs))
noncomputable def lf_R27_Turn : List AV → Option AV := liftF (.pair (.int .i64) (.pair (.int .i64) .unit)) (unpack (.int .i64)) (fun x => R27_Turn x.1 x.2.1)
def tt_R27_Turn : List (Nat × Ty) := [(3, .int .i64)]
def et_R27_Turn : List (Nat × Nat) := []
theorem tt_R27_Turn_ok : subT tt tt_R27_Turn = true := by kernel_rfl
theorem et_R27_Turn_ok : subE et et_R27_Turn = true := by kernel_rfl
noncomputable def E_R27_Turn (fns : List (Nat × (List AV → Option AV))) : Env := ⟨0, 0, et_R27_Turn, tt_R27_Turn, fns, [], [], [(0, [0, 1]), (1, [0, 25]), (2, [4]), (3, [4])]⟩
set_option maxRecDepth 100000 in
set_option maxHeartbeats 4000000 in
theorem c_R27_Turn : PCon Go.Proofs.Try.prog 21 lf_R27_Turn := by
  obtain ⟨fns, hfns, hf⟩ : ∃ fns, fns = [] ∧ FnsOk Go.Proofs.Try.prog fns := ⟨_, rfl, FnsOk.nil _⟩
  refine lift_con (E := E_R27_Turn fns) (c := bodyOf Try.f21) (nt := 28) (rs := [.tmp 4]) (ts := [3]) (EnvC.sub tt_ok et_ok hf (PrsOk.nil _) tt_R27_Turn_ok et_R27_Turn_ok) (PrOk.of mixed_ok) Go.Proofs.Try.func21 rfl (by decide) rfl rfl rfl (pureR_one (e := (.int .i64)) rfl) ?_
  subst hfns
  intro x r hw hs
  repeat'
    (try (conv => whnf)
     first
       | (have hs := letv_out hs)
       | (refine br_bool (fun h => ?_) (fun h => ?_) <;> first | have hs := cT h hs | have hs := cF h hs)
       | refine chk_elim hs fun hs => ?_
       | exact fin_some hs rfl
       | (have hs := cT rfl hs)
       | (have hs := cF rfl hs)
       | (refine draw_and (by kernel_rfl) ?_))
end Go.Proofs.YtoihmfgkmndjfaaV
