import Derived.Test.YtoihmfgkmndjfaaVcTab
import Derived.Test.YtoihmfgkmndjfaaDchoose
namespace Go.Proofs.YtoihmfgkmndjfaaV
open Go.Proofs
set_option linter.unusedVariables false
noncomputable def lf_choose_guard : List AV → Option AV := liftF (.pair (.int .i64) (.pair (.int .i64) .unit)) (unpack .bool) (fun x => choose_guard x.1 x.2.1)
def tt_choose_guard : List (Nat × Ty) := [(3, .int .i64), (4, .bool)]
def et_choose_guard : List (Nat × Nat) := []
theorem tt_choose_guard_ok : subT tt tt_choose_guard = true := by kernel_rfl
theorem et_choose_guard_ok : subE et et_choose_guard = true := by kernel_rfl
noncomputable def E_choose_guard (fns : List (Nat × (List AV → Option AV))) : Env := ⟨0, 0, et_choose_guard, tt_choose_guard, fns, [], [], [(0, [0, 1]), (1, [4])]⟩
set_option maxRecDepth 100000 in
set_option maxHeartbeats 4000000 in
theorem c_choose_guard : PCon Go.Proofs.Try.prog 68 lf_choose_guard := by
  obtain ⟨fns, hfns, hf⟩ : ∃ fns, fns = [] ∧ FnsOk Go.Proofs.Try.prog fns := ⟨_, rfl, FnsOk.nil _⟩
  refine lift_con (E := E_choose_guard fns) (c := bodyOf Try.f68) (nt := 20) (rs := [.tmp 4]) (ts := [4]) (EnvC.sub tt_ok et_ok hf (PrsOk.nil _) tt_choose_guard_ok et_choose_guard_ok) (PrOk.of mixed_ok) Go.Proofs.Try.func68 rfl (by decide) rfl rfl rfl (pureR_one (e := .bool) rfl) ?_
  subst hfns
  intro x r hw hs
  repeat'
    (try (conv => whnf)
     first
       | (have hs := letv_out hs)
       | (refine br_bool (fun h => ?_) (fun h => ?_) <;> first | have hs := cT h hs | have hs := cF h hs)
       | refine chk_elim hs fun hs => ?_
       | exact fin_some hs rfl
       | (have hs := cT rfl hs)
       | (have hs := cF rfl hs)
       | (refine draw_and (by kernel_rfl) ?_))
noncomputable def lf_choose_Fine : List AV → Option AV := liftF (.pair (.pair (.int .i64) (.pair (.int .i64) (.pair (.int .i64) (.pair (.sl (.int .i64)) .unit)))) .unit) (unpack .bool) (fun x => choose_Fine x.1)
def tt_choose_Fine : List (Nat × Ty) := [(3, .int .i64), (4, .bool), (22, .sl (.int .i64)), (26, .pair (.int .i64) (.pair (.int .i64) (.pair (.int .i64) (.pair (.sl (.int .i64)) .unit))))]
def et_choose_Fine : List (Nat × Nat) := [(22, 3)]
theorem tt_choose_Fine_ok : subT tt tt_choose_Fine = true := by kernel_rfl
theorem et_choose_Fine_ok : subE et et_choose_Fine = true := by kernel_rfl
def choose_Fine_S1 (u0 : AV) (u1 : AV) (u2 : AV) (B4 : Blk) (x1 : Int × Int) : St :=
  ⟨[(1, u0), (3, .int .i64 x1.1), (23, u1), (24, u2), (25, .int .i64 x1.2)], [(1, B4)], none⟩
def choose_Fine_M1 : Msk := ⟨[1, 3, 23, 24, 25], [1], [], [], [], [], [], [], []⟩
noncomputable def E_choose_Fine (fns : List (Nat × (List AV → Option AV))) : Env := ⟨0, 0, et_choose_Fine, tt_choose_Fine, fns, [], [], [(0, [1]), (1, [1, 21]), (2, [2]), (3, [1, 3]), (4, [1, 3, 23, 24, 25]), (5, [1, 3, 23, 24, 25, 26]), (6, [1, 3, 5, 23, 24, 25]), (7, [1, 5, 23, 24, 25, 38]), (8, [2]), (9, [1, 3, 23, 24, 25]), (10, [1, 3, 23, 24, 25]), (11, [2])]⟩
set_option maxRecDepth 100000 in
set_option maxHeartbeats 4000000 in
theorem c_choose_Fine : PCon Go.Proofs.Try.prog 18 lf_choose_Fine := by
  obtain ⟨G68, hG68, cG68⟩ : ∃ G : ((.pair (.int .i64) (.pair (.int .i64) .unit)) : Ty).den → Option Bool, (∀ x, G x = choose_guard x.1 x.2.1) ∧ PCon Go.Proofs.Try.prog 68 (liftF (.pair (.int .i64) (.pair (.int .i64) .unit)) (unpack .bool) G) := ⟨_, fun _ => rfl, c_choose_guard⟩
  obtain ⟨fns, hfns, hf⟩ : ∃ fns, fns = [(68, liftF (.pair (.int .i64) (.pair (.int .i64) .unit)) (unpack .bool) G68)] ∧ FnsOk Go.Proofs.Try.prog fns := ⟨_, rfl, FnsOk.cons cG68 (FnsOk.nil _)⟩
  refine lift_con (E := E_choose_Fine fns) (c := bodyOf Try.f18) (nt := 41) (rs := [.tmp 2]) (ts := [4]) (EnvC.sub tt_ok et_ok hf (PrsOk.nil _) tt_choose_Fine_ok et_choose_Fine_ok) (PrOk.of mixed_ok) Go.Proofs.Try.func18 rfl (by decide) rfl rfl rfl (pureR_one (e := .bool) rfl) ?_
  subst hfns
  intro x r hw hs
  repeat'
    (try (conv => whnf)
     first
       | (have hs := letv_out hs)
       | (refine br_bool (fun h => ?_) (fun h => ?_) <;> first | have hs := cT h hs | have hs := cF h hs)
       | (refine bind_elim hs fun v hb hs => ?_; first | refine callK_lift rfl ((hG68 _).trans hb) ?_)
       | refine chk_elim hs fun hs => ?_
       | exact fin_some hs rfl
       | exact hJ1 _ hs
       | (have hs := cT rfl hs)
       | (have hs := cF rfl hs)
       | (refine draw_and (by kernel_rfl) ?_)
       | (refine vc_loop (choose_Fine_S1 _ _ _ _) choose_Fine_M1 hs rfl ?_; intro J1 k1 x1 hJ1 hs))
noncomputable def lf_choose_Choose : List AV → Option AV := liftF (.pair (.pair (.int .i64) (.pair (.int .i64) (.pair (.int .i64) (.pair (.sl (.int .i64)) .unit)))) (.pair (.int .i64) .unit)) (unpR (.pair (.int .i64) (.pair (.int .i64) .unit))) (fun x => choose_Choose x.1 x.2.1)
def tt_choose_Choose : List (Nat × Ty) := [(3, .int .i64), (4, .bool), (22, .sl (.int .i64)), (26, .pair (.int .i64) (.pair (.int .i64) (.pair (.int .i64) (.pair (.sl (.int .i64)) .unit)))), (27, .int .i64)]
def et_choose_Choose : List (Nat × Nat) := [(22, 3)]
theorem tt_choose_Choose_ok : subT tt tt_choose_Choose = true := by kernel_rfl
theorem et_choose_Choose_ok : subE et et_choose_Choose = true := by kernel_rfl
def choose_Choose_S1 (u0 : AV) (u1 : AV) (u2 : AV) (B4 : Blk) (x1 : Int) : St :=
  ⟨[(2, u0), (24, u1), (25, u2), (26, .int .i64 x1)], [(2, B4)], none⟩
def choose_Choose_M1 : Msk := ⟨[2, 24, 25, 26], [2], [], [], [], [], [], [], []⟩
noncomputable def E_choose_Choose (fns : List (Nat × (List AV → Option AV))) : Env := ⟨0, 0, et_choose_Choose, tt_choose_Choose, fns, [], [(15, [0, 1, 2, 3, 4, 5, 6, 7, 8, 9, 10, 11, 12])], [(0, [1, 2]), (1, [1, 2, 6]), (2, [1, 2, 6, 12]), (3, [4, 5]), (4, [1, 2, 6, 16]), (5, [4, 5]), (6, [1, 2, 6, 20]), (7, [1, 2, 6, 20, 21]), (8, [2, 24, 25, 26]), (9, [2, 24, 25, 26, 27]), (10, [2, 8, 24, 25, 26]), (11, [2, 8, 24, 25, 26, 33]), (12, [4, 5]), (13, [2, 24, 25, 26]), (14, [1, 2, 6, 36]), (15, [4, 5]), (16, [4, 5])]⟩
set_option maxRecDepth 100000 in
set_option maxHeartbeats 4000000 in
theorem c_choose_Choose : PCon Go.Proofs.Try.prog 16 lf_choose_Choose := by
  obtain ⟨G18, hG18, cG18⟩ : ∃ G : ((.pair (.pair (.int .i64) (.pair (.int .i64) (.pair (.int .i64) (.pair (.sl (.int .i64)) .unit)))) .unit) : Ty).den → Option Bool, (∀ x, G x = choose_Fine x.1) ∧ PCon Go.Proofs.Try.prog 18 (liftF (.pair (.pair (.int .i64) (.pair (.int .i64) (.pair (.int .i64) (.pair (.sl (.int .i64)) .unit)))) .unit) (unpack .bool) G) := ⟨_, fun _ => rfl, c_choose_Fine⟩
  obtain ⟨fns, hfns, hf⟩ : ∃ fns, fns = [(18, liftF (.pair (.pair (.int .i64) (.pair (.int .i64) (.pair (.int .i64) (.pair (.sl (.int .i64)) .unit)))) .unit) (unpack .bool) G18)] ∧ FnsOk Go.Proofs.Try.prog fns := ⟨_, rfl, FnsOk.cons cG18 (FnsOk.nil _)⟩
  refine lift_con (E := E_choose_Choose fns) (c := bodyOf Try.f16) (nt := 53) (rs := [.tmp 4, .tmp 5]) (ts := [3, 27]) (EnvC.sub tt_ok et_ok hf (PrsOk.nil _) tt_choose_Choose_ok et_choose_Choose_ok) (PrOk.of mixed_ok) Go.Proofs.Try.func16 rfl (by decide) rfl rfl rfl (pureR_many (e := (.pair (.int .i64) (.pair (.int .i64) .unit))) rfl) ?_
  subst hfns
  intro x r hw hs
  repeat'
    (try (conv => whnf)
     first
       | (have hs := letv_out hs)
       | (refine br_bool (fun h => ?_) (fun h => ?_) <;> first | have hs := cT h hs | have hs := cF h hs)
       | (refine bind_elim hs fun v hb hs => ?_; first | refine callK_lift rfl ((hG18 _).trans hb) ?_)
       | refine chk_elim hs fun hs => ?_
       | exact fin_some hs rfl
       | exact hJ1 _ hs
       | (have hs := cT rfl hs)
       | (have hs := cF rfl hs)
       | (refine draw_and (by kernel_rfl) ?_)
       | (refine vc_loop (choose_Choose_S1 _ _ _ _) choose_Choose_M1 hs rfl ?_; intro J1 k1 x1 hJ1 hs))
noncomputable def lf_choose_Turn : List AV → Option AV := liftF (.pair (.int .i64) (.pair (.int .i64) .unit)) (unpack (.int .i64)) (fun x => choose_Turn x.1 x.2.1)
def tt_choose_Turn : List (Nat × Ty) := [(3, .int .i64), (4, .bool)]
def et_choose_Turn : List (Nat × Nat) := []
theorem tt_choose_Turn_ok : subT tt tt_choose_Turn = true := by kernel_rfl
theorem et_choose_Turn_ok : subE et et_choose_Turn = true := by kernel_rfl
noncomputable def E_choose_Turn (fns : List (Nat × (List AV → Option AV))) : Env := ⟨0, 0, et_choose_Turn, tt_choose_Turn, fns, [], [], [(0, [0, 1]), (1, [0, 1, 8]), (2, [4]), (3, [4])]⟩
set_option maxRecDepth 100000 in
set_option maxHeartbeats 4000000 in
theorem c_choose_Turn : PCon Go.Proofs.Try.prog 20 lf_choose_Turn := by
  obtain ⟨G68, hG68, cG68⟩ : ∃ G : ((.pair (.int .i64) (.pair (.int .i64) .unit)) : Ty).den → Option Bool, (∀ x, G x = choose_guard x.1 x.2.1) ∧ PCon Go.Proofs.Try.prog 68 (liftF (.pair (.int .i64) (.pair (.int .i64) .unit)) (unpack .bool) G) := ⟨_, fun _ => rfl, c_choose_guard⟩
  obtain ⟨fns, hfns, hf⟩ : ∃ fns, fns = [(68, liftF (.pair (.int .i64) (.pair (.int .i64) .unit)) (unpack .bool) G68)] ∧ FnsOk Go.Proofs.Try.prog fns := ⟨_, rfl, FnsOk.cons cG68 (FnsOk.nil _)⟩
  refine lift_con (E := E_choose_Turn fns) (c := bodyOf Try.f20) (nt := 13) (rs := [.tmp 4]) (ts := [3]) (EnvC.sub tt_ok et_ok hf (PrsOk.nil _) tt_choose_Turn_ok et_choose_Turn_ok) (PrOk.of mixed_ok) Go.Proofs.Try.func20 rfl (by decide) rfl rfl rfl (pureR_one (e := (.int .i64)) rfl) ?_
  subst hfns
  intro x r hw hs
  repeat'
    (try (conv => whnf)
     first
       | (have hs := letv_out hs)
       | (refine br_bool (fun h => ?_) (fun h => ?_) <;> first | have hs := cT h hs | have hs := cF h hs)
       | (refine bind_elim hs fun v hb hs => ?_; first | refine callK_lift rfl ((hG68 _).trans hb) ?_)
       | refine chk_elim hs fun hs => ?_
       | exact fin_some hs rfl
       | (have hs := cT rfl hs)
       | (have hs := cF rfl hs)
       | (refine draw_and (by kernel_rfl) ?_))
end Go.Proofs.YtoihmfgkmndjfaaV
