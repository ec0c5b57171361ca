import Derived.Test.YtoihmfgkmndjfaaVcTab
import Derived.Test.YtoihmfgkmndjfaaDL27
import Derived.Test.YtoihmfgkmndjfaaCR27
import Derived.Test.YtoihmfgkmndjfaaCchoose
namespace Go.Proofs.YtoihmfgkmndjfaaV
open Go.Proofs
set_option linter.unusedVariables false
noncomputable def lf_L27_alive : List AV → Option AV := liftF .unit (unpack .bool) (fun x => L27_alive)
def tt_L27_alive : List (Nat × Ty) := [(3, .int .i64), (4, .bool), (22, .sl (.int .i64)), (26, .pair (.int .i64) (.pair (.int .i64) (.pair (.int .i64) (.pair (.sl (.int .i64)) .unit)))), (27, .int .i64)]
def et_L27_alive : List (Nat × Nat) := [(22, 3)]
theorem tt_L27_alive_ok : subT tt tt_L27_alive = true := by kernel_rfl
theorem et_L27_alive_ok : subE et et_L27_alive = true := by kernel_rfl
noncomputable def E_L27_alive (fns : List (Nat × (List AV → Option AV))) : Env := ⟨0, 0, et_L27_alive, tt_L27_alive, fns, [], [], [(0, []), (1, [1]), (2, [1, 2, 3]), (3, [1, 2, 3]), (4, [1, 2, 3, 4, 5]), (5, [1, 2, 3, 4, 5]), (6, [1, 2, 3, 4, 5, 7]), (7, [0])]⟩
set_option maxRecDepth 100000 in
set_option maxHeartbeats 4000000 in
theorem c_L27_alive : PCon Go.Proofs.Try.prog 15 lf_L27_alive := by
  obtain ⟨G16, hG16, cG16⟩ : ∃ G : ((.pair (.pair (.int .i64) (.pair (.int .i64) (.pair (.int .i64) (.pair (.sl (.int .i64)) .unit)))) (.pair (.int .i64) .unit)) : Ty).den → Option (Int × Int × Unit), (∀ x, G x = choose_Choose x.1 x.2.1) ∧ PCon Go.Proofs.Try.prog 16 (liftF (.pair (.pair (.int .i64) (.pair (.int .i64) (.pair (.int .i64) (.pair (.sl (.int .i64)) .unit)))) (.pair (.int .i64) .unit)) (unpR (.pair (.int .i64) (.pair (.int .i64) .unit))) G) := ⟨_, fun _ => rfl, c_choose_Choose⟩
  obtain ⟨G18, hG18, cG18⟩ : ∃ G : ((.pair (.pair (.int .i64) (.pair (.int .i64) (.pair (.int .i64) (.pair (.sl (.int .i64)) .unit)))) .unit) : Ty).den → Option Bool, (∀ x, G x = choose_Fine x.1) ∧ PCon Go.Proofs.Try.prog 18 (liftF (.pair (.pair (.int .i64) (.pair (.int .i64) (.pair (.int .i64) (.pair (.sl (.int .i64)) .unit)))) .unit) (unpack .bool) G) := ⟨_, fun _ => rfl, c_choose_Fine⟩
  obtain ⟨G20, hG20, cG20⟩ : ∃ G : ((.pair (.int .i64) (.pair (.int .i64) .unit)) : Ty).den → Option Int, (∀ x, G x = choose_Turn x.1 x.2.1) ∧ PCon Go.Proofs.Try.prog 20 (liftF (.pair (.int .i64) (.pair (.int .i64) .unit)) (unpack (.int .i64)) G) := ⟨_, fun _ => rfl, c_choose_Turn⟩
  obtain ⟨fns, hfns, hf⟩ : ∃ fns, fns = [(16, liftF (.pair (.pair (.int .i64) (.pair (.int .i64) (.pair (.int .i64) (.pair (.sl (.int .i64)) .unit)))) (.pair (.int .i64) .unit)) (unpR (.pair (.int .i64) (.pair (.int .i64) .unit))) G16), (18, liftF (.pair (.pair (.int .i64) (.pair (.int .i64) (.pair (.int .i64) (.pair (.sl (.int .i64)) .unit)))) .unit) (unpack .bool) G18), (20, liftF (.pair (.int .i64) (.pair (.int .i64) .unit)) (unpack (.int .i64)) G20)] ∧ FnsOk Go.Proofs.Try.prog fns := ⟨_, rfl, FnsOk.cons cG16 (FnsOk.cons cG18 (FnsOk.cons cG20 (FnsOk.nil _)))⟩
  refine lift_con (E := E_L27_alive fns) (c := bodyOf Try.f15) (nt := 62) (rs := [.tmp 0]) (ts := [4]) (EnvC.sub tt_ok et_ok hf (PrsOk.nil _) tt_L27_alive_ok et_L27_alive_ok) (PrOk.of mixed_ok) Go.Proofs.Try.func15 rfl (by decide) rfl rfl rfl (pureR_one (e := .bool) rfl) ?_
  subst hfns
  intro x r hw hs
  repeat'
    (try (conv => whnf)
     first
       | (have hs := letv_out hs)
       | (refine br_bool (fun h => ?_) (fun h => ?_) <;> first | have hs := cT h hs | have hs := cF h hs)
       | (refine bind_elim hs fun v hb hs => ?_; first | refine callK_lift rfl ((hG16 _).trans hb) ?_ | refine callK_lift rfl ((hG18 _).trans hb) ?_ | refine callK_lift rfl ((hG20 _).trans hb) ?_)
       | refine chk_elim hs fun hs => ?_
       | exact fin_some hs rfl
       | (have hs := cT rfl hs)
       | (have hs := cF rfl hs)
       | (refine draw_and (by kernel_rfl) ?_))
noncomputable def lf_L27_ChooseTells : List AV → Option AV := liftF (.pair (.pair (.int .i64) (.pair (.int .i64) (.pair (.int .i64) (.pair (.sl (.int .i64)) .unit)))) (.pair (.int .i64) .unit)) (unpack .bool) (fun x => L27_ChooseTells x.1 x.2.1)
def tt_L27_ChooseTells : List (Nat × Ty) := [(3, .int .i64), (4, .bool), (22, .sl (.int .i64)), (24, .pair (.int .i64) (.pair (.int .i64) (.pair (.int .i64) (.pair (.sl (.int .i64)) .unit)))), (26, .pair (.int .i64) (.pair (.int .i64) (.pair (.int .i64) (.pair (.sl (.int .i64)) .unit))))]
def et_L27_ChooseTells : List (Nat × Nat) := [(22, 3)]
theorem tt_L27_ChooseTells_ok : subT tt tt_L27_ChooseTells = true := by kernel_rfl
theorem et_L27_ChooseTells_ok : subE et et_L27_ChooseTells = true := by kernel_rfl
noncomputable def E_L27_ChooseTells (fns : List (Nat × (List AV → Option AV))) : Env := ⟨0, 0, et_L27_ChooseTells, tt_L27_ChooseTells, fns, [], [(6, [0, 2, 1, 100003, 4, 5, 6, 7, 8, 9, 10, 11, 12, 13, 14, 15, 16, 17, 18, 19, 21, 22, 23, 24, 20, 100025, 26, 27, 28, 29, 30, 31, 33, 34, 35, 32, 100036, 37, 38, 39, 100040, 41, 42])], [(0, [1, 2]), (1, [1, 2, 13]), (2, [4]), (3, [1, 2, 5]), (4, [1, 2, 5, 6, 7]), (5, [1, 2, 5, 6, 7, 8, 9]), (6, [4])]⟩
set_option maxRecDepth 100000 in
set_option maxHeartbeats 4000000 in
theorem c_L27_ChooseTells : PCon Go.Proofs.Try.prog 3 lf_L27_ChooseTells := by
  obtain ⟨G15, hG15, cG15⟩ : ∃ G : (.unit : Ty).den → Option Bool, (∀ x, G x = L27_alive) ∧ PCon Go.Proofs.Try.prog 15 (liftF .unit (unpack .bool) G) := ⟨_, fun _ => rfl, c_L27_alive⟩
  obtain ⟨G16, hG16, cG16⟩ : ∃ G : ((.pair (.pair (.int .i64) (.pair (.int .i64) (.pair (.int .i64) (.pair (.sl (.int .i64)) .unit)))) (.pair (.int .i64) .unit)) : Ty).den → Option (Int × Int × Unit), (∀ x, G x = choose_Choose x.1 x.2.1) ∧ PCon Go.Proofs.Try.prog 16 (liftF (.pair (.pair (.int .i64) (.pair (.int .i64) (.pair (.int .i64) (.pair (.sl (.int .i64)) .unit)))) (.pair (.int .i64) .unit)) (unpR (.pair (.int .i64) (.pair (.int .i64) .unit))) G) := ⟨_, fun _ => rfl, c_choose_Choose⟩
  obtain ⟨G17, hG17, cG17⟩ : ∃ G : ((.pair (.pair (.int .i64) (.pair (.int .i64) (.pair (.int .i64) (.pair (.sl (.int .i64)) .unit)))) (.pair (.int .i64) .unit)) : Ty).den → Option (Int × Int × Unit), (∀ x, G x = R27_Choose x.1 x.2.1) ∧ PCon Go.Proofs.Try.prog 17 (liftF (.pair (.pair (.int .i64) (.pair (.int .i64) (.pair (.int .i64) (.pair (.sl (.int .i64)) .unit)))) (.pair (.int .i64) .unit)) (unpR (.pair (.int .i64) (.pair (.int .i64) .unit))) G) := ⟨_, fun _ => rfl, c_R27_Choose⟩
  obtain ⟨G18, hG18, cG18⟩ : ∃ G : ((.pair (.pair (.int .i64) (.pair (.int .i64) (.pair (.int .i64) (.pair (.sl (.int .i64)) .unit)))) .unit) : Ty).den → Option Bool, (∀ x, G x = choose_Fine x.1) ∧ PCon Go.Proofs.Try.prog 18 (liftF (.pair (.pair (.int .i64) (.pair (.int .i64) (.pair (.int .i64) (.pair (.sl (.int .i64)) .unit)))) .unit) (unpack .bool) G) := ⟨_, fun _ => rfl, c_choose_Fine⟩
  obtain ⟨G19, hG19, cG19⟩ : ∃ G : ((.pair (.pair (.int .i64) (.pair (.int .i64) (.pair (.int .i64) (.pair (.sl (.int .i64)) .unit)))) .unit) : Ty).den → Option Bool, (∀ x, G x = R27_Fine x.1) ∧ PCon Go.Proofs.Try.prog 19 (liftF (.pair (.pair (.int .i64) (.pair (.int .i64) (.pair (.int .i64) (.pair (.sl (.int .i64)) .unit)))) .unit) (unpack .bool) G) := ⟨_, fun _ => rfl, c_R27_Fine⟩
  obtain ⟨G20, hG20, cG20⟩ : ∃ G : ((.pair (.int .i64) (.pair (.int .i64) .unit)) : Ty).den → Option Int, (∀ x, G x = choose_Turn x.1 x.2.1) ∧ PCon Go.Proofs.Try.prog 20 (liftF (.pair (.int .i64) (.pair (.int .i64) .unit)) (unpack (.int .i64)) G) := ⟨_, fun _ => rfl, c_choose_Turn⟩
  obtain ⟨G21, hG21, cG21⟩ : ∃ G : ((.pair (.int .i64) (.pair (.int .i64) .unit)) : Ty).den → Option Int, (∀ x, G x = R27_Turn x.1 x.2.1) ∧ PCon Go.Proofs.Try.prog 21 (liftF (.pair (.int .i64) (.pair (.int .i64) .unit)) (unpack (.int .i64)) G) := ⟨_, fun _ => rfl, c_R27_Turn⟩
  obtain ⟨fns, hfns, hf⟩ : ∃ fns, fns = [(15, liftF .unit (unpack .bool) G15), (16, liftF (.pair (.pair (.int .i64) (.pair (.int .i64) (.pair (.int .i64) (.pair (.sl (.int .i64)) .unit)))) (.pair (.int .i64) .unit)) (unpR (.pair (.int .i64) (.pair (.int .i64) .unit))) G16), (17, liftF (.pair (.pair (.int .i64) (.pair (.int .i64) (.pair (.int .i64) (.pair (.sl (.int .i64)) .unit)))) (.pair (.int .i64) .unit)) (unpR (.pair (.int .i64) (.pair (.int .i64) .unit))) G17), (18, liftF (.pair (.pair (.int .i64) (.pair (.int .i64) (.pair (.int .i64) (.pair (.sl (.int .i64)) .unit)))) .unit) (unpack .bool) G18), (19, liftF (.pair (.pair (.int .i64) (.pair (.int .i64) (.pair (.int .i64) (.pair (.sl (.int .i64)) .unit)))) .unit) (unpack .bool) G19), (20, liftF (.pair (.int .i64) (.pair (.int .i64) .unit)) (unpack (.int .i64)) G20), (21, liftF (.pair (.int .i64) (.pair (.int .i64) .unit)) (unpack (.int .i64)) G21)] ∧ FnsOk Go.Proofs.Try.prog fns := ⟨_, rfl, FnsOk.cons cG15 (FnsOk.cons cG16 (FnsOk.cons cG17 (FnsOk.cons cG18 (FnsOk.cons cG19 (FnsOk.cons cG20 (FnsOk.cons cG21 (FnsOk.nil _)))))))⟩
  refine lift_con (E := E_L27_ChooseTells fns) (c := bodyOf Try.f3) (nt := 70) (rs := [.tmp 4]) (ts := [4]) (EnvC.sub tt_ok et_ok hf (PrsOk.nil _) tt_L27_ChooseTells_ok et_L27_ChooseTells_ok) (PrOk.of mixed_ok) Go.Proofs.Try.func3 rfl (by decide) rfl rfl rfl (pureR_one (e := .bool) rfl) ?_
  subst hfns
  intro x r hw hs
  repeat'
    (try (conv => whnf)
     first
       | (have hs := letv_out hs)
       | (refine br_bool (fun h => ?_) (fun h => ?_) <;> first | have hs := cT h hs | have hs := cF h hs)
       | (refine bind_elim hs fun v hb hs => ?_; first | refine callK_lift rfl ((hG15 _).trans hb) ?_ | refine callK_lift rfl ((hG16 _).trans hb) ?_ | refine callK_lift rfl ((hG17 _).trans hb) ?_ | refine callK_lift rfl ((hG18 _).trans hb) ?_ | refine callK_lift rfl ((hG19 _).trans hb) ?_ | refine callK_lift rfl ((hG20 _).trans hb) ?_ | refine callK_lift rfl ((hG21 _).trans hb) ?_)
       | refine chk_elim hs fun hs => ?_
       | exact fin_some hs rfl
       | (have hs := cT rfl hs)
       | (have hs := cF rfl hs)
       | (refine draw_and (by kernel_rfl) ?_))
noncomputable def lf_L27_some : List AV → Option AV := liftF (.pair (.int .u8) (.pair (.int .i64) (.pair (.int .i64) .unit))) (unpack (.sl (.int .i64))) (fun x => L27_some x.1 x.2.1 x.2.2.1)
def tt_L27_some : List (Nat × Ty) := [(3, .int .i64), (5, .int .u8), (22, .sl (.int .i64))]
def et_L27_some : List (Nat × Nat) := [(22, 3)]
theorem tt_L27_some_ok : subT tt tt_L27_some = true := by kernel_rfl
theorem et_L27_some_ok : subE et et_L27_some = true := by kernel_rfl
def L27_some_S1 (u0 : AV) (u1 : AV) (u2 : AV) (u3 : AV) (x1 : Int × List Int) : St :=
  ⟨[(0, u0), (2, u1), (7, u2), (9, u3), (10, .int .i64 x1.1)], [(26, .row 3 (.int .i64) x1.2 false)], none⟩
def L27_some_M1 : Msk := ⟨[0, 2, 7, 9, 10], [26], [(7, 26, 22)], [], [], [], [], [], []⟩
noncomputable def E_L27_some (fns : List (Nat × (List AV → Option AV))) : Env := ⟨0, 0, et_L27_some, tt_L27_some, fns, [], [], [(0, [0, 1, 2]), (1, [0, 1, 2, 7]), (2, [0, 2, 7, 9, 10]), (3, [0, 2, 7, 9, 10, 11]), (4, [0, 2, 7, 8, 9, 10]), (5, [0, 2, 7, 8, 9, 10, 22]), (6, [0, 2, 7, 9, 10]), (7, [0, 2, 7, 9, 10]), (8, [6])]⟩
set_option maxRecDepth 100000 in
set_option maxHeartbeats 4000000 in
theorem c_L27_some : PCon Go.Proofs.Try.prog 22 lf_L27_some := by
  obtain ⟨fns, hfns, hf⟩ : ∃ fns, fns = [] ∧ FnsOk Go.Proofs.Try.prog fns := ⟨_, rfl, FnsOk.nil _⟩
  refine lift_con (E := E_L27_some fns) (c := bodyOf Try.f22) (nt := 29) (rs := [.tmp 6]) (ts := [22]) (EnvC.sub tt_ok et_ok hf (PrsOk.nil _) tt_L27_some_ok et_L27_some_ok) (PrOk.of mixed_ok) Go.Proofs.Try.func22 rfl (by decide) rfl rfl rfl (pureR_one (e := (.sl (.int .i64))) rfl) ?_
  subst hfns
  intro x r hw hs
  repeat'
    (try (conv => whnf)
     first
       | (have hs := letv_out hs)
       | (refine br_bool (fun h => ?_) (fun h => ?_) <;> first | have hs := cT h hs | have hs := cF h hs)
       | refine chk_elim hs fun hs => ?_
       | exact fin_some hs rfl
       | exact hJ1 _ hs
       | (have hs := cT rfl hs)
       | (have hs := cF rfl hs)
       | (refine draw_and (by kernel_rfl) ?_)
       | (refine vc_loop (L27_some_S1 _ _ _ _) L27_some_M1 hs rfl ?_; intro J1 k1 x1 hJ1 hs))
noncomputable def lf_L27_ChooseFair : List AV → Option AV := liftF (.pair (.arr 3 (.int .u8)) (.pair (.sl (.int .u8)) .unit)) (unpack .bool) (fun x => L27_ChooseFair x.1 x.2.1)
def tt_L27_ChooseFair : List (Nat × Ty) := [(3, .int .i64), (4, .bool), (5, .int .u8), (26, .pair (.int .i64) (.pair (.int .i64) (.pair (.int .i64) (.pair (.sl (.int .i64)) .unit)))), (27, .int .i64), (36, .arr 3 (.int .u8)), (37, .sl (.int .u8))]
def et_L27_ChooseFair : List (Nat × Nat) := [(37, 5)]
theorem tt_L27_ChooseFair_ok : subT tt tt_L27_ChooseFair = true := by kernel_rfl
theorem et_L27_ChooseFair_ok : subE et et_L27_ChooseFair = true := by kernel_rfl
def L27_ChooseFair_S1 (u0 : AV) (u1 : AV) (u2 : AV) (x1 : Int × Int × Int) : St :=
  ⟨[(1, u0), (5, u1), (6, u2), (7, .int .i64 x1.1), (8, .int .i64 x1.2.1), (9, .int .i64 x1.2.2)], [], none⟩
def L27_ChooseFair_M1 : Msk := ⟨[1, 5, 6, 7, 8, 9], [], [], [], [], [], [], [], []⟩
noncomputable def E_L27_ChooseFair (fns : List (Nat × (List AV → Option AV))) : Env := ⟨0, 0, et_L27_ChooseFair, tt_L27_ChooseFair, fns, [], [(2, [0, 1, 2, 3, 4, 5, 6, 7, 8, 9, 10, 11])], [(0, [1, 2]), (1, [1, 2, 5]), (2, [1, 5, 6, 7]), (3, [1, 5, 6, 7, 8]), (4, [1, 5, 6, 7, 8, 9]), (5, [1, 5, 6, 7, 8, 9, 34]), (6, [1, 5, 6, 7, 8, 9]), (7, [1, 5, 6, 8, 9, 10, 11]), (8, [1, 5, 6, 8, 9, 10, 62]), (9, [4]), (10, [1, 5, 6, 8, 9, 10]), (11, [1, 5, 6, 8, 9, 10, 67]), (12, [1, 5, 6, 8, 9, 10]), (13, [1, 5, 6, 8, 9, 10, 70]), (14, [4]), (15, [1, 5, 6, 7, 8, 9]), (16, [4])]⟩
set_option maxRecDepth 100000 in
set_option maxHeartbeats 4000000 in
theorem c_L27_ChooseFair : PCon Go.Proofs.Try.prog 4 lf_L27_ChooseFair := by
  obtain ⟨G15, hG15, cG15⟩ : ∃ G : (.unit : Ty).den → Option Bool, (∀ x, G x = L27_alive) ∧ PCon Go.Proofs.Try.prog 15 (liftF .unit (unpack .bool) G) := ⟨_, fun _ => rfl, c_L27_alive⟩
  obtain ⟨G16, hG16, cG16⟩ : ∃ G : ((.pair (.pair (.int .i64) (.pair (.int .i64) (.pair (.int .i64) (.pair (.sl (.int .i64)) .unit)))) (.pair (.int .i64) .unit)) : Ty).den → Option (Int × Int × Unit), (∀ x, G x = choose_Choose x.1 x.2.1) ∧ PCon Go.Proofs.Try.prog 16 (liftF (.pair (.pair (.int .i64) (.pair (.int .i64) (.pair (.int .i64) (.pair (.sl (.int .i64)) .unit)))) (.pair (.int .i64) .unit)) (unpR (.pair (.int .i64) (.pair (.int .i64) .unit))) G) := ⟨_, fun _ => rfl, c_choose_Choose⟩
  obtain ⟨G20, hG20, cG20⟩ : ∃ G : ((.pair (.int .i64) (.pair (.int .i64) .unit)) : Ty).den → Option Int, (∀ x, G x = choose_Turn x.1 x.2.1) ∧ PCon Go.Proofs.Try.prog 20 (liftF (.pair (.int .i64) (.pair (.int .i64) .unit)) (unpack (.int .i64)) G) := ⟨_, fun _ => rfl, c_choose_Turn⟩
  obtain ⟨G22, hG22, cG22⟩ : ∃ G : ((.pair (.int .u8) (.pair (.int .i64) (.pair (.int .i64) .unit))) : Ty).den → Option (List Int), (∀ x, G x = L27_some x.1 x.2.1 x.2.2.1) ∧ PCon Go.Proofs.Try.prog 22 (liftF (.pair (.int .u8) (.pair (.int .i64) (.pair (.int .i64) .unit))) (unpack (.sl (.int .i64))) G) := ⟨_, fun _ => rfl, c_L27_some⟩
  obtain ⟨fns, hfns, hf⟩ : ∃ fns, fns = [(15, liftF .unit (unpack .bool) G15), (16, liftF (.pair (.pair (.int .i64) (.pair (.int .i64) (.pair (.int .i64) (.pair (.sl (.int .i64)) .unit)))) (.pair (.int .i64) .unit)) (unpR (.pair (.int .i64) (.pair (.int .i64) .unit))) G16), (20, liftF (.pair (.int .i64) (.pair (.int .i64) .unit)) (unpack (.int .i64)) G20), (22, liftF (.pair (.int .u8) (.pair (.int .i64) (.pair (.int .i64) .unit))) (unpack (.sl (.int .i64))) G22)] ∧ FnsOk Go.Proofs.Try.prog fns := ⟨_, rfl, FnsOk.cons cG15 (FnsOk.cons cG16 (FnsOk.cons cG20 (FnsOk.cons cG22 (FnsOk.nil _))))⟩
  refine lift_con (E := E_L27_ChooseFair fns) (c := bodyOf Try.f4) (nt := 75) (rs := [.tmp 4]) (ts := [4]) (EnvC.sub tt_ok et_ok hf (PrsOk.nil _) tt_L27_ChooseFair_ok et_L27_ChooseFair_ok) (PrOk.of mixed_ok) Go.Proofs.Try.func4 rfl (by decide) rfl rfl rfl (pureR_one (e := .bool) rfl) ?_
  subst hfns
  intro x r hw hs
  repeat'
    (try (conv => whnf)
     first
       | (have hs := letv_out hs)
       | (refine br_bool (fun h => ?_) (fun h => ?_) <;> first | have hs := cT h hs | have hs := cF h hs)
       | (refine bind_elim hs fun v hb hs => ?_; first | refine callK_lift rfl ((hG15 _).trans hb) ?_ | refine callK_lift rfl ((hG16 _).trans hb) ?_ | refine callK_lift rfl ((hG20 _).trans hb) ?_ | refine callK_lift rfl ((hG22 _).trans hb) ?_)
       | refine chk_elim hs fun hs => ?_
       | exact fin_some hs rfl
       | exact hJ1 _ hs
       | (have hs := cT rfl hs)
       | (have hs := cF rfl hs)
       | (refine draw_and (by kernel_rfl) ?_)
       | (refine vc_loop (L27_ChooseFair_S1 _ _ _) L27_ChooseFair_M1 hs rfl ?_; intro J1 k1 x1 hJ1 hs))
noncomputable def lf_L27_ChooseEach : List AV → Option AV := liftF (.pair (.arr 3 (.int .u8)) (.pair (.int .i64) .unit)) (unpack .bool) (fun x => L27_ChooseEach x.1 x.2.1)
def tt_L27_ChooseEach : List (Nat × Ty) := [(3, .int .i64), (4, .bool), (5, .int .u8), (22, .sl (.int .i64)), (26, .pair (.int .i64) (.pair (.int .i64) (.pair (.int .i64) (.pair (.sl (.int .i64)) .unit)))), (27, .int .i64), (36, .arr 3 (.int .u8))]
def et_L27_ChooseEach : List (Nat × Nat) := [(22, 3)]
theorem tt_L27_ChooseEach_ok : subT tt tt_L27_ChooseEach = true := by kernel_rfl
theorem et_L27_ChooseEach_ok : subE et et_L27_ChooseEach = true := by kernel_rfl
def L27_ChooseEach_S1 (u0 : AV) (u1 : AV) (u2 : AV) (u3 : AV) (u4 : AV) (u5 : AV) (x1 : Bool × Bool × Int) : St :=
  ⟨[(5, u0), (6, u1), (7, u2), (10, u3), (12, .bool x1.1), (13, .bool x1.2.1), (62, u4), (63, u5), (64, .int .i64 x1.2.2)], [], none⟩
def L27_ChooseEach_M1 : Msk := ⟨[5, 6, 7, 10, 12, 13, 62, 63, 64], [], [], [], [], [], [], [], []⟩
noncomputable def E_L27_ChooseEach (fns : List (Nat × (List AV → Option AV))) : Env := ⟨0, 0, et_L27_ChooseEach, tt_L27_ChooseEach, fns, [], [], [(0, [1, 2]), (1, [1, 2, 5]), (2, [1, 2, 5, 6]), (3, [1, 5, 6, 7]), (4, [1, 5, 6, 7, 8, 9]), (5, [5, 6, 7, 8, 9, 10, 11]), (6, [5, 6, 7, 10, 61]), (7, [4]), (8, [5, 6, 7, 10, 12, 13]), (9, [5, 6, 7, 10, 12, 13, 62, 63, 64]), (10, [5, 6, 7, 10, 12, 13, 62, 63, 64, 65]), (11, [5, 6, 7, 10, 12, 13, 14, 15, 62, 63, 64]), (12, [5, 6, 7, 10, 12, 13, 15, 16, 17, 62, 63, 64]), (13, [5, 6, 7, 10, 12, 13, 15, 16, 62, 63, 64, 83]), (14, [4]), (15, [5, 6, 7, 10, 12, 13, 16, 62, 63, 64]), (16, [5, 6, 7, 10, 12, 13, 62, 63, 64]), (17, [5, 6, 7, 10, 12, 13, 62, 63, 64]), (18, [4])]⟩
set_option maxRecDepth 100000 in
set_option maxHeartbeats 4000000 in
theorem c_L27_ChooseEach : PCon Go.Proofs.Try.prog 5 lf_L27_ChooseEach := by
  obtain ⟨G15, hG15, cG15⟩ : ∃ G : (.unit : Ty).den → Option Bool, (∀ x, G x = L27_alive) ∧ PCon Go.Proofs.Try.prog 15 (liftF .unit (unpack .bool) G) := ⟨_, fun _ => rfl, c_L27_alive⟩
  obtain ⟨G16, hG16, cG16⟩ : ∃ G : ((.pair (.pair (.int .i64) (.pair (.int .i64) (.pair (.int .i64) (.pair (.sl (.int .i64)) .unit)))) (.pair (.int .i64) .unit)) : Ty).den → Option (Int × Int × Unit), (∀ x, G x = choose_Choose x.1 x.2.1) ∧ PCon Go.Proofs.Try.prog 16 (liftF (.pair (.pair (.int .i64) (.pair (.int .i64) (.pair (.int .i64) (.pair (.sl (.int .i64)) .unit)))) (.pair (.int .i64) .unit)) (unpR (.pair (.int .i64) (.pair (.int .i64) .unit))) G) := ⟨_, fun _ => rfl, c_choose_Choose⟩
  obtain ⟨G22, hG22, cG22⟩ : ∃ G : ((.pair (.int .u8) (.pair (.int .i64) (.pair (.int .i64) .unit))) : Ty).den → Option (List Int), (∀ x, G x = L27_some x.1 x.2.1 x.2.2.1) ∧ PCon Go.Proofs.Try.prog 22 (liftF (.pair (.int .u8) (.pair (.int .i64) (.pair (.int .i64) .unit))) (unpack (.sl (.int .i64))) G) := ⟨_, fun _ => rfl, c_L27_some⟩
  obtain ⟨fns, hfns, hf⟩ : ∃ fns, fns = [(15, liftF .unit (unpack .bool) G15), (16, liftF (.pair (.pair (.int .i64) (.pair (.int .i64) (.pair (.int .i64) (.pair (.sl (.int .i64)) .unit)))) (.pair (.int .i64) .unit)) (unpR (.pair (.int .i64) (.pair (.int .i64) .unit))) G16), (22, liftF (.pair (.int .u8) (.pair (.int .i64) (.pair (.int .i64) .unit))) (unpack (.sl (.int .i64))) G22)] ∧ FnsOk Go.Proofs.Try.prog fns := ⟨_, rfl, FnsOk.cons cG15 (FnsOk.cons cG16 (FnsOk.cons cG22 (FnsOk.nil _)))⟩
  refine lift_con (E := E_L27_ChooseEach fns) (c := bodyOf Try.f5) (nt := 104) (rs := [.tmp 4]) (ts := [4]) (EnvC.sub tt_ok et_ok hf (PrsOk.nil _) tt_L27_ChooseEach_ok et_L27_ChooseEach_ok) (PrOk.of mixed_ok) Go.Proofs.Try.func5 rfl (by decide) rfl rfl rfl (pureR_one (e := .bool) rfl) ?_
  subst hfns
  intro x r hw hs
  repeat'
    (try (conv => whnf)
     first
       | (have hs := letv_out hs)
       | (refine br_bool (fun h => ?_) (fun h => ?_) <;> first | have hs := cT h hs | have hs := cF h hs)
       | (refine bind_elim hs fun v hb hs => ?_; first | refine callK_lift rfl ((hG15 _).trans hb) ?_ | refine callK_lift rfl ((hG16 _).trans hb) ?_ | refine callK_lift rfl ((hG22 _).trans hb) ?_)
       | refine chk_elim hs fun hs => ?_
       | exact fin_some hs rfl
       | exact hJ1 _ hs
       | (have hs := cT rfl hs)
       | (have hs := cF rfl hs)
       | (refine draw_and (by kernel_rfl) ?_)
       | (refine vc_loop (L27_ChooseEach_S1 _ _ _ _ _ _) L27_ChooseEach_M1 hs rfl ?_; intro J1 k1 x1 hJ1 hs))
end Go.Proofs.YtoihmfgkmndjfaaV
