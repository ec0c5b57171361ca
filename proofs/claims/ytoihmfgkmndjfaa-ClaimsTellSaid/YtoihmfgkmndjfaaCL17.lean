import Derived.Test.YtoihmfgkmndjfaaVcTab
import Derived.Test.YtoihmfgkmndjfaaDL17
import Derived.Test.YtoihmfgkmndjfaaCR02
import Derived.Test.YtoihmfgkmndjfaaCR17
import Derived.Test.YtoihmfgkmndjfaaCclaims
namespace Go.Proofs.YtoihmfgkmndjfaaV
open Go.Proofs
set_option linter.unusedVariables false
noncomputable def lf_L17_alive : List AV → Option AV := liftF .unit (unpack .bool) (fun x => L17_alive)
def tt_L17_alive : List (Nat × Ty) := [(3, .int .i64), (4, .bool), (22, .sl (.int .i64)), (27, .int .i64), (70, .pair .bool (.pair (.sl (.int .i64)) .unit))]
def et_L17_alive : List (Nat × Nat) := [(22, 3)]
theorem tt_L17_alive_ok : subT tt tt_L17_alive = true := by kernel_rfl
theorem et_L17_alive_ok : subE et et_L17_alive = true := by kernel_rfl
noncomputable def E_L17_alive (fns : List (Nat × (List AV → Option AV))) : Env := ⟨0, 0, et_L17_alive, tt_L17_alive, fns, [], [(1000038, [])], [(0, []), (1, [1, 2]), (2, [2, 3, 4]), (3, [2, 3, 4, 6]), (4, [2, 3, 4, 6, 7, 8]), (5, [2, 3, 4, 6, 8, 9, 10]), (6, [2, 3, 4, 6, 8, 9, 10, 11, 12]), (7, [2, 3, 4, 6, 8, 9, 10, 11, 12, 14]), (8, [0])]⟩
set_option maxRecDepth 100000 in
set_option maxHeartbeats 4000000 in
theorem c_L17_alive : PCon Go.Proofs.Try.prog 37 lf_L17_alive := by
  obtain ⟨G38, hG38, cG38⟩ : ∃ G : ((.pair (.pair .bool (.pair (.sl (.int .i64)) .unit)) (.pair (.int .i64) .unit)) : Ty).den → Option ((Bool × (List Int) × Unit) × Int × Unit), (∀ x, G x = claims_Join x.1 x.2.1) ∧ PCon Go.Proofs.Try.prog 38 (liftF (.pair (.pair .bool (.pair (.sl (.int .i64)) .unit)) (.pair (.int .i64) .unit)) (unpR (.pair (.pair .bool (.pair (.sl (.int .i64)) .unit)) (.pair (.int .i64) .unit))) G) := ⟨_, fun _ => rfl, c_claims_Join⟩
  obtain ⟨G40, hG40, cG40⟩ : ∃ G : ((.pair (.pair .bool (.pair (.sl (.int .i64)) .unit)) (.pair (.int .i64) .unit)) : Ty).den → Option ((Bool × (List Int) × Unit) × Bool × Unit), (∀ x, G x = claims_Leave x.1 x.2.1) ∧ PCon Go.Proofs.Try.prog 40 (liftF (.pair (.pair .bool (.pair (.sl (.int .i64)) .unit)) (.pair (.int .i64) .unit)) (unpR (.pair (.pair .bool (.pair (.sl (.int .i64)) .unit)) (.pair .bool .unit))) G) := ⟨_, fun _ => rfl, c_claims_Leave⟩
  obtain ⟨G42, hG42, cG42⟩ : ∃ G : ((.pair (.pair .bool (.pair (.sl (.int .i64)) .unit)) .unit) : Ty).den → Option (Int × Bool × Unit), (∀ x, G x = claims_Head x.1) ∧ PCon Go.Proofs.Try.prog 42 (liftF (.pair (.pair .bool (.pair (.sl (.int .i64)) .unit)) .unit) (unpR (.pair (.int .i64) (.pair .bool .unit))) G) := ⟨_, fun _ => rfl, c_claims_Head⟩
  obtain ⟨G44, hG44, cG44⟩ : ∃ G : ((.pair (.pair .bool (.pair (.sl (.int .i64)) .unit)) (.pair (.int .i64) .unit)) : Ty).den → Option (Int × Bool × Unit), (∀ x, G x = claims_Ahead x.1 x.2.1) ∧ PCon Go.Proofs.Try.prog 44 (liftF (.pair (.pair .bool (.pair (.sl (.int .i64)) .unit)) (.pair (.int .i64) .unit)) (unpR (.pair (.int .i64) (.pair .bool .unit))) G) := ⟨_, fun _ => rfl, c_claims_Ahead⟩
  obtain ⟨G46, hG46, cG46⟩ : ∃ G : ((.pair (.pair .bool (.pair (.sl (.int .i64)) .unit)) .unit) : Ty).den → Option Bool, (∀ x, G x = claims_Fine x.1) ∧ PCon Go.Proofs.Try.prog 46 (liftF (.pair (.pair .bool (.pair (.sl (.int .i64)) .unit)) .unit) (unpack .bool) G) := ⟨_, fun _ => rfl, c_claims_Fine⟩
  obtain ⟨fns, hfns, hf⟩ : ∃ fns, fns = [(38, liftF (.pair (.pair .bool (.pair (.sl (.int .i64)) .unit)) (.pair (.int .i64) .unit)) (unpR (.pair (.pair .bool (.pair (.sl (.int .i64)) .unit)) (.pair (.int .i64) .unit))) G38), (40, liftF (.pair (.pair .bool (.pair (.sl (.int .i64)) .unit)) (.pair (.int .i64) .unit)) (unpR (.pair (.pair .bool (.pair (.sl (.int .i64)) .unit)) (.pair .bool .unit))) G40), (42, liftF (.pair (.pair .bool (.pair (.sl (.int .i64)) .unit)) .unit) (unpR (.pair (.int .i64) (.pair .bool .unit))) G42), (44, liftF (.pair (.pair .bool (.pair (.sl (.int .i64)) .unit)) (.pair (.int .i64) .unit)) (unpR (.pair (.int .i64) (.pair .bool .unit))) G44), (46, liftF (.pair (.pair .bool (.pair (.sl (.int .i64)) .unit)) .unit) (unpack .bool) G46)] ∧ FnsOk Go.Proofs.Try.prog fns := ⟨_, rfl, FnsOk.cons cG38 (FnsOk.cons cG40 (FnsOk.cons cG42 (FnsOk.cons cG44 (FnsOk.cons cG46 (FnsOk.nil _)))))⟩
  refine lift_con (E := E_L17_alive fns) (c := bodyOf Try.f37) (nt := 92) (rs := [.tmp 0]) (ts := [4]) (EnvC.sub tt_ok et_ok hf (PrsOk.nil _) tt_L17_alive_ok et_L17_alive_ok) (PrOk.of mixed_ok) Go.Proofs.Try.func37 rfl (by decide) rfl rfl rfl (pureR_one (e := .bool) rfl) ?_
  subst hfns
  intro x r hw hs
  repeat'
    (try (conv => whnf)
     first
       | (have hs := letv_out hs)
       | (refine br_bool (fun h => ?_) (fun h => ?_) <;> first | have hs := cT h hs | have hs := cF h hs)
       | (refine bind_elim hs fun v hb hs => ?_; first | refine callK_lift rfl ((hG38 _).trans hb) ?_ | refine callK_lift rfl ((hG40 _).trans hb) ?_ | refine callK_lift rfl ((hG42 _).trans hb) ?_ | refine callK_lift rfl ((hG44 _).trans hb) ?_ | refine callK_lift rfl ((hG46 _).trans hb) ?_)
       | refine chk_elim hs fun hs => ?_
       | exact fin_some hs rfl
       | (intro b hb; first | have hs := nilq_elim hs b hb | have hs := nilqn_elim hs b hb)
       | (have hs := cT rfl hs)
       | (have hs := cF rfl hs)
       | exact (none_ne hs).elim
       | (refine draw_and (by kernel_rfl) ?_))
noncomputable def lf_L17_same : List AV → Option AV := liftF (.pair (.pair .bool (.pair (.sl (.int .i64)) .unit)) (.pair (.pair .bool (.pair (.sl (.int .i64)) .unit)) .unit)) (unpack .bool) (fun x => L17_same x.1 x.2.1)
def tt_L17_same : List (Nat × Ty) := [(4, .bool), (22, .sl (.int .i64)), (69, .pair .bool (.pair (.sl (.int .i64)) .unit)), (70, .pair .bool (.pair (.sl (.int .i64)) .unit))]
def et_L17_same : List (Nat × Nat) := [(22, 3)]
theorem tt_L17_same_ok : subT tt tt_L17_same = true := by kernel_rfl
theorem et_L17_same_ok : subE et et_L17_same = true := by kernel_rfl
noncomputable def E_L17_same (fns : List (Nat × (List AV → Option AV))) : Env := ⟨0, 0, et_L17_same, tt_L17_same, fns, [], [], [(0, [2, 3]), (1, [4])]⟩
set_option maxRecDepth 100000 in
set_option maxHeartbeats 4000000 in
theorem c_L17_same : PCon Go.Proofs.Try.prog 48 lf_L17_same := by
  obtain ⟨G35, hG35, cG35⟩ : ∃ G : ((.pair (.sl (.int .i64)) (.pair (.sl (.int .i64)) .unit)) : Ty).den → Option Bool, (∀ x, G x = R02_Same x.1 x.2.1) ∧ PCon Go.Proofs.Try.prog 35 (liftF (.pair (.sl (.int .i64)) (.pair (.sl (.int .i64)) .unit)) (unpack .bool) G) := ⟨_, fun _ => rfl, c_R02_Same⟩
  obtain ⟨fns, hfns, hf⟩ : ∃ fns, fns = [(35, liftF (.pair (.sl (.int .i64)) (.pair (.sl (.int .i64)) .unit)) (unpack .bool) G35)] ∧ FnsOk Go.Proofs.Try.prog fns := ⟨_, rfl, FnsOk.cons cG35 (FnsOk.nil _)⟩
  refine lift_con (E := E_L17_same fns) (c := bodyOf Try.f48) (nt := 17) (rs := [.tmp 4]) (ts := [4]) (EnvC.sub tt_ok et_ok hf (PrsOk.nil _) tt_L17_same_ok et_L17_same_ok) (PrOk.of mixed_ok) Go.Proofs.Try.func48 rfl (by decide) rfl rfl rfl (pureR_one (e := .bool) rfl) ?_
  subst hfns
  intro x r hw hs
  repeat'
    (try (conv => whnf)
     first
       | (have hs := letv_out hs)
       | (refine br_bool (fun h => ?_) (fun h => ?_) <;> first | have hs := cT h hs | have hs := cF h hs)
       | (refine bind_elim hs fun v hb hs => ?_; first | refine callK_lift rfl ((hG35 _).trans hb) ?_)
       | refine chk_elim hs fun hs => ?_
       | exact fin_some hs rfl
       | (intro b hb; first | have hs := nilq_elim hs b hb | have hs := nilqn_elim hs b hb)
       | (have hs := cT rfl hs)
       | (have hs := cF rfl hs)
       | exact (none_ne hs).elim
       | (refine draw_and (by kernel_rfl) ?_))
noncomputable def lf_L17_ClaimsTell : List AV → Option AV := liftF (.pair (.pair .bool (.pair (.sl (.int .i64)) .unit)) (.pair (.int .i64) .unit)) (unpack .bool) (fun x => L17_ClaimsTell x.1 x.2.1)
def tt_L17_ClaimsTell : List (Nat × Ty) := [(3, .int .i64), (4, .bool), (22, .sl (.int .i64)), (69, .pair .bool (.pair (.sl (.int .i64)) .unit)), (70, .pair .bool (.pair (.sl (.int .i64)) .unit))]
def et_L17_ClaimsTell : List (Nat × Nat) := [(22, 3)]
theorem tt_L17_ClaimsTell_ok : subT tt tt_L17_ClaimsTell = true := by kernel_rfl
theorem et_L17_ClaimsTell_ok : subE et et_L17_ClaimsTell = true := by kernel_rfl
noncomputable def E_L17_ClaimsTell (fns : List (Nat × (List AV → Option AV))) : Env := ⟨0, 0, et_L17_ClaimsTell, tt_L17_ClaimsTell, fns, [], [(12, [0, 2, 1, 100003, 4, 5, 6, 7, 100008, 9, 10, 11, 12, 13, 14, 15, 16, 17, 100018, 19, 20, 21, 22, 23, 24, 25, 26, 27, 28, 29, 30, 31, 32, 33, 34, 35, 36, 37, 38, 39, 40, 41, 42, 43, 44, 45, 100046, 47, 48])], [(0, [1, 2]), (1, [1, 2, 25]), (2, [4]), (3, [1, 2, 5]), (4, [1, 2, 5, 6, 7]), (5, [1, 2, 5, 6, 7, 8, 9]), (6, [1, 2, 5, 6, 7, 8, 9, 10, 11]), (7, [1, 2, 5, 6, 7, 8, 9, 10, 11, 12, 13]), (8, [1, 2, 5, 6, 7, 8, 9, 10, 11, 12, 13, 14, 15]), (9, [1, 2, 5, 6, 7, 8, 9, 10, 11, 12, 13, 14, 15, 16, 17]), (10, [1, 2, 5, 6, 7, 8, 9, 10, 11, 12, 13, 14, 15, 16, 17, 18, 19]), (11, [2, 5, 6, 7, 8, 9, 10, 11, 12, 13, 14, 15, 16, 17, 18, 19, 20, 21]), (12, [4])]⟩
set_option maxRecDepth 100000 in
set_option maxHeartbeats 4000000 in
theorem c_L17_ClaimsTell : PCon Go.Proofs.Try.prog 9 lf_L17_ClaimsTell := by
  obtain ⟨G37, hG37, cG37⟩ : ∃ G : (.unit : Ty).den → Option Bool, (∀ x, G x = L17_alive) ∧ PCon Go.Proofs.Try.prog 37 (liftF .unit (unpack .bool) G) := ⟨_, fun _ => rfl, c_L17_alive⟩
  obtain ⟨G38, hG38, cG38⟩ : ∃ G : ((.pair (.pair .bool (.pair (.sl (.int .i64)) .unit)) (.pair (.int .i64) .unit)) : Ty).den → Option ((Bool × (List Int) × Unit) × Int × Unit), (∀ x, G x = claims_Join x.1 x.2.1) ∧ PCon Go.Proofs.Try.prog 38 (liftF (.pair (.pair .bool (.pair (.sl (.int .i64)) .unit)) (.pair (.int .i64) .unit)) (unpR (.pair (.pair .bool (.pair (.sl (.int .i64)) .unit)) (.pair (.int .i64) .unit))) G) := ⟨_, fun _ => rfl, c_claims_Join⟩
  obtain ⟨G39, hG39, cG39⟩ : ∃ G : ((.pair (.pair .bool (.pair (.sl (.int .i64)) .unit)) (.pair (.int .i64) .unit)) : Ty).den → Option ((Bool × (List Int) × Unit) × Int × Unit), (∀ x, G x = R17_Join x.1 x.2.1) ∧ PCon Go.Proofs.Try.prog 39 (liftF (.pair (.pair .bool (.pair (.sl (.int .i64)) .unit)) (.pair (.int .i64) .unit)) (unpR (.pair (.pair .bool (.pair (.sl (.int .i64)) .unit)) (.pair (.int .i64) .unit))) G) := ⟨_, fun _ => rfl, c_R17_Join⟩
  obtain ⟨G40, hG40, cG40⟩ : ∃ G : ((.pair (.pair .bool (.pair (.sl (.int .i64)) .unit)) (.pair (.int .i64) .unit)) : Ty).den → Option ((Bool × (List Int) × Unit) × Bool × Unit), (∀ x, G x = claims_Leave x.1 x.2.1) ∧ PCon Go.Proofs.Try.prog 40 (liftF (.pair (.pair .bool (.pair (.sl (.int .i64)) .unit)) (.pair (.int .i64) .unit)) (unpR (.pair (.pair .bool (.pair (.sl (.int .i64)) .unit)) (.pair .bool .unit))) G) := ⟨_, fun _ => rfl, c_claims_Leave⟩
  obtain ⟨G41, hG41, cG41⟩ : ∃ G : ((.pair (.pair .bool (.pair (.sl (.int .i64)) .unit)) (.pair (.int .i64) .unit)) : Ty).den → Option ((Bool × (List Int) × Unit) × Bool × Unit), (∀ x, G x = R17_Leave x.1 x.2.1) ∧ PCon Go.Proofs.Try.prog 41 (liftF (.pair (.pair .bool (.pair (.sl (.int .i64)) .unit)) (.pair (.int .i64) .unit)) (unpR (.pair (.pair .bool (.pair (.sl (.int .i64)) .unit)) (.pair .bool .unit))) G) := ⟨_, fun _ => rfl, c_R17_Leave⟩
  obtain ⟨G42, hG42, cG42⟩ : ∃ G : ((.pair (.pair .bool (.pair (.sl (.int .i64)) .unit)) .unit) : Ty).den → Option (Int × Bool × Unit), (∀ x, G x = claims_Head x.1) ∧ PCon Go.Proofs.Try.prog 42 (liftF (.pair (.pair .bool (.pair (.sl (.int .i64)) .unit)) .unit) (unpR (.pair (.int .i64) (.pair .bool .unit))) G) := ⟨_, fun _ => rfl, c_claims_Head⟩
  obtain ⟨G43, hG43, cG43⟩ : ∃ G : ((.pair (.pair .bool (.pair (.sl (.int .i64)) .unit)) .unit) : Ty).den → Option (Int × Bool × Unit), (∀ x, G x = R17_Head x.1) ∧ PCon Go.Proofs.Try.prog 43 (liftF (.pair (.pair .bool (.pair (.sl (.int .i64)) .unit)) .unit) (unpR (.pair (.int .i64) (.pair .bool .unit))) G) := ⟨_, fun _ => rfl, c_R17_Head⟩
  obtain ⟨G44, hG44, cG44⟩ : ∃ G : ((.pair (.pair .bool (.pair (.sl (.int .i64)) .unit)) (.pair (.int .i64) .unit)) : Ty).den → Option (Int × Bool × Unit), (∀ x, G x = claims_Ahead x.1 x.2.1) ∧ PCon Go.Proofs.Try.prog 44 (liftF (.pair (.pair .bool (.pair (.sl (.int .i64)) .unit)) (.pair (.int .i64) .unit)) (unpR (.pair (.int .i64) (.pair .bool .unit))) G) := ⟨_, fun _ => rfl, c_claims_Ahead⟩
  obtain ⟨G45, hG45, cG45⟩ : ∃ G : ((.pair (.pair .bool (.pair (.sl (.int .i64)) .unit)) (.pair (.int .i64) .unit)) : Ty).den → Option (Int × Bool × Unit), (∀ x, G x = R17_Ahead x.1 x.2.1) ∧ PCon Go.Proofs.Try.prog 45 (liftF (.pair (.pair .bool (.pair (.sl (.int .i64)) .unit)) (.pair (.int .i64) .unit)) (unpR (.pair (.int .i64) (.pair .bool .unit))) G) := ⟨_, fun _ => rfl, c_R17_Ahead⟩
  obtain ⟨G46, hG46, cG46⟩ : ∃ G : ((.pair (.pair .bool (.pair (.sl (.int .i64)) .unit)) .unit) : Ty).den → Option Bool, (∀ x, G x = claims_Fine x.1) ∧ PCon Go.Proofs.Try.prog 46 (liftF (.pair (.pair .bool (.pair (.sl (.int .i64)) .unit)) .unit) (unpack .bool) G) := ⟨_, fun _ => rfl, c_claims_Fine⟩
  obtain ⟨G47, hG47, cG47⟩ : ∃ G : ((.pair (.pair .bool (.pair (.sl (.int .i64)) .unit)) .unit) : Ty).den → Option Bool, (∀ x, G x = R17_Fine x.1) ∧ PCon Go.Proofs.Try.prog 47 (liftF (.pair (.pair .bool (.pair (.sl (.int .i64)) .unit)) .unit) (unpack .bool) G) := ⟨_, fun _ => rfl, c_R17_Fine⟩
  obtain ⟨G48, hG48, cG48⟩ : ∃ G : ((.pair (.pair .bool (.pair (.sl (.int .i64)) .unit)) (.pair (.pair .bool (.pair (.sl (.int .i64)) .unit)) .unit)) : Ty).den → Option Bool, (∀ x, G x = L17_same x.1 x.2.1) ∧ PCon Go.Proofs.Try.prog 48 (liftF (.pair (.pair .bool (.pair (.sl (.int .i64)) .unit)) (.pair (.pair .bool (.pair (.sl (.int .i64)) .unit)) .unit)) (unpack .bool) G) := ⟨_, fun _ => rfl, c_L17_same⟩
  obtain ⟨fns, hfns, hf⟩ : ∃ fns, fns = [(37, liftF .unit (unpack .bool) G37), (38, liftF (.pair (.pair .bool (.pair (.sl (.int .i64)) .unit)) (.pair (.int .i64) .unit)) (unpR (.pair (.pair .bool (.pair (.sl (.int .i64)) .unit)) (.pair (.int .i64) .unit))) G38), (39, liftF (.pair (.pair .bool (.pair (.sl (.int .i64)) .unit)) (.pair (.int .i64) .unit)) (unpR (.pair (.pair .bool (.pair (.sl (.int .i64)) .unit)) (.pair (.int .i64) .unit))) G39), (40, liftF (.pair (.pair .bool (.pair (.sl (.int .i64)) .unit)) (.pair (.int .i64) .unit)) (unpR (.pair (.pair .bool (.pair (.sl (.int .i64)) .unit)) (.pair .bool .unit))) G40), (41, liftF (.pair (.pair .bool (.pair (.sl (.int .i64)) .unit)) (.pair (.int .i64) .unit)) (unpR (.pair (.pair .bool (.pair (.sl (.int .i64)) .unit)) (.pair .bool .unit))) G41), (42, liftF (.pair (.pair .bool (.pair (.sl (.int .i64)) .unit)) .unit) (unpR (.pair (.int .i64) (.pair .bool .unit))) G42), (43, liftF (.pair (.pair .bool (.pair (.sl (.int .i64)) .unit)) .unit) (unpR (.pair (.int .i64) (.pair .bool .unit))) G43), (44, liftF (.pair (.pair .bool (.pair (.sl (.int .i64)) .unit)) (.pair (.int .i64) .unit)) (unpR (.pair (.int .i64) (.pair .bool .unit))) G44), (45, liftF (.pair (.pair .bool (.pair (.sl (.int .i64)) .unit)) (.pair (.int .i64) .unit)) (unpR (.pair (.int .i64) (.pair .bool .unit))) G45), (46, liftF (.pair (.pair .bool (.pair (.sl (.int .i64)) .unit)) .unit) (unpack .bool) G46), (47, liftF (.pair (.pair .bool (.pair (.sl (.int .i64)) .unit)) .unit) (unpack .bool) G47), (48, liftF (.pair (.pair .bool (.pair (.sl (.int .i64)) .unit)) (.pair (.pair .bool (.pair (.sl (.int .i64)) .unit)) .unit)) (unpack .bool) G48)] ∧ FnsOk Go.Proofs.Try.prog fns := ⟨_, rfl, FnsOk.cons cG37 (FnsOk.cons cG38 (FnsOk.cons cG39 (FnsOk.cons cG40 (FnsOk.cons cG41 (FnsOk.cons cG42 (FnsOk.cons cG43 (FnsOk.cons cG44 (FnsOk.cons cG45 (FnsOk.cons cG46 (FnsOk.cons cG47 (FnsOk.cons cG48 (FnsOk.nil _))))))))))))⟩
  refine lift_con (E := E_L17_ClaimsTell fns) (c := bodyOf Try.f9) (nt := 122) (rs := [.tmp 4]) (ts := [4]) (EnvC.sub tt_ok et_ok hf (PrsOk.nil _) tt_L17_ClaimsTell_ok et_L17_ClaimsTell_ok) (PrOk.of mixed_ok) Go.Proofs.Try.func9 rfl (by decide) rfl rfl rfl (pureR_one (e := .bool) rfl) ?_
  subst hfns
  intro x r hw hs
  repeat'
    (try (conv => whnf)
     first
       | (have hs := letv_out hs)
       | (refine br_bool (fun h => ?_) (fun h => ?_) <;> first | have hs := cT h hs | have hs := cF h hs)
       | (refine bind_elim hs fun v hb hs => ?_; first | refine callK_lift rfl ((hG37 _).trans hb) ?_ | refine callK_lift rfl ((hG38 _).trans hb) ?_ | refine callK_lift rfl ((hG39 _).trans hb) ?_ | refine callK_lift rfl ((hG40 _).trans hb) ?_ | refine callK_lift rfl ((hG41 _).trans hb) ?_ | refine callK_lift rfl ((hG42 _).trans hb) ?_ | refine callK_lift rfl ((hG43 _).trans hb) ?_ | refine callK_lift rfl ((hG44 _).trans hb) ?_ | refine callK_lift rfl ((hG45 _).trans hb) ?_ | refine callK_lift rfl ((hG46 _).trans hb) ?_ | refine callK_lift rfl ((hG47 _).trans hb) ?_ | refine callK_lift rfl ((hG48 _).trans hb) ?_)
       | refine chk_elim hs fun hs => ?_
       | exact fin_some hs rfl
       | (intro b hb; first | have hs := nilq_elim hs b hb | have hs := nilqn_elim hs b hb)
       | (have hs := cT rfl hs)
       | (have hs := cF rfl hs)
       | exact (none_ne hs).elim
       | (refine draw_and (by kernel_rfl) ?_))
noncomputable def lf_L17_ClaimsServe : List AV → Option AV := liftF (.pair (.sl (.arr 2 (.int .u8))) .unit) (unpack .bool) (fun x => L17_ClaimsServe x.1)
def tt_L17_ClaimsServe : List (Nat × Ty) := [(3, .int .i64), (4, .bool), (5, .int .u8), (27, .int .i64), (70, .pair .bool (.pair (.sl (.int .i64)) .unit)), (88, .sl (.arr 2 (.int .u8))), (89, .arr 16 (.int .i64)), (90, .arr 2 (.int .u8))]
def et_L17_ClaimsServe : List (Nat × Nat) := [(88, 90)]
theorem tt_L17_ClaimsServe_ok : subT tt tt_L17_ClaimsServe = true := by kernel_rfl
theorem et_L17_ClaimsServe_ok : subE et et_L17_ClaimsServe = true := by kernel_rfl
def L17_ClaimsServe_S1 (u0 : AV) (u1 : AV) (x1 : Int × Bool × List Int × List Int) : St :=
  ⟨[(3, u0), (4, u1), (12, .int .i64 x1.1)], [(3, .var (.pair .bool (.pair (.sl (.int .i64)) .unit)) (.agg [.bool x1.2.1, .ro (.int .i64) x1.2.2.1]) false), (4, .var (.arr 16 (.int .i64)) (.arr 16 (.int .i64) x1.2.2.2) false)], none⟩
def L17_ClaimsServe_M1 : Msk := ⟨[3, 4, 12], [3, 4], [], [], [], [], [], [], []⟩
def L17_ClaimsServe_S2 (u0 : AV) (u1 : AV) (u2 : AV) (u3 : AV) (x2 : Int × Bool × List Int × List Int) : St :=
  ⟨[(3, u0), (4, u1), (20, u2), (21, u3), (22, .int .i64 x2.1)], [(3, .var (.pair .bool (.pair (.sl (.int .i64)) .unit)) (.agg [.bool x2.2.1, .ro (.int .i64) x2.2.2.1]) false), (4, .var (.arr 16 (.int .i64)) (.arr 16 (.int .i64) x2.2.2.2) false)], none⟩
def L17_ClaimsServe_M2 : Msk := ⟨[3, 4, 20, 21, 22], [3, 4], [], [], [], [], [3], [], []⟩
noncomputable def E_L17_ClaimsServe (fns : List (Nat × (List AV → Option AV))) : Env := ⟨0, 0, et_L17_ClaimsServe, tt_L17_ClaimsServe, fns, [], [], [(0, [0]), (1, [0, 17]), (2, [2]), (3, [0, 3]), (4, [0, 3, 4]), (5, [3, 4, 20, 21, 22]), (6, [3, 4, 20, 21, 22, 23]), (7, [3, 4, 5, 6, 20, 21, 22]), (8, [3, 4, 5, 6, 7, 20, 21, 22]), (9, [3, 4, 5, 7, 20, 21, 22, 34]), (10, [3, 4, 7, 8, 9, 20, 21, 22]), (11, [3, 4, 7, 8, 20, 21, 22, 46]), (12, [2]), (13, [3, 4, 7, 20, 21, 22]), (14, [3, 4, 20, 21, 22]), (15, [3, 4, 5, 7, 10, 11, 20, 21, 22]), (16, [3, 4, 5, 7, 10, 11, 20, 21, 22, 62]), (17, [2]), (18, [3, 4, 5, 7, 10, 20, 21, 22, 64]), (19, [3, 4, 5, 7, 20, 21, 22]), (20, [3, 4, 20, 21, 22]), (21, [3, 4, 20, 21, 22]), (22, [3, 4, 12]), (23, [3, 4, 12, 13, 14]), (24, [3, 4, 12, 13, 77]), (25, [3, 4, 13, 90]), (26, [2]), (27, [3, 4, 12, 13]), (28, [3, 4, 12, 13]), (29, [3, 4, 12]), (30, [2])]⟩
set_option maxRecDepth 100000 in
set_option maxHeartbeats 4000000 in
theorem c_L17_ClaimsServe : PCon Go.Proofs.Try.prog 10 lf_L17_ClaimsServe := by
  obtain ⟨G37, hG37, cG37⟩ : ∃ G : (.unit : Ty).den → Option Bool, (∀ x, G x = L17_alive) ∧ PCon Go.Proofs.Try.prog 37 (liftF .unit (unpack .bool) G) := ⟨_, fun _ => rfl, c_L17_alive⟩
  obtain ⟨G38, hG38, cG38⟩ : ∃ G : ((.pair (.pair .bool (.pair (.sl (.int .i64)) .unit)) (.pair (.int .i64) .unit)) : Ty).den → Option ((Bool × (List Int) × Unit) × Int × Unit), (∀ x, G x = claims_Join x.1 x.2.1) ∧ PCon Go.Proofs.Try.prog 38 (liftF (.pair (.pair .bool (.pair (.sl (.int .i64)) .unit)) (.pair (.int .i64) .unit)) (unpR (.pair (.pair .bool (.pair (.sl (.int .i64)) .unit)) (.pair (.int .i64) .unit))) G) := ⟨_, fun _ => rfl, c_claims_Join⟩
  obtain ⟨G40, hG40, cG40⟩ : ∃ G : ((.pair (.pair .bool (.pair (.sl (.int .i64)) .unit)) (.pair (.int .i64) .unit)) : Ty).den → Option ((Bool × (List Int) × Unit) × Bool × Unit), (∀ x, G x = claims_Leave x.1 x.2.1) ∧ PCon Go.Proofs.Try.prog 40 (liftF (.pair (.pair .bool (.pair (.sl (.int .i64)) .unit)) (.pair (.int .i64) .unit)) (unpR (.pair (.pair .bool (.pair (.sl (.int .i64)) .unit)) (.pair .bool .unit))) G) := ⟨_, fun _ => rfl, c_claims_Leave⟩
  obtain ⟨G42, hG42, cG42⟩ : ∃ G : ((.pair (.pair .bool (.pair (.sl (.int .i64)) .unit)) .unit) : Ty).den → Option (Int × Bool × Unit), (∀ x, G x = claims_Head x.1) ∧ PCon Go.Proofs.Try.prog 42 (liftF (.pair (.pair .bool (.pair (.sl (.int .i64)) .unit)) .unit) (unpR (.pair (.int .i64) (.pair .bool .unit))) G) := ⟨_, fun _ => rfl, c_claims_Head⟩
  obtain ⟨fns, hfns, hf⟩ : ∃ fns, fns = [(37, liftF .unit (unpack .bool) G37), (38, liftF (.pair (.pair .bool (.pair (.sl (.int .i64)) .unit)) (.pair (.int .i64) .unit)) (unpR (.pair (.pair .bool (.pair (.sl (.int .i64)) .unit)) (.pair (.int .i64) .unit))) G38), (40, liftF (.pair (.pair .bool (.pair (.sl (.int .i64)) .unit)) (.pair (.int .i64) .unit)) (unpR (.pair (.pair .bool (.pair (.sl (.int .i64)) .unit)) (.pair .bool .unit))) G40), (42, liftF (.pair (.pair .bool (.pair (.sl (.int .i64)) .unit)) .unit) (unpR (.pair (.int .i64) (.pair .bool .unit))) G42)] ∧ FnsOk Go.Proofs.Try.prog fns := ⟨_, rfl, FnsOk.cons cG37 (FnsOk.cons cG38 (FnsOk.cons cG40 (FnsOk.cons cG42 (FnsOk.nil _))))⟩
  refine lift_con (E := E_L17_ClaimsServe fns) (c := bodyOf Try.f10) (nt := 108) (rs := [.tmp 2]) (ts := [4]) (EnvC.sub tt_ok et_ok hf (PrsOk.nil _) tt_L17_ClaimsServe_ok et_L17_ClaimsServe_ok) (PrOk.of mixed_ok) Go.Proofs.Try.func10 rfl (by decide) rfl rfl rfl (pureR_one (e := .bool) rfl) ?_
  subst hfns
  intro x r hw hs
  repeat'
    (try (conv => whnf)
     first
       | (have hs := letv_out hs)
       | (refine br_bool (fun h => ?_) (fun h => ?_) <;> first | have hs := cT h hs | have hs := cF h hs)
       | (refine bind_elim hs fun v hb hs => ?_; first | refine callK_lift rfl ((hG37 _).trans hb) ?_ | refine callK_lift rfl ((hG38 _).trans hb) ?_ | refine callK_lift rfl ((hG40 _).trans hb) ?_ | refine callK_lift rfl ((hG42 _).trans hb) ?_)
       | refine chk_elim hs fun hs => ?_
       | exact fin_some hs rfl
       | (intro b hb; first | have hs := nilq_elim hs b hb | have hs := nilqn_elim hs b hb)
       | exact hJ1 _ hs
       | exact hJ2 _ hs
       | (have hs := cT rfl hs)
       | (have hs := cF rfl hs)
       | exact (none_ne hs).elim
       | (refine draw_and (by kernel_rfl) ?_)
       | (refine vc_loop (L17_ClaimsServe_S1 _ _) L17_ClaimsServe_M1 hs rfl ?_; intro J1 k1 x1 hJ1 hs)
       | (refine vc_loop (L17_ClaimsServe_S2 _ _ _ _) L17_ClaimsServe_M2 hs rfl ?_; intro J2 k2 x2 hJ2 hs))
end Go.Proofs.YtoihmfgkmndjfaaV
