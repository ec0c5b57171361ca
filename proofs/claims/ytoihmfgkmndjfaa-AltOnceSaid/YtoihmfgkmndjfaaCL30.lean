import Derived.Test.YtoihmfgkmndjfaaVcTab
import Derived.Test.YtoihmfgkmndjfaaDL30
import Derived.Test.YtoihmfgkmndjfaaCalt
namespace Go.Proofs.YtoihmfgkmndjfaaV
open Go.Proofs
set_option linter.unusedVariables false
noncomputable def lf_L30_alive : List AV → Option AV := liftF .unit (unpack .bool) (fun x => L30_alive)
def tt_L30_alive : List (Nat × Ty) := [(3, .int .i64), (4, .bool), (27, .int .i64), (93, .pair (.int .i64) (.pair (.int .i64) (.pair (.int .i64) (.pair (.int .i64) .unit))))]
def et_L30_alive : List (Nat × Nat) := []
theorem tt_L30_alive_ok : subT tt tt_L30_alive = true := by kernel_rfl
theorem et_L30_alive_ok : subE et et_L30_alive = true := by kernel_rfl
noncomputable def E_L30_alive (fns : List (Nat × (List AV → Option AV))) : Env := ⟨0, 0, et_L30_alive, tt_L30_alive, fns, [], [], [(0, []), (1, [1, 2]), (2, [1, 2, 3, 4, 5]), (3, [1, 2, 3, 4, 5, 6, 7, 8]), (4, [1, 2, 3, 4, 5, 6, 7, 8, 9, 10]), (5, [1, 2, 3, 4, 5, 6, 7, 8, 9, 10, 11, 12, 13]), (6, [1, 2, 4, 5, 6, 7, 8, 9, 10, 11, 12, 13, 15]), (7, [0])]⟩
set_option maxRecDepth 100000 in
set_option maxHeartbeats 4000000 in
theorem c_L30_alive : PCon Go.Proofs.Try.prog 55 lf_L30_alive := by
  obtain ⟨G49, hG49, cG49⟩ : ∃ G : ((.pair (.int .i64) .unit) : Ty).den → Option ((Int × Int × Int × Int × Unit) × Int × Unit), (∀ x, G x = alt_Begin x.1) ∧ PCon Go.Proofs.Try.prog 49 (liftF (.pair (.int .i64) .unit) (unpR (.pair (.pair (.int .i64) (.pair (.int .i64) (.pair (.int .i64) (.pair (.int .i64) .unit)))) (.pair (.int .i64) .unit))) G) := ⟨_, fun _ => rfl, c_alt_Begin⟩
  obtain ⟨G50, hG50, cG50⟩ : ∃ G : ((.pair (.pair (.int .i64) (.pair (.int .i64) (.pair (.int .i64) (.pair (.int .i64) .unit)))) .unit) : Ty).den → Option Int, (∀ x, G x = alt_Left x.1) ∧ PCon Go.Proofs.Try.prog 50 (liftF (.pair (.pair (.int .i64) (.pair (.int .i64) (.pair (.int .i64) (.pair (.int .i64) .unit)))) .unit) (unpack (.int .i64)) G) := ⟨_, fun _ => rfl, c_alt_Left⟩
  obtain ⟨G51, hG51, cG51⟩ : ∃ G : ((.pair (.pair (.int .i64) (.pair (.int .i64) (.pair (.int .i64) (.pair (.int .i64) .unit)))) .unit) : Ty).den → Option ((Int × Int × Int × Int × Unit) × Int × Int × Unit), (∀ x, G x = alt_Put x.1) ∧ PCon Go.Proofs.Try.prog 51 (liftF (.pair (.pair (.int .i64) (.pair (.int .i64) (.pair (.int .i64) (.pair (.int .i64) .unit)))) .unit) (unpR (.pair (.pair (.int .i64) (.pair (.int .i64) (.pair (.int .i64) (.pair (.int .i64) .unit)))) (.pair (.int .i64) (.pair (.int .i64) .unit)))) G) := ⟨_, fun _ => rfl, c_alt_Put⟩
  obtain ⟨G52, hG52, cG52⟩ : ∃ G : ((.pair (.pair (.int .i64) (.pair (.int .i64) (.pair (.int .i64) (.pair (.int .i64) .unit)))) .unit) : Ty).den → Option Bool, (∀ x, G x = alt_Fine x.1) ∧ PCon Go.Proofs.Try.prog 52 (liftF (.pair (.pair (.int .i64) (.pair (.int .i64) (.pair (.int .i64) (.pair (.int .i64) .unit)))) .unit) (unpack .bool) G) := ⟨_, fun _ => rfl, c_alt_Fine⟩
  obtain ⟨G53, hG53, cG53⟩ : ∃ G : ((.pair (.pair (.int .i64) (.pair (.int .i64) (.pair (.int .i64) (.pair (.int .i64) .unit)))) (.pair (.int .i64) .unit)) : Ty).den → Option ((Int × Int × Int × Int × Unit) × Int × Unit), (∀ x, G x = alt_Take x.1 x.2.1) ∧ PCon Go.Proofs.Try.prog 53 (liftF (.pair (.pair (.int .i64) (.pair (.int .i64) (.pair (.int .i64) (.pair (.int .i64) .unit)))) (.pair (.int .i64) .unit)) (unpR (.pair (.pair (.int .i64) (.pair (.int .i64) (.pair (.int .i64) (.pair (.int .i64) .unit)))) (.pair (.int .i64) .unit))) G) := ⟨_, fun _ => rfl, c_alt_Take⟩
  obtain ⟨G54, hG54, cG54⟩ : ∃ G : ((.pair (.pair (.int .i64) (.pair (.int .i64) (.pair (.int .i64) (.pair (.int .i64) .unit)))) .unit) : Ty).den → Option ((Int × Int × Int × Int × Unit) × Int × Int × Unit), (∀ x, G x = alt_Withdraw x.1) ∧ PCon Go.Proofs.Try.prog 54 (liftF (.pair (.pair (.int .i64) (.pair (.int .i64) (.pair (.int .i64) (.pair (.int .i64) .unit)))) .unit) (unpR (.pair (.pair (.int .i64) (.pair (.int .i64) (.pair (.int .i64) (.pair (.int .i64) .unit)))) (.pair (.int .i64) (.pair (.int .i64) .unit)))) G) := ⟨_, fun _ => rfl, c_alt_Withdraw⟩
  obtain ⟨fns, hfns, hf⟩ : ∃ fns, fns = [(49, liftF (.pair (.int .i64) .unit) (unpR (.pair (.pair (.int .i64) (.pair (.int .i64) (.pair (.int .i64) (.pair (.int .i64) .unit)))) (.pair (.int .i64) .unit))) G49), (50, liftF (.pair (.pair (.int .i64) (.pair (.int .i64) (.pair (.int .i64) (.pair (.int .i64) .unit)))) .unit) (unpack (.int .i64)) G50), (51, liftF (.pair (.pair (.int .i64) (.pair (.int .i64) (.pair (.int .i64) (.pair (.int .i64) .unit)))) .unit) (unpR (.pair (.pair (.int .i64) (.pair (.int .i64) (.pair (.int .i64) (.pair (.int .i64) .unit)))) (.pair (.int .i64) (.pair (.int .i64) .unit)))) G51), (52, liftF (.pair (.pair (.int .i64) (.pair (.int .i64) (.pair (.int .i64) (.pair (.int .i64) .unit)))) .unit) (unpack .bool) G52), (53, liftF (.pair (.pair (.int .i64) (.pair (.int .i64) (.pair (.int .i64) (.pair (.int .i64) .unit)))) (.pair (.int .i64) .unit)) (unpR (.pair (.pair (.int .i64) (.pair (.int .i64) (.pair (.int .i64) (.pair (.int .i64) .unit)))) (.pair (.int .i64) .unit))) G53), (54, liftF (.pair (.pair (.int .i64) (.pair (.int .i64) (.pair (.int .i64) (.pair (.int .i64) .unit)))) .unit) (unpR (.pair (.pair (.int .i64) (.pair (.int .i64) (.pair (.int .i64) (.pair (.int .i64) .unit)))) (.pair (.int .i64) (.pair (.int .i64) .unit)))) G54)] ∧ FnsOk Go.Proofs.Try.prog fns := ⟨_, rfl, FnsOk.cons cG49 (FnsOk.cons cG50 (FnsOk.cons cG51 (FnsOk.cons cG52 (FnsOk.cons cG53 (FnsOk.cons cG54 (FnsOk.nil _))))))⟩
  refine lift_con (E := E_L30_alive fns) (c := bodyOf Try.f55) (nt := 106) (rs := [.tmp 0]) (ts := [4]) (EnvC.sub tt_ok et_ok hf (PrsOk.nil _) tt_L30_alive_ok et_L30_alive_ok) (PrOk.of mixed_ok) Go.Proofs.Try.func55 rfl (by decide) rfl rfl rfl (pureR_one (e := .bool) rfl) ?_
  subst hfns
  intro x r hw hs
  repeat'
    (try (conv => whnf)
     first
       | (have hs := letv_out hs)
       | (refine br_bool (fun h => ?_) (fun h => ?_) <;> first | have hs := cT h hs | have hs := cF h hs)
       | (refine bind_elim hs fun v hb hs => ?_; first | refine callK_lift rfl ((hG49 _).trans hb) ?_ | refine callK_lift rfl ((hG50 _).trans hb) ?_ | refine callK_lift rfl ((hG51 _).trans hb) ?_ | refine callK_lift rfl ((hG52 _).trans hb) ?_ | refine callK_lift rfl ((hG53 _).trans hb) ?_ | refine callK_lift rfl ((hG54 _).trans hb) ?_)
       | refine chk_elim hs fun hs => ?_
       | exact fin_some hs rfl
       | (have hs := cT rfl hs)
       | (have hs := cF rfl hs)
       | (refine draw_and (by kernel_rfl) ?_))
noncomputable def lf_L30_AltOnce : List AV → Option AV := liftF (.pair (.int .u8) (.pair (.int .u8) .unit)) (unpack .bool) (fun x => L30_AltOnce x.1 x.2.1)
def tt_L30_AltOnce : List (Nat × Ty) := [(3, .int .i64), (4, .bool), (5, .int .u8), (27, .int .i64), (93, .pair (.int .i64) (.pair (.int .i64) (.pair (.int .i64) (.pair (.int .i64) .unit))))]
def et_L30_AltOnce : List (Nat × Nat) := []
theorem tt_L30_AltOnce_ok : subT tt tt_L30_AltOnce = true := by kernel_rfl
theorem et_L30_AltOnce_ok : subE et et_L30_AltOnce = true := by kernel_rfl
def L30_AltOnce_S1 (u0 : AV) (u1 : AV) (u2 : AV) (u3 : AV) (x1 : Int × Int × Int × Int × Int × Int) : St :=
  ⟨[(5, u0), (6, u1), (7, u2), (13, .int .i64 x1.1), (73, u3), (74, .int .i64 x1.2.1)], [(7, .var (.pair (.int .i64) (.pair (.int .i64) (.pair (.int .i64) (.pair (.int .i64) .unit)))) (.agg [.int .i64 x1.2.2.1, .int .i64 x1.2.2.2.1, .int .i64 x1.2.2.2.2.1, .int .i64 x1.2.2.2.2.2]) false)], none⟩
def L30_AltOnce_M1 : Msk := ⟨[5, 6, 7, 13, 73, 74], [7], [], [], [], [], [], [], []⟩
def L30_AltOnce_S2 (u0 : AV) (u1 : AV) (u2 : AV) (u3 : AV) (x2 : Int × Int × Int × Int × Int) : St :=
  ⟨[(5, u0), (6, u1), (7, u2), (33, u3), (34, .int .i64 x2.1)], [(7, .var (.pair (.int .i64) (.pair (.int .i64) (.pair (.int .i64) (.pair (.int .i64) .unit)))) (.agg [.int .i64 x2.2.1, .int .i64 x2.2.2.1, .int .i64 x2.2.2.2.1, .int .i64 x2.2.2.2.2]) false)], none⟩
def L30_AltOnce_M2 : Msk := ⟨[5, 6, 7, 33, 34], [7], [], [], [], [], [], [], []⟩
noncomputable def E_L30_AltOnce (fns : List (Nat × (List AV → Option AV))) : Env := ⟨0, 0, et_L30_AltOnce, tt_L30_AltOnce, fns, [], [], [(0, [0, 1]), (1, [1, 5]), (2, [5, 6]), (3, [5, 6, 7, 8]), (4, [5, 6, 7, 32]), (5, [4]), (6, [5, 6, 7, 33, 34]), (7, [5, 6, 7, 33, 34, 35]), (8, [5, 6, 7, 9, 33, 34]), (9, [5, 6, 7, 9, 33, 34, 42]), (10, [4]), (11, [5, 6, 7, 9, 10, 11, 12, 33, 34]), (12, [5, 6, 7, 10, 33, 34, 60]), (13, [4]), (14, [5, 6, 7, 33, 34]), (15, [5, 6, 7, 33, 34]), (16, [5, 6, 7, 8]), (17, [5, 6, 7, 70]), (18, [4]), (19, [5, 6, 7, 13]), (20, [5, 6, 7, 13, 73, 74]), (21, [5, 6, 7, 13, 73, 74, 75]), (22, [5, 6, 7, 13, 14, 73, 74]), (23, [5, 6, 7, 13, 73, 74, 83]), (24, [4]), (25, [5, 6, 7, 13, 15, 16, 17, 73, 74]), (26, [5, 6, 7, 15, 16, 73, 74, 105]), (27, [4]), (28, [5, 6, 7, 13, 73, 74]), (29, [5, 6, 7, 13, 73, 74]), (30, [4])]⟩
set_option maxRecDepth 100000 in
set_option maxHeartbeats 4000000 in
theorem c_L30_AltOnce : PCon Go.Proofs.Try.prog 11 lf_L30_AltOnce := by
  obtain ⟨G49, hG49, cG49⟩ : ∃ G : ((.pair (.int .i64) .unit) : Ty).den → Option ((Int × Int × Int × Int × Unit) × Int × Unit), (∀ x, G x = alt_Begin x.1) ∧ PCon Go.Proofs.Try.prog 49 (liftF (.pair (.int .i64) .unit) (unpR (.pair (.pair (.int .i64) (.pair (.int .i64) (.pair (.int .i64) (.pair (.int .i64) .unit)))) (.pair (.int .i64) .unit))) G) := ⟨_, fun _ => rfl, c_alt_Begin⟩
  obtain ⟨G50, hG50, cG50⟩ : ∃ G : ((.pair (.pair (.int .i64) (.pair (.int .i64) (.pair (.int .i64) (.pair (.int .i64) .unit)))) .unit) : Ty).den → Option Int, (∀ x, G x = alt_Left x.1) ∧ PCon Go.Proofs.Try.prog 50 (liftF (.pair (.pair (.int .i64) (.pair (.int .i64) (.pair (.int .i64) (.pair (.int .i64) .unit)))) .unit) (unpack (.int .i64)) G) := ⟨_, fun _ => rfl, c_alt_Left⟩
  obtain ⟨G51, hG51, cG51⟩ : ∃ G : ((.pair (.pair (.int .i64) (.pair (.int .i64) (.pair (.int .i64) (.pair (.int .i64) .unit)))) .unit) : Ty).den → Option ((Int × Int × Int × Int × Unit) × Int × Int × Unit), (∀ x, G x = alt_Put x.1) ∧ PCon Go.Proofs.Try.prog 51 (liftF (.pair (.pair (.int .i64) (.pair (.int .i64) (.pair (.int .i64) (.pair (.int .i64) .unit)))) .unit) (unpR (.pair (.pair (.int .i64) (.pair (.int .i64) (.pair (.int .i64) (.pair (.int .i64) .unit)))) (.pair (.int .i64) (.pair (.int .i64) .unit)))) G) := ⟨_, fun _ => rfl, c_alt_Put⟩
  obtain ⟨G52, hG52, cG52⟩ : ∃ G : ((.pair (.pair (.int .i64) (.pair (.int .i64) (.pair (.int .i64) (.pair (.int .i64) .unit)))) .unit) : Ty).den → Option Bool, (∀ x, G x = alt_Fine x.1) ∧ PCon Go.Proofs.Try.prog 52 (liftF (.pair (.pair (.int .i64) (.pair (.int .i64) (.pair (.int .i64) (.pair (.int .i64) .unit)))) .unit) (unpack .bool) G) := ⟨_, fun _ => rfl, c_alt_Fine⟩
  obtain ⟨G53, hG53, cG53⟩ : ∃ G : ((.pair (.pair (.int .i64) (.pair (.int .i64) (.pair (.int .i64) (.pair (.int .i64) .unit)))) (.pair (.int .i64) .unit)) : Ty).den → Option ((Int × Int × Int × Int × Unit) × Int × Unit), (∀ x, G x = alt_Take x.1 x.2.1) ∧ PCon Go.Proofs.Try.prog 53 (liftF (.pair (.pair (.int .i64) (.pair (.int .i64) (.pair (.int .i64) (.pair (.int .i64) .unit)))) (.pair (.int .i64) .unit)) (unpR (.pair (.pair (.int .i64) (.pair (.int .i64) (.pair (.int .i64) (.pair (.int .i64) .unit)))) (.pair (.int .i64) .unit))) G) := ⟨_, fun _ => rfl, c_alt_Take⟩
  obtain ⟨G54, hG54, cG54⟩ : ∃ G : ((.pair (.pair (.int .i64) (.pair (.int .i64) (.pair (.int .i64) (.pair (.int .i64) .unit)))) .unit) : Ty).den → Option ((Int × Int × Int × Int × Unit) × Int × Int × Unit), (∀ x, G x = alt_Withdraw x.1) ∧ PCon Go.Proofs.Try.prog 54 (liftF (.pair (.pair (.int .i64) (.pair (.int .i64) (.pair (.int .i64) (.pair (.int .i64) .unit)))) .unit) (unpR (.pair (.pair (.int .i64) (.pair (.int .i64) (.pair (.int .i64) (.pair (.int .i64) .unit)))) (.pair (.int .i64) (.pair (.int .i64) .unit)))) G) := ⟨_, fun _ => rfl, c_alt_Withdraw⟩
  obtain ⟨G55, hG55, cG55⟩ : ∃ G : (.unit : Ty).den → Option Bool, (∀ x, G x = L30_alive) ∧ PCon Go.Proofs.Try.prog 55 (liftF .unit (unpack .bool) G) := ⟨_, fun _ => rfl, c_L30_alive⟩
  obtain ⟨fns, hfns, hf⟩ : ∃ fns, fns = [(49, liftF (.pair (.int .i64) .unit) (unpR (.pair (.pair (.int .i64) (.pair (.int .i64) (.pair (.int .i64) (.pair (.int .i64) .unit)))) (.pair (.int .i64) .unit))) G49), (50, liftF (.pair (.pair (.int .i64) (.pair (.int .i64) (.pair (.int .i64) (.pair (.int .i64) .unit)))) .unit) (unpack (.int .i64)) G50), (51, liftF (.pair (.pair (.int .i64) (.pair (.int .i64) (.pair (.int .i64) (.pair (.int .i64) .unit)))) .unit) (unpR (.pair (.pair (.int .i64) (.pair (.int .i64) (.pair (.int .i64) (.pair (.int .i64) .unit)))) (.pair (.int .i64) (.pair (.int .i64) .unit)))) G51), (52, liftF (.pair (.pair (.int .i64) (.pair (.int .i64) (.pair (.int .i64) (.pair (.int .i64) .unit)))) .unit) (unpack .bool) G52), (53, liftF (.pair (.pair (.int .i64) (.pair (.int .i64) (.pair (.int .i64) (.pair (.int .i64) .unit)))) (.pair (.int .i64) .unit)) (unpR (.pair (.pair (.int .i64) (.pair (.int .i64) (.pair (.int .i64) (.pair (.int .i64) .unit)))) (.pair (.int .i64) .unit))) G53), (54, liftF (.pair (.pair (.int .i64) (.pair (.int .i64) (.pair (.int .i64) (.pair (.int .i64) .unit)))) .unit) (unpR (.pair (.pair (.int .i64) (.pair (.int .i64) (.pair (.int .i64) (.pair (.int .i64) .unit)))) (.pair (.int .i64) (.pair (.int .i64) .unit)))) G54), (55, liftF .unit (unpack .bool) G55)] ∧ FnsOk Go.Proofs.Try.prog fns := ⟨_, rfl, FnsOk.cons cG49 (FnsOk.cons cG50 (FnsOk.cons cG51 (FnsOk.cons cG52 (FnsOk.cons cG53 (FnsOk.cons cG54 (FnsOk.cons cG55 (FnsOk.nil _)))))))⟩
  refine lift_con (E := E_L30_AltOnce fns) (c := bodyOf Try.f11) (nt := 115) (rs := [.tmp 4]) (ts := [4]) (EnvC.sub tt_ok et_ok hf (PrsOk.nil _) tt_L30_AltOnce_ok et_L30_AltOnce_ok) (PrOk.of mixed_ok) Go.Proofs.Try.func11 rfl (by decide) rfl rfl rfl (pureR_one (e := .bool) rfl) ?_
  subst hfns
  intro x r hw hs
  repeat'
    (try (conv => whnf)
     first
       | (have hs := letv_out hs)
       | (refine br_bool (fun h => ?_) (fun h => ?_) <;> first | have hs := cT h hs | have hs := cF h hs)
       | (refine bind_elim hs fun v hb hs => ?_; first | refine callK_lift rfl ((hG49 _).trans hb) ?_ | refine callK_lift rfl ((hG50 _).trans hb) ?_ | refine callK_lift rfl ((hG51 _).trans hb) ?_ | refine callK_lift rfl ((hG52 _).trans hb) ?_ | refine callK_lift rfl ((hG53 _).trans hb) ?_ | refine callK_lift rfl ((hG54 _).trans hb) ?_ | refine callK_lift rfl ((hG55 _).trans hb) ?_)
       | refine chk_elim hs fun hs => ?_
       | exact fin_some hs rfl
       | exact hJ1 _ hs
       | exact hJ2 _ hs
       | (have hs := cT rfl hs)
       | (have hs := cF rfl hs)
       | (refine draw_and (by kernel_rfl) ?_)
       | (refine vc_loop (L30_AltOnce_S1 _ _ _ _) L30_AltOnce_M1 hs rfl ?_; intro J1 k1 x1 hJ1 hs)
       | (refine vc_loop (L30_AltOnce_S2 _ _ _ _) L30_AltOnce_M2 hs rfl ?_; intro J2 k2 x2 hJ2 hs))
end Go.Proofs.YtoihmfgkmndjfaaV
