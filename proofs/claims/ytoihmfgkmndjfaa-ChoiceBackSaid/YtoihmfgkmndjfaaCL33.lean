import Derived.Test.YtoihmfgkmndjfaaVcTab
import Derived.Test.YtoihmfgkmndjfaaDL33
import Derived.Test.YtoihmfgkmndjfaaCR33
import Derived.Test.YtoihmfgkmndjfaaCchoice
namespace Go.Proofs.YtoihmfgkmndjfaaV
open Go.Proofs
set_option linter.unusedVariables false
noncomputable def lf_L33_alive : List AV → Option AV := liftF .unit (unpack .bool) (fun x => L33_alive)
theorem lq_L33_alive : lf_L33_alive = liftF .unit (unpack .bool) (fun x => L33_alive) := rfl
attribute [irreducible] lf_L33_alive
theorem ck_L33_alive {vs : List AV} {k : AV → Prop} {x : (.unit : Ty).den} {v : Bool} (h1 : pks .unit vs = some x) (h2 : L33_alive = some v) (h3 : k ((unpack .bool) v)) : callK (lf_L33_alive vs) k := by
  rw [lq_L33_alive]; exact callK_lift h1 h2 h3
def tt_L33_alive : List (Nat × Ty) := [(3, .int .i64), (4, .bool), (9, .str), (27, .int .i64), (106, .sl (.pair (.int .i64) (.pair (.int .i64) (.pair (.int .i64) .unit)))), (112, .pair (.int .i64) (.pair (.int .i64) (.pair (.int .i64) .unit)))]
def et_L33_alive : List (Nat × Nat) := [(106, 112)]
theorem tt_L33_alive_ok : subT tt tt_L33_alive = true := by kernel_rfl
theorem et_L33_alive_ok : subE et et_L33_alive = true := by kernel_rfl
noncomputable def fns_L33_alive : List (Nat × (List AV → Option AV)) := [(57, lf_choice_All), (60, lf_choice_Bytes), (62, lf_choice_Check), (64, lf_choice_Read)]
theorem fns_L33_alive_ok : FnsOk Go.Proofs.Try.prog fns_L33_alive := FnsOk.cons c_choice_All (FnsOk.cons c_choice_Bytes (FnsOk.cons c_choice_Check (FnsOk.cons c_choice_Read (FnsOk.nil _))))
def kp_L33_alive : List (Nat × List Nat) := [(0, []), (1, [1]), (2, [1, 2]), (3, [1, 2, 3, 4, 5]), (4, [1, 2, 3, 4, 5, 8]), (5, [1, 2, 3, 4, 5, 8, 9, 10]), (6, [0]), (4000000, []), (4000001, [12]), (4000002, [12]), (4000003, [12]), (4000004, [12]), (4000005, [12]), (4000006, [])]
def od_L33_alive : List (Nat × Ord) := [(6, (.one 0 (.one 1 (.one 2 (.one 3 (.one 4 (.one 5 (.one 6 (.one 7 (.one 8 (.one 9 (.one 10 (.one 11 (.one 12 (.one 13 (.one 14 (.one 15 (.one 16 (.one 17 (.one 18 (.one 19 (.one 20 (.one 21 (.one 22 (.one 23 (.one 24 (.one 25 (.one 26 (.one 27 (.one 28 (.one 29 (.one 30 (.one 31 (.one 32 (.one 33 (.one 34 (.one 35 (.one 36 (.one 37 (.one 100038 (.one 39 (.one 40 (.one 41 .nil)))))))))))))))))))))))))))))))))))))))))))]
noncomputable def E_L33_alive : Env := ⟨0, 0, et_L33_alive, tt_L33_alive, fns_L33_alive, [], od_L33_alive, kp_L33_alive, none, []⟩
set_option maxRecDepth 100000 in
set_option maxHeartbeats 40000000 in
theorem c_L33_alive : PCon Go.Proofs.Try.prog 56 lf_L33_alive := by
  rw [lq_L33_alive]
  refine lift_conR (E := E_L33_alive) (c := bodyOf Try.f56) (nt := 76) (rs := [.tmp 0]) (ts := [4]) (EnvC.sub (off := 0) (nt := 0) (ords := od_L33_alive) (keep := kp_L33_alive) (yl := none) tt_ok et_ok fns_L33_alive_ok (PrsOk.nil _) (ItsOk.nil _) tt_L33_alive_ok et_L33_alive_ok) (PrOk.of mixed_ok) Go.Proofs.Try.func56 rfl (by decide) rfl rfl rfl (pureR_one (e := .bool) rfl) ?_
  intro x r hw hs
  repeat'
    (try (conv => whnf)
     first
       | (with_reducible have hs := letv_out hs)
       | (refine draw_and (by kernel_rfl) ?_)
       | (refine both_mk ?_ ?_)
       | (refine br_bool (fun h => ?_) (fun h => ?_) <;> first | have hs := cT h hs | have hs := cF h hs)
       | (refine bind_elim hs fun v hb hs => ?_; first | ((with_reducible show callK (lf_choice_All _) _); refine ck_choice_All rfl hb ?_) | ((with_reducible show callK (lf_choice_Bytes _) _); refine ck_choice_Bytes rfl hb ?_) | ((with_reducible show callK (lf_choice_Check _) _); refine ck_choice_Check rfl hb ?_) | ((with_reducible show callK (lf_choice_Read _) _); refine ck_choice_Read rfl hb ?_))
       | refine chk_elim hs fun hs => ?_
       | (have hs := letv_out hs)
       | exact fin_some hs rfl
       | (intro b hb; first | have hs := nilq_elim hs b hb | have hs := nilqn_elim hs b hb)
       | (have hs := cT rfl hs)
       | (have hs := cF rfl hs)
       | exact (none_ne hs).elim)
theorem cq_L33_alive : PCon Go.Proofs.Try.prog 56 (liftF .unit (unpack .bool) (fun x => L33_alive)) := lq_L33_alive ▸ c_L33_alive
noncomputable def lf_L33_To : List AV → Option AV := liftF (.pair (.sl (.pair (.int .i64) (.pair (.int .i64) (.pair (.int .i64) .unit)))) .unit) (unpack (.sl (.pair (.int .i64) (.pair (.int .i64) (.pair (.int .i64) .unit))))) (fun x => L33_To x.1)
theorem lq_L33_To : lf_L33_To = liftF (.pair (.sl (.pair (.int .i64) (.pair (.int .i64) (.pair (.int .i64) .unit)))) .unit) (unpack (.sl (.pair (.int .i64) (.pair (.int .i64) (.pair (.int .i64) .unit))))) (fun x => L33_To x.1) := rfl
attribute [irreducible] lf_L33_To
theorem ck_L33_To {vs : List AV} {k : AV → Prop} {x : ((.pair (.sl (.pair (.int .i64) (.pair (.int .i64) (.pair (.int .i64) .unit)))) .unit) : Ty).den} {v : List (Int × Int × Int × Unit)} (h1 : pks (.pair (.sl (.pair (.int .i64) (.pair (.int .i64) (.pair (.int .i64) .unit)))) .unit) vs = some x) (h2 : L33_To x.1 = some v) (h3 : k ((unpack (.sl (.pair (.int .i64) (.pair (.int .i64) (.pair (.int .i64) .unit))))) v)) : callK (lf_L33_To vs) k := by
  rw [lq_L33_To]; exact callK_lift h1 h2 h3
def tt_L33_To : List (Nat × Ty) := [(3, .int .i64), (102, .sl (.pair (.int .i64) (.pair (.int .i64) (.pair (.int .i64) .unit)))), (104, .pair (.int .i64) (.pair (.int .i64) (.pair (.int .i64) .unit))), (106, .sl (.pair (.int .i64) (.pair (.int .i64) (.pair (.int .i64) .unit))))]
def et_L33_To : List (Nat × Nat) := [(102, 104), (106, 112)]
theorem tt_L33_To_ok : subT tt tt_L33_To = true := by kernel_rfl
theorem et_L33_To_ok : subE et et_L33_To = true := by kernel_rfl
noncomputable def fns_L33_To : List (Nat × (List AV → Option AV)) := []
theorem fns_L33_To_ok : FnsOk Go.Proofs.Try.prog fns_L33_To := FnsOk.nil _
def L33_To_S1 (u0 : AV) (u1 : AV) (u2 : AV) (x1 : Int × (List (Int × Int × Int × Unit))) : St :=
  ⟨[(3, u0), (6, u1), (7, u2), (8, .int .i64 x1.1)], [(15, .row 112 (.pair (.int .i64) (.pair (.int .i64) (.pair (.int .i64) .unit))) x1.2 false)], none⟩
def L33_To_M1 : Msk := ⟨[3, 6, 7, 8], [15], [(3, 15, 106)], [], [], [], [], [], [], [], []⟩
def kp_L33_To : List (Nat × List Nat) := [(40000000, []), (0, [0]), (1, [0, 3]), (2, [3, 6, 7, 8]), (3, [3, 6, 7, 8, 9]), (4, [3, 5, 6, 7, 8]), (5, [3, 6, 7, 8]), (6, [3, 6, 7, 8]), (7, [2]), (4000000, []), (4000001, []), (4000002, []), (4000003, [15]), (4000004, [5, 15]), (4000005, [15]), (4000006, [15]), (4000007, [15])]
def od_L33_To : List (Nat × Ord) := []
noncomputable def E_L33_To : Env := ⟨0, 0, et_L33_To, tt_L33_To, fns_L33_To, [], od_L33_To, kp_L33_To, none, []⟩
set_option maxRecDepth 100000 in
set_option maxHeartbeats 40000000 in
theorem c_L33_To : PCon Go.Proofs.Try.prog 58 lf_L33_To := by
  rw [lq_L33_To]
  refine lift_conR (E := E_L33_To) (c := bodyOf Try.f58) (nt := 18) (rs := [.tmp 2]) (ts := [106]) (EnvC.sub (off := 0) (nt := 0) (ords := od_L33_To) (keep := kp_L33_To) (yl := none) tt_ok et_ok fns_L33_To_ok (PrsOk.nil _) (ItsOk.nil _) tt_L33_To_ok et_L33_To_ok) (PrOk.of mixed_ok) Go.Proofs.Try.func58 rfl (by decide) rfl rfl rfl (pureR_one (e := (.sl (.pair (.int .i64) (.pair (.int .i64) (.pair (.int .i64) .unit))))) rfl) ?_
  intro x r hw hs
  repeat'
    (try (conv => whnf)
     first
       | (with_reducible have hs := letv_out hs)
       | (refine draw_and (by kernel_rfl) ?_)
       | (refine both_mk ?_ ?_)
       | (refine br_bool (fun h => ?_) (fun h => ?_) <;> first | have hs := cT h hs | have hs := cF h hs)
       | refine chk_elim hs fun hs => ?_
       | (have hs := letv_out hs)
       | exact fin_some hs rfl
       | (intro b hb; first | have hs := nilq_elim hs b hb | have hs := nilqn_elim hs b hb)
       | exact hJ1 _ hs
       | (have hs := cT rfl hs)
       | (have hs := cF rfl hs)
       | ((with_reducible have hs : loop (L33_To_L1 _ _) _ = some _ := hs); refine vc_loopR (L33_To_S1 _ _ _) L33_To_M1 hs rfl ?_; intro J1 k1 x1 hJ1 hs)
       | (refine vc_loopR (L33_To_S1 _ _ _) L33_To_M1 hs rfl ?_; intro J1 k1 x1 hJ1 hs)
       | exact (none_ne hs).elim)
theorem cq_L33_To : PCon Go.Proofs.Try.prog 58 (liftF (.pair (.sl (.pair (.int .i64) (.pair (.int .i64) (.pair (.int .i64) .unit)))) .unit) (unpack (.sl (.pair (.int .i64) (.pair (.int .i64) (.pair (.int .i64) .unit))))) (fun x => L33_To x.1)) := lq_L33_To ▸ c_L33_To
noncomputable def lf_L33_Back : List AV → Option AV := liftF (.pair (.sl (.pair (.int .i64) (.pair (.int .i64) (.pair (.int .i64) .unit)))) .unit) (unpack (.sl (.pair (.int .i64) (.pair (.int .i64) (.pair (.int .i64) .unit))))) (fun x => L33_Back x.1)
theorem lq_L33_Back : lf_L33_Back = liftF (.pair (.sl (.pair (.int .i64) (.pair (.int .i64) (.pair (.int .i64) .unit)))) .unit) (unpack (.sl (.pair (.int .i64) (.pair (.int .i64) (.pair (.int .i64) .unit))))) (fun x => L33_Back x.1) := rfl
attribute [irreducible] lf_L33_Back
theorem ck_L33_Back {vs : List AV} {k : AV → Prop} {x : ((.pair (.sl (.pair (.int .i64) (.pair (.int .i64) (.pair (.int .i64) .unit)))) .unit) : Ty).den} {v : List (Int × Int × Int × Unit)} (h1 : pks (.pair (.sl (.pair (.int .i64) (.pair (.int .i64) (.pair (.int .i64) .unit)))) .unit) vs = some x) (h2 : L33_Back x.1 = some v) (h3 : k ((unpack (.sl (.pair (.int .i64) (.pair (.int .i64) (.pair (.int .i64) .unit))))) v)) : callK (lf_L33_Back vs) k := by
  rw [lq_L33_Back]; exact callK_lift h1 h2 h3
def tt_L33_Back : List (Nat × Ty) := [(3, .int .i64), (102, .sl (.pair (.int .i64) (.pair (.int .i64) (.pair (.int .i64) .unit)))), (106, .sl (.pair (.int .i64) (.pair (.int .i64) (.pair (.int .i64) .unit)))), (112, .pair (.int .i64) (.pair (.int .i64) (.pair (.int .i64) .unit)))]
def et_L33_Back : List (Nat × Nat) := [(102, 104), (106, 112)]
theorem tt_L33_Back_ok : subT tt tt_L33_Back = true := by kernel_rfl
theorem et_L33_Back_ok : subE et et_L33_Back = true := by kernel_rfl
noncomputable def fns_L33_Back : List (Nat × (List AV → Option AV)) := []
theorem fns_L33_Back_ok : FnsOk Go.Proofs.Try.prog fns_L33_Back := FnsOk.nil _
def L33_Back_S1 (u0 : AV) (u1 : AV) (u2 : AV) (x1 : Int × (List (Int × Int × Int × Unit))) : St :=
  ⟨[(3, u0), (6, u1), (7, u2), (8, .int .i64 x1.1)], [(15, .row 104 (.pair (.int .i64) (.pair (.int .i64) (.pair (.int .i64) .unit))) x1.2 false)], none⟩
def L33_Back_M1 : Msk := ⟨[3, 6, 7, 8], [15], [(3, 15, 102)], [], [], [], [], [], [], [], []⟩
def kp_L33_Back : List (Nat × List Nat) := [(0, [0]), (1, [0, 3]), (2, [3, 6, 7, 8]), (3, [3, 6, 7, 8, 9]), (4, [3, 5, 6, 7, 8]), (5, [3, 6, 7, 8]), (6, [3, 6, 7, 8]), (7, [2]), (4000000, []), (4000001, []), (4000002, []), (4000003, [15]), (4000004, [5, 15]), (4000005, [15]), (4000006, [15]), (4000007, [15])]
def od_L33_Back : List (Nat × Ord) := []
noncomputable def E_L33_Back : Env := ⟨0, 0, et_L33_Back, tt_L33_Back, fns_L33_Back, [], od_L33_Back, kp_L33_Back, none, []⟩
set_option maxRecDepth 100000 in
set_option maxHeartbeats 40000000 in
theorem c_L33_Back : PCon Go.Proofs.Try.prog 67 lf_L33_Back := by
  rw [lq_L33_Back]
  refine lift_conR (E := E_L33_Back) (c := bodyOf Try.f67) (nt := 18) (rs := [.tmp 2]) (ts := [102]) (EnvC.sub (off := 0) (nt := 0) (ords := od_L33_Back) (keep := kp_L33_Back) (yl := none) tt_ok et_ok fns_L33_Back_ok (PrsOk.nil _) (ItsOk.nil _) tt_L33_Back_ok et_L33_Back_ok) (PrOk.of mixed_ok) Go.Proofs.Try.func67 rfl (by decide) rfl rfl rfl (pureR_one (e := (.sl (.pair (.int .i64) (.pair (.int .i64) (.pair (.int .i64) .unit))))) rfl) ?_
  intro x r hw hs
  repeat'
    (try (conv => whnf)
     first
       | (with_reducible have hs := letv_out hs)
       | (refine draw_and (by kernel_rfl) ?_)
       | (refine both_mk ?_ ?_)
       | (refine br_bool (fun h => ?_) (fun h => ?_) <;> first | have hs := cT h hs | have hs := cF h hs)
       | refine chk_elim hs fun hs => ?_
       | (have hs := letv_out hs)
       | exact fin_some hs rfl
       | (intro b hb; first | have hs := nilq_elim hs b hb | have hs := nilqn_elim hs b hb)
       | exact hJ1 _ hs
       | (have hs := cT rfl hs)
       | (have hs := cF rfl hs)
       | ((with_reducible have hs : loop (L33_Back_L1 _ _) _ = some _ := hs); refine vc_loopR (L33_Back_S1 _ _ _) L33_Back_M1 hs rfl ?_; intro J1 k1 x1 hJ1 hs)
       | (refine vc_loopR (L33_Back_S1 _ _ _) L33_Back_M1 hs rfl ?_; intro J1 k1 x1 hJ1 hs)
       | exact (none_ne hs).elim)
theorem cq_L33_Back : PCon Go.Proofs.Try.prog 67 (liftF (.pair (.sl (.pair (.int .i64) (.pair (.int .i64) (.pair (.int .i64) .unit)))) .unit) (unpack (.sl (.pair (.int .i64) (.pair (.int .i64) (.pair (.int .i64) .unit))))) (fun x => L33_Back x.1)) := lq_L33_Back ▸ c_L33_Back
end Go.Proofs.YtoihmfgkmndjfaaV
