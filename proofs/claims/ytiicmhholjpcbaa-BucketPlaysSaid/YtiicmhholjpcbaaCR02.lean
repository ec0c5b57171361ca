import Derived.Test.YtiicmhholjpcbaaVcTab
import Derived.Test.YtiicmhholjpcbaaDR02
import Derived.Test.YtiicmhholjpcbaaCR01
namespace Go.Proofs.YtiicmhholjpcbaaV
open Go.Proofs
set_option linter.unusedVariables false
noncomputable def lf_R02_New : List AV → Option AV := liftF (.pair (.int .i64) (.pair (.int .i64) .unit)) (unpR (.pair (.pair (.int .i64) (.pair (.sl (.int .i64)) (.pair (.sl (.pair (.int .i64) (.pair (.int .i64) .unit))) .unit))) (.pair (.int .i64) .unit))) (fun x => R02_New x.1 x.2.1)
theorem lq_R02_New : lf_R02_New = liftF (.pair (.int .i64) (.pair (.int .i64) .unit)) (unpR (.pair (.pair (.int .i64) (.pair (.sl (.int .i64)) (.pair (.sl (.pair (.int .i64) (.pair (.int .i64) .unit))) .unit))) (.pair (.int .i64) .unit))) (fun x => R02_New x.1 x.2.1) := rfl
attribute [irreducible] lf_R02_New
theorem ck_R02_New {vs : List AV} {k : AV → Prop} {x : ((.pair (.int .i64) (.pair (.int .i64) .unit)) : Ty).den} {v : (Int × (List Int) × (List (Int × Int × Unit)) × Unit) × Int × Unit} (h1 : pks (.pair (.int .i64) (.pair (.int .i64) .unit)) vs = some x) (h2 : R02_New x.1 x.2.1 = some v) (h3 : k ((unpR (.pair (.pair (.int .i64) (.pair (.sl (.int .i64)) (.pair (.sl (.pair (.int .i64) (.pair (.int .i64) .unit))) .unit))) (.pair (.int .i64) .unit))) v)) : callK (lf_R02_New vs) k := by
  rw [lq_R02_New]; exact callK_lift h1 h2 h3
def tt_R02_New : List (Nat × Ty) := [(3, .int .i64), (36, .sl (.int .i64)), (39, .pair (.int .i64) (.pair (.sl (.int .i64)) (.pair (.sl (.pair (.int .i64) (.pair (.int .i64) .unit))) .unit)))]
def et_R02_New : List (Nat × Nat) := [(36, 3)]
theorem tt_R02_New_ok : subT tt tt_R02_New = true := by kernel_rfl
theorem et_R02_New_ok : subE et et_R02_New = true := by kernel_rfl
noncomputable def fns_R02_New : List (Nat × (List AV → Option AV)) := []
theorem fns_R02_New_ok : FnsOk Go.Proofs.Try.prog fns_R02_New := FnsOk.nil _
def kp_R02_New : List (Nat × List Nat) := [(0, [0, 1, 4]), (1, [0, 1, 4, 19]), (2, [4, 5]), (3, [4, 5]), (4000000, [4]), (4000001, [4]), (4000002, [4]), (4000003, [4, 23])]
def od_R02_New : List (Nat × Ord) := []
noncomputable def E_R02_New : Env := ⟨0, 0, et_R02_New, tt_R02_New, fns_R02_New, [], od_R02_New, kp_R02_New, none, []⟩
set_option maxRecDepth 100000 in
set_option maxHeartbeats 40000000 in
theorem c_R02_New : PCon Go.Proofs.Try.prog 21 lf_R02_New := by
  rw [lq_R02_New]
  refine lift_conR (E := E_R02_New) (c := bodyOf Try.f21) (nt := 25) (rs := [.cell 4 39, .tmp 5]) (ts := [39, 3]) (EnvC.sub (off := 0) (nt := 0) (ords := od_R02_New) (keep := kp_R02_New) (yl := none) tt_ok et_ok fns_R02_New_ok (PrsOk.nil _) (ItsOk.nil _) tt_R02_New_ok et_R02_New_ok) (PrOk.of mixed_ok) Go.Proofs.Try.func21 rfl (by decide) rfl rfl rfl (pureR_many (e := (.pair (.pair (.int .i64) (.pair (.sl (.int .i64)) (.pair (.sl (.pair (.int .i64) (.pair (.int .i64) .unit))) .unit))) (.pair (.int .i64) .unit))) rfl) ?_
  intro x r hw hs
  repeat'
    (try (conv => whnf)
     first
       | (with_reducible have hs := letv_out hs)
       | (refine draw_and (by kernel_rfl) ?_)
       | (refine both_mk ?_ ?_)
       | (refine br_bool (fun h => ?_) (fun h => ?_) <;> first | have hs := cT h hs | have hs := cF h hs)
       | refine chk_elim hs fun hs => ?_
       | (have hs := letv_out hs)
       | exact fin_some hs rfl
       | (intro b hb; first | have hs := nilq_elim hs b hb | have hs := nilqn_elim hs b hb)
       | (have hs := cT rfl hs)
       | (have hs := cF rfl hs)
       | exact (none_ne hs).elim)
theorem cq_R02_New : PCon Go.Proofs.Try.prog 21 (liftF (.pair (.int .i64) (.pair (.int .i64) .unit)) (unpR (.pair (.pair (.int .i64) (.pair (.sl (.int .i64)) (.pair (.sl (.pair (.int .i64) (.pair (.int .i64) .unit))) .unit))) (.pair (.int .i64) .unit))) (fun x => R02_New x.1 x.2.1)) := lq_R02_New ▸ c_R02_New
noncomputable def lf_R02_find : List AV → Option AV := liftF (.pair (.pair (.int .i64) (.pair (.sl (.int .i64)) (.pair (.sl (.pair (.int .i64) (.pair (.int .i64) .unit))) .unit))) (.pair (.int .i64) .unit)) (unpack (.int .i64)) (fun x => R02_find x.1 x.2.1)
theorem lq_R02_find : lf_R02_find = liftF (.pair (.pair (.int .i64) (.pair (.sl (.int .i64)) (.pair (.sl (.pair (.int .i64) (.pair (.int .i64) .unit))) .unit))) (.pair (.int .i64) .unit)) (unpack (.int .i64)) (fun x => R02_find x.1 x.2.1) := rfl
attribute [irreducible] lf_R02_find
theorem ck_R02_find {vs : List AV} {k : AV → Prop} {x : ((.pair (.pair (.int .i64) (.pair (.sl (.int .i64)) (.pair (.sl (.pair (.int .i64) (.pair (.int .i64) .unit))) .unit))) (.pair (.int .i64) .unit)) : Ty).den} {v : Int} (h1 : pks (.pair (.pair (.int .i64) (.pair (.sl (.int .i64)) (.pair (.sl (.pair (.int .i64) (.pair (.int .i64) .unit))) .unit))) (.pair (.int .i64) .unit)) vs = some x) (h2 : R02_find x.1 x.2.1 = some v) (h3 : k ((unpack (.int .i64)) v)) : callK (lf_R02_find vs) k := by
  rw [lq_R02_find]; exact callK_lift h1 h2 h3
def tt_R02_find : List (Nat × Ty) := [(3, .int .i64), (37, .sl (.pair (.int .i64) (.pair (.int .i64) .unit))), (39, .pair (.int .i64) (.pair (.sl (.int .i64)) (.pair (.sl (.pair (.int .i64) (.pair (.int .i64) .unit))) .unit))), (155, .pair (.int .i64) (.pair (.int .i64) .unit))]
def et_R02_find : List (Nat × Nat) := [(37, 155)]
theorem tt_R02_find_ok : subT tt tt_R02_find = true := by kernel_rfl
theorem et_R02_find_ok : subE et et_R02_find = true := by kernel_rfl
noncomputable def fns_R02_find : List (Nat × (List AV → Option AV)) := []
theorem fns_R02_find_ok : FnsOk Go.Proofs.Try.prog fns_R02_find := FnsOk.nil _
def R02_find_S1 (u0 : AV) (u1 : AV) (B3 : Blk) (x1 : Int) : St :=
  ⟨[(1, u0), (2, u1), (5, .int .i64 x1)], [(2, B3)], none⟩
def R02_find_M1 : Msk := ⟨[1, 2, 5], [2], [], [], [], [], [], [], []⟩
def kp_R02_find : List (Nat × List Nat) := [(0, [1, 2]), (1, [1, 2, 5]), (2, [1, 2, 5, 10]), (3, [1, 2, 5]), (4, [1, 2, 5, 20]), (5, [4]), (6, [4]), (4000000, [2]), (4000001, [2]), (4000002, [2]), (4000003, [2]), (4000004, [2]), (4000005, []), (4000006, [])]
def od_R02_find : List (Nat × Ord) := []
noncomputable def E_R02_find : Env := ⟨0, 0, et_R02_find, tt_R02_find, fns_R02_find, [], od_R02_find, kp_R02_find, none, []⟩
set_option maxRecDepth 100000 in
set_option maxHeartbeats 40000000 in
theorem c_R02_find : PCon Go.Proofs.Try.prog 111 lf_R02_find := by
  rw [lq_R02_find]
  refine lift_conR (E := E_R02_find) (c := bodyOf Try.f111) (nt := 22) (rs := [.tmp 4]) (ts := [3]) (EnvC.sub (off := 0) (nt := 0) (ords := od_R02_find) (keep := kp_R02_find) (yl := none) tt_ok et_ok fns_R02_find_ok (PrsOk.nil _) (ItsOk.nil _) tt_R02_find_ok et_R02_find_ok) (PrOk.of mixed_ok) Go.Proofs.Try.func111 rfl (by decide) rfl rfl rfl (pureR_one (e := (.int .i64)) rfl) ?_
  intro x r hw hs
  repeat'
    (try (conv => whnf)
     first
       | (with_reducible have hs := letv_out hs)
       | (refine draw_and (by kernel_rfl) ?_)
       | (refine both_mk ?_ ?_)
       | (refine br_bool (fun h => ?_) (fun h => ?_) <;> first | have hs := cT h hs | have hs := cF h hs)
       | refine chk_elim hs fun hs => ?_
       | (have hs := letv_out hs)
       | exact fin_some hs rfl
       | (intro b hb; first | have hs := nilq_elim hs b hb | have hs := nilqn_elim hs b hb)
       | exact hJ1 _ hs
       | (have hs := cT rfl hs)
       | (have hs := cF rfl hs)
       | ((with_reducible have hs : loop (R02_find_L1 _ _) _ = some _ := hs); refine vc_loopR (R02_find_S1 _ _ _) R02_find_M1 hs rfl ?_; intro J1 k1 x1 hJ1 hs)
       | (refine vc_loopR (R02_find_S1 _ _ _) R02_find_M1 hs rfl ?_; intro J1 k1 x1 hJ1 hs)
       | exact (none_ne hs).elim)
theorem cq_R02_find : PCon Go.Proofs.Try.prog 111 (liftF (.pair (.pair (.int .i64) (.pair (.sl (.int .i64)) (.pair (.sl (.pair (.int .i64) (.pair (.int .i64) .unit))) .unit))) (.pair (.int .i64) .unit)) (unpack (.int .i64)) (fun x => R02_find x.1 x.2.1)) := lq_R02_find ▸ c_R02_find
noncomputable def lf_R02_at : List AV → Option AV := liftF (.pair (.pair (.int .i64) (.pair (.sl (.int .i64)) (.pair (.sl (.pair (.int .i64) (.pair (.int .i64) .unit))) .unit))) (.pair (.int .i64) .unit)) (unpR (.pair (.int .i64) (.pair (.int .i64) .unit))) (fun x => R02_at x.1 x.2.1)
theorem lq_R02_at : lf_R02_at = liftF (.pair (.pair (.int .i64) (.pair (.sl (.int .i64)) (.pair (.sl (.pair (.int .i64) (.pair (.int .i64) .unit))) .unit))) (.pair (.int .i64) .unit)) (unpR (.pair (.int .i64) (.pair (.int .i64) .unit))) (fun x => R02_at x.1 x.2.1) := rfl
attribute [irreducible] lf_R02_at
theorem ck_R02_at {vs : List AV} {k : AV → Prop} {x : ((.pair (.pair (.int .i64) (.pair (.sl (.int .i64)) (.pair (.sl (.pair (.int .i64) (.pair (.int .i64) .unit))) .unit))) (.pair (.int .i64) .unit)) : Ty).den} {v : Int × Int × Unit} (h1 : pks (.pair (.pair (.int .i64) (.pair (.sl (.int .i64)) (.pair (.sl (.pair (.int .i64) (.pair (.int .i64) .unit))) .unit))) (.pair (.int .i64) .unit)) vs = some x) (h2 : R02_at x.1 x.2.1 = some v) (h3 : k ((unpR (.pair (.int .i64) (.pair (.int .i64) .unit))) v)) : callK (lf_R02_at vs) k := by
  rw [lq_R02_at]; exact callK_lift h1 h2 h3
def tt_R02_at : List (Nat × Ty) := [(3, .int .i64), (36, .sl (.int .i64)), (39, .pair (.int .i64) (.pair (.sl (.int .i64)) (.pair (.sl (.pair (.int .i64) (.pair (.int .i64) .unit))) .unit)))]
def et_R02_at : List (Nat × Nat) := [(36, 3)]
theorem tt_R02_at_ok : subT tt tt_R02_at = true := by kernel_rfl
theorem et_R02_at_ok : subE et et_R02_at = true := by kernel_rfl
noncomputable def fns_R02_at : List (Nat × (List AV → Option AV)) := [(110, lf_R01_Slot), (111, lf_R02_find), (112, lf_R01_Gen)]
theorem fns_R02_at_ok : FnsOk Go.Proofs.Try.prog fns_R02_at := FnsOk.cons c_R01_Slot (FnsOk.cons c_R02_find (FnsOk.cons c_R01_Gen (FnsOk.nil _)))
def kp_R02_at : List (Nat × List Nat) := [(0, [1, 2]), (1, [1, 2, 6]), (2, [1, 2, 6, 18]), (3, [4, 5]), (4, [1, 2, 6, 7]), (5, [7, 33]), (6, [4, 5]), (7, [4, 5]), (4000000, [2]), (4000001, [2]), (4000002, [2]), (4000003, []), (4000004, [2]), (4000005, []), (4000006, []), (4000007, [])]
def od_R02_at : List (Nat × Ord) := [(5, (.one 0 (.one 1 (.one 2 (.one 3 (.one 4 (.one 5 (.one 6 (.one 7 (.one 8 (.one 9 (.one 10 (.one 11 .nil)))))))))))))]
noncomputable def E_R02_at : Env := ⟨0, 0, et_R02_at, tt_R02_at, fns_R02_at, [], od_R02_at, kp_R02_at, none, []⟩
set_option maxRecDepth 100000 in
set_option maxHeartbeats 40000000 in
theorem c_R02_at : PCon Go.Proofs.Try.prog 78 lf_R02_at := by
  rw [lq_R02_at]
  refine lift_conR (E := E_R02_at) (c := bodyOf Try.f78) (nt := 35) (rs := [.tmp 4, .tmp 5]) (ts := [3, 3]) (EnvC.sub (off := 0) (nt := 0) (ords := od_R02_at) (keep := kp_R02_at) (yl := none) tt_ok et_ok fns_R02_at_ok (PrsOk.nil _) (ItsOk.nil _) tt_R02_at_ok et_R02_at_ok) (PrOk.of mixed_ok) Go.Proofs.Try.func78 rfl (by decide) rfl rfl rfl (pureR_many (e := (.pair (.int .i64) (.pair (.int .i64) .unit))) rfl) ?_
  intro x r hw hs
  repeat'
    (try (conv => whnf)
     first
       | (with_reducible have hs := letv_out hs)
       | (refine draw_and (by kernel_rfl) ?_)
       | (refine both_mk ?_ ?_)
       | (refine br_bool (fun h => ?_) (fun h => ?_) <;> first | have hs := cT h hs | have hs := cF h hs)
       | (refine bind_elim hs fun v hb hs => ?_; first | refine ck_R01_Slot rfl hb ?_ | refine ck_R02_find rfl hb ?_ | refine ck_R01_Gen rfl hb ?_)
       | refine chk_elim hs fun hs => ?_
       | (have hs := letv_out hs)
       | exact fin_some hs rfl
       | (intro b hb; first | have hs := nilq_elim hs b hb | have hs := nilqn_elim hs b hb)
       | (have hs := cT rfl hs)
       | (have hs := cF rfl hs)
       | exact (none_ne hs).elim)
theorem cq_R02_at : PCon Go.Proofs.Try.prog 78 (liftF (.pair (.pair (.int .i64) (.pair (.sl (.int .i64)) (.pair (.sl (.pair (.int .i64) (.pair (.int .i64) .unit))) .unit))) (.pair (.int .i64) .unit)) (unpR (.pair (.int .i64) (.pair (.int .i64) .unit))) (fun x => R02_at x.1 x.2.1)) := lq_R02_at ▸ c_R02_at
noncomputable def lf_R02_Set : List AV → Option AV := liftF (.pair (.pair (.int .i64) (.pair (.sl (.int .i64)) (.pair (.sl (.pair (.int .i64) (.pair (.int .i64) .unit))) .unit))) (.pair (.int .i64) (.pair (.int .i64) .unit))) (unpR (.pair (.pair (.int .i64) (.pair (.sl (.int .i64)) (.pair (.sl (.pair (.int .i64) (.pair (.int .i64) .unit))) .unit))) (.pair (.int .i64) .unit))) (fun x => R02_Set x.1 x.2.1 x.2.2.1)
theorem lq_R02_Set : lf_R02_Set = liftF (.pair (.pair (.int .i64) (.pair (.sl (.int .i64)) (.pair (.sl (.pair (.int .i64) (.pair (.int .i64) .unit))) .unit))) (.pair (.int .i64) (.pair (.int .i64) .unit))) (unpR (.pair (.pair (.int .i64) (.pair (.sl (.int .i64)) (.pair (.sl (.pair (.int .i64) (.pair (.int .i64) .unit))) .unit))) (.pair (.int .i64) .unit))) (fun x => R02_Set x.1 x.2.1 x.2.2.1) := rfl
attribute [irreducible] lf_R02_Set
theorem ck_R02_Set {vs : List AV} {k : AV → Prop} {x : ((.pair (.pair (.int .i64) (.pair (.sl (.int .i64)) (.pair (.sl (.pair (.int .i64) (.pair (.int .i64) .unit))) .unit))) (.pair (.int .i64) (.pair (.int .i64) .unit))) : Ty).den} {v : (Int × (List Int) × (List (Int × Int × Unit)) × Unit) × Int × Unit} (h1 : pks (.pair (.pair (.int .i64) (.pair (.sl (.int .i64)) (.pair (.sl (.pair (.int .i64) (.pair (.int .i64) .unit))) .unit))) (.pair (.int .i64) (.pair (.int .i64) .unit))) vs = some x) (h2 : R02_Set x.1 x.2.1 x.2.2.1 = some v) (h3 : k ((unpR (.pair (.pair (.int .i64) (.pair (.sl (.int .i64)) (.pair (.sl (.pair (.int .i64) (.pair (.int .i64) .unit))) .unit))) (.pair (.int .i64) .unit))) v)) : callK (lf_R02_Set vs) k := by
  rw [lq_R02_Set]; exact callK_lift h1 h2 h3
def tt_R02_Set : List (Nat × Ty) := [(3, .int .i64), (37, .sl (.pair (.int .i64) (.pair (.int .i64) .unit))), (39, .pair (.int .i64) (.pair (.sl (.int .i64)) (.pair (.sl (.pair (.int .i64) (.pair (.int .i64) .unit))) .unit))), (155, .pair (.int .i64) (.pair (.int .i64) .unit))]
def et_R02_Set : List (Nat × Nat) := [(37, 155)]
theorem tt_R02_Set_ok : subT tt tt_R02_Set = true := by kernel_rfl
theorem et_R02_Set_ok : subE et et_R02_Set = true := by kernel_rfl
noncomputable def fns_R02_Set : List (Nat × (List AV → Option AV)) := [(78, lf_R02_at)]
theorem fns_R02_Set_ok : FnsOk Go.Proofs.Try.prog fns_R02_Set := FnsOk.cons c_R02_at (FnsOk.nil _)
def kp_R02_Set : List (Nat × List Nat) := [(0, [1, 2, 3, 6]), (1, [2, 3, 6, 8, 9]), (2, [2, 3, 6, 8, 9, 17]), (3, [2, 3, 6, 8, 9]), (4, [3, 6, 9]), (5, [6, 7]), (4000000, [3, 6]), (4000001, [3, 6]), (4000002, [3, 6]), (4000003, [3, 6, 20]), (4000004, [3, 6, 20]), (4000005, [6, 20])]
def od_R02_Set : List (Nat × Ord) := []
noncomputable def E_R02_Set : Env := ⟨0, 0, et_R02_Set, tt_R02_Set, fns_R02_Set, [], od_R02_Set, kp_R02_Set, none, []⟩
set_option maxRecDepth 100000 in
set_option maxHeartbeats 40000000 in
theorem c_R02_Set : PCon Go.Proofs.Try.prog 23 lf_R02_Set := by
  rw [lq_R02_Set]
  refine lift_conR (E := E_R02_Set) (c := bodyOf Try.f23) (nt := 30) (rs := [.cell 6 39, .tmp 7]) (ts := [39, 3]) (EnvC.sub (off := 0) (nt := 0) (ords := od_R02_Set) (keep := kp_R02_Set) (yl := none) tt_ok et_ok fns_R02_Set_ok (PrsOk.nil _) (ItsOk.nil _) tt_R02_Set_ok et_R02_Set_ok) (PrOk.of mixed_ok) Go.Proofs.Try.func23 rfl (by decide) rfl rfl rfl (pureR_many (e := (.pair (.pair (.int .i64) (.pair (.sl (.int .i64)) (.pair (.sl (.pair (.int .i64) (.pair (.int .i64) .unit))) .unit))) (.pair (.int .i64) .unit))) rfl) ?_
  intro x r hw hs
  repeat'
    (try (conv => whnf)
     first
       | (with_reducible have hs := letv_out hs)
       | (refine draw_and (by kernel_rfl) ?_)
       | (refine both_mk ?_ ?_)
       | (refine br_bool (fun h => ?_) (fun h => ?_) <;> first | have hs := cT h hs | have hs := cF h hs)
       | (refine bind_elim hs fun v hb hs => ?_; first | refine ck_R02_at rfl hb ?_)
       | refine chk_elim hs fun hs => ?_
       | (have hs := letv_out hs)
       | exact fin_some hs rfl
       | (intro b hb; first | have hs := nilq_elim hs b hb | have hs := nilqn_elim hs b hb)
       | (have hs := cT rfl hs)
       | (have hs := cF rfl hs)
       | exact (none_ne hs).elim)
theorem cq_R02_Set : PCon Go.Proofs.Try.prog 23 (liftF (.pair (.pair (.int .i64) (.pair (.sl (.int .i64)) (.pair (.sl (.pair (.int .i64) (.pair (.int .i64) .unit))) .unit))) (.pair (.int .i64) (.pair (.int .i64) .unit))) (unpR (.pair (.pair (.int .i64) (.pair (.sl (.int .i64)) (.pair (.sl (.pair (.int .i64) (.pair (.int .i64) .unit))) .unit))) (.pair (.int .i64) .unit))) (fun x => R02_Set x.1 x.2.1 x.2.2.1)) := lq_R02_Set ▸ c_R02_Set
noncomputable def lf_R02_Drop : List AV → Option AV := liftF (.pair (.pair (.int .i64) (.pair (.sl (.int .i64)) (.pair (.sl (.pair (.int .i64) (.pair (.int .i64) .unit))) .unit))) (.pair (.int .i64) .unit)) (unpR (.pair (.pair (.int .i64) (.pair (.sl (.int .i64)) (.pair (.sl (.pair (.int .i64) (.pair (.int .i64) .unit))) .unit))) (.pair (.int .i64) .unit))) (fun x => R02_Drop x.1 x.2.1)
theorem lq_R02_Drop : lf_R02_Drop = liftF (.pair (.pair (.int .i64) (.pair (.sl (.int .i64)) (.pair (.sl (.pair (.int .i64) (.pair (.int .i64) .unit))) .unit))) (.pair (.int .i64) .unit)) (unpR (.pair (.pair (.int .i64) (.pair (.sl (.int .i64)) (.pair (.sl (.pair (.int .i64) (.pair (.int .i64) .unit))) .unit))) (.pair (.int .i64) .unit))) (fun x => R02_Drop x.1 x.2.1) := rfl
attribute [irreducible] lf_R02_Drop
theorem ck_R02_Drop {vs : List AV} {k : AV → Prop} {x : ((.pair (.pair (.int .i64) (.pair (.sl (.int .i64)) (.pair (.sl (.pair (.int .i64) (.pair (.int .i64) .unit))) .unit))) (.pair (.int .i64) .unit)) : Ty).den} {v : (Int × (List Int) × (List (Int × Int × Unit)) × Unit) × Int × Unit} (h1 : pks (.pair (.pair (.int .i64) (.pair (.sl (.int .i64)) (.pair (.sl (.pair (.int .i64) (.pair (.int .i64) .unit))) .unit))) (.pair (.int .i64) .unit)) vs = some x) (h2 : R02_Drop x.1 x.2.1 = some v) (h3 : k ((unpR (.pair (.pair (.int .i64) (.pair (.sl (.int .i64)) (.pair (.sl (.pair (.int .i64) (.pair (.int .i64) .unit))) .unit))) (.pair (.int .i64) .unit))) v)) : callK (lf_R02_Drop vs) k := by
  rw [lq_R02_Drop]; exact callK_lift h1 h2 h3
def tt_R02_Drop : List (Nat × Ty) := [(3, .int .i64), (37, .sl (.pair (.int .i64) (.pair (.int .i64) .unit))), (39, .pair (.int .i64) (.pair (.sl (.int .i64)) (.pair (.sl (.pair (.int .i64) (.pair (.int .i64) .unit))) .unit)))]
def et_R02_Drop : List (Nat × Nat) := [(37, 155)]
theorem tt_R02_Drop_ok : subT tt tt_R02_Drop = true := by kernel_rfl
theorem et_R02_Drop_ok : subE et et_R02_Drop = true := by kernel_rfl
noncomputable def fns_R02_Drop : List (Nat × (List AV → Option AV)) := [(78, lf_R02_at)]
theorem fns_R02_Drop_ok : FnsOk Go.Proofs.Try.prog fns_R02_Drop := FnsOk.cons c_R02_at (FnsOk.nil _)
def kp_R02_Drop : List (Nat × List Nat) := [(0, [1, 2, 4]), (1, [2, 4, 6, 7]), (2, [2, 4, 6, 7, 16]), (3, [2, 4, 6, 7, 8]), (4, [2, 4, 7, 8]), (5, [2, 4, 7]), (6, [4, 5]), (4000000, [2, 4]), (4000001, [2, 4]), (4000002, [2, 4]), (4000003, [2, 4, 21]), (4000004, [2, 4, 21]), (4000005, [2, 4, 21]), (4000006, [4, 21])]
def od_R02_Drop : List (Nat × Ord) := []
noncomputable def E_R02_Drop : Env := ⟨0, 0, et_R02_Drop, tt_R02_Drop, fns_R02_Drop, [], od_R02_Drop, kp_R02_Drop, none, []⟩
set_option maxRecDepth 100000 in
set_option maxHeartbeats 40000000 in
theorem c_R02_Drop : PCon Go.Proofs.Try.prog 24 lf_R02_Drop := by
  rw [lq_R02_Drop]
  refine lift_conR (E := E_R02_Drop) (c := bodyOf Try.f24) (nt := 33) (rs := [.cell 4 39, .tmp 5]) (ts := [39, 3]) (EnvC.sub (off := 0) (nt := 0) (ords := od_R02_Drop) (keep := kp_R02_Drop) (yl := none) tt_ok et_ok fns_R02_Drop_ok (PrsOk.nil _) (ItsOk.nil _) tt_R02_Drop_ok et_R02_Drop_ok) (PrOk.of mixed_ok) Go.Proofs.Try.func24 rfl (by decide) rfl rfl rfl (pureR_many (e := (.pair (.pair (.int .i64) (.pair (.sl (.int .i64)) (.pair (.sl (.pair (.int .i64) (.pair (.int .i64) .unit))) .unit))) (.pair (.int .i64) .unit))) rfl) ?_
  intro x r hw hs
  repeat'
    (try (conv => whnf)
     first
       | (with_reducible have hs := letv_out hs)
       | (refine draw_and (by kernel_rfl) ?_)
       | (refine both_mk ?_ ?_)
       | (refine br_bool (fun h => ?_) (fun h => ?_) <;> first | have hs := cT h hs | have hs := cF h hs)
       | (refine bind_elim hs fun v hb hs => ?_; first | refine ck_R02_at rfl hb ?_)
       | refine chk_elim hs fun hs => ?_
       | (have hs := letv_out hs)
       | exact fin_some hs rfl
       | (intro b hb; first | have hs := nilq_elim hs b hb | have hs := nilqn_elim hs b hb)
       | (have hs := cT rfl hs)
       | (have hs := cF rfl hs)
       | exact (none_ne hs).elim)
theorem cq_R02_Drop : PCon Go.Proofs.Try.prog 24 (liftF (.pair (.pair (.int .i64) (.pair (.sl (.int .i64)) (.pair (.sl (.pair (.int .i64) (.pair (.int .i64) .unit))) .unit))) (.pair (.int .i64) .unit)) (unpR (.pair (.pair (.int .i64) (.pair (.sl (.int .i64)) (.pair (.sl (.pair (.int .i64) (.pair (.int .i64) .unit))) .unit))) (.pair (.int .i64) .unit))) (fun x => R02_Drop x.1 x.2.1)) := lq_R02_Drop ▸ c_R02_Drop
noncomputable def lf_R02_open : List AV → Option AV := liftF (.pair (.pair (.int .i64) (.pair (.sl (.int .i64)) (.pair (.sl (.pair (.int .i64) (.pair (.int .i64) .unit))) .unit))) (.pair (.int .i64) .unit)) (unpack .bool) (fun x => R02_open x.1 x.2.1)
theorem lq_R02_open : lf_R02_open = liftF (.pair (.pair (.int .i64) (.pair (.sl (.int .i64)) (.pair (.sl (.pair (.int .i64) (.pair (.int .i64) .unit))) .unit))) (.pair (.int .i64) .unit)) (unpack .bool) (fun x => R02_open x.1 x.2.1) := rfl
attribute [irreducible] lf_R02_open
theorem ck_R02_open {vs : List AV} {k : AV → Prop} {x : ((.pair (.pair (.int .i64) (.pair (.sl (.int .i64)) (.pair (.sl (.pair (.int .i64) (.pair (.int .i64) .unit))) .unit))) (.pair (.int .i64) .unit)) : Ty).den} {v : Bool} (h1 : pks (.pair (.pair (.int .i64) (.pair (.sl (.int .i64)) (.pair (.sl (.pair (.int .i64) (.pair (.int .i64) .unit))) .unit))) (.pair (.int .i64) .unit)) vs = some x) (h2 : R02_open x.1 x.2.1 = some v) (h3 : k ((unpack .bool) v)) : callK (lf_R02_open vs) k := by
  rw [lq_R02_open]; exact callK_lift h1 h2 h3
def tt_R02_open : List (Nat × Ty) := [(3, .int .i64), (4, .bool), (36, .sl (.int .i64)), (39, .pair (.int .i64) (.pair (.sl (.int .i64)) (.pair (.sl (.pair (.int .i64) (.pair (.int .i64) .unit))) .unit)))]
def et_R02_open : List (Nat × Nat) := [(36, 3)]
theorem tt_R02_open_ok : subT tt tt_R02_open = true := by kernel_rfl
theorem et_R02_open_ok : subE et et_R02_open = true := by kernel_rfl
noncomputable def fns_R02_open : List (Nat × (List AV → Option AV)) := [(111, lf_R02_find)]
theorem fns_R02_open_ok : FnsOk Go.Proofs.Try.prog fns_R02_open := FnsOk.cons c_R02_find (FnsOk.nil _)
def kp_R02_open : List (Nat × List Nat) := [(0, [1, 2]), (1, [4]), (4000000, [2]), (4000001, [])]
def od_R02_open : List (Nat × Ord) := [(1, (.one 0 (.one 1 (.one 100002 (.one 3 (.one 4 (.one 5 (.one 6 (.one 7 (.one 8 (.one 9 (.one 10 (.one 11 (.one 12 (.one 13 (.one 14 .nil))))))))))))))))]
noncomputable def E_R02_open : Env := ⟨0, 0, et_R02_open, tt_R02_open, fns_R02_open, [], od_R02_open, kp_R02_open, none, []⟩
set_option maxRecDepth 100000 in
set_option maxHeartbeats 40000000 in
theorem c_R02_open : PCon Go.Proofs.Try.prog 79 lf_R02_open := by
  rw [lq_R02_open]
  refine lift_conR (E := E_R02_open) (c := bodyOf Try.f79) (nt := 19) (rs := [.tmp 4]) (ts := [4]) (EnvC.sub (off := 0) (nt := 0) (ords := od_R02_open) (keep := kp_R02_open) (yl := none) tt_ok et_ok fns_R02_open_ok (PrsOk.nil _) (ItsOk.nil _) tt_R02_open_ok et_R02_open_ok) (PrOk.of mixed_ok) Go.Proofs.Try.func79 rfl (by decide) rfl rfl rfl (pureR_one (e := .bool) rfl) ?_
  intro x r hw hs
  repeat'
    (try (conv => whnf)
     first
       | (with_reducible have hs := letv_out hs)
       | (refine draw_and (by kernel_rfl) ?_)
       | (refine both_mk ?_ ?_)
       | (refine br_bool (fun h => ?_) (fun h => ?_) <;> first | have hs := cT h hs | have hs := cF h hs)
       | (refine bind_elim hs fun v hb hs => ?_; first | refine ck_R02_find rfl hb ?_)
       | refine chk_elim hs fun hs => ?_
       | (have hs := letv_out hs)
       | exact fin_some hs rfl
       | (intro b hb; first | have hs := nilq_elim hs b hb | have hs := nilqn_elim hs b hb)
       | (have hs := cT rfl hs)
       | (have hs := cF rfl hs)
       | exact (none_ne hs).elim)
theorem cq_R02_open : PCon Go.Proofs.Try.prog 79 (liftF (.pair (.pair (.int .i64) (.pair (.sl (.int .i64)) (.pair (.sl (.pair (.int .i64) (.pair (.int .i64) .unit))) .unit))) (.pair (.int .i64) .unit)) (unpack .bool) (fun x => R02_open x.1 x.2.1)) := lq_R02_open ▸ c_R02_open
noncomputable def lf_R02_Add : List AV → Option AV := liftF (.pair (.pair (.int .i64) (.pair (.sl (.int .i64)) (.pair (.sl (.pair (.int .i64) (.pair (.int .i64) .unit))) .unit))) (.pair (.int .i64) .unit)) (unpR (.pair (.pair (.int .i64) (.pair (.sl (.int .i64)) (.pair (.sl (.pair (.int .i64) (.pair (.int .i64) .unit))) .unit))) (.pair (.int .i64) (.pair (.int .i64) .unit)))) (fun x => R02_Add x.1 x.2.1)
theorem lq_R02_Add : lf_R02_Add = liftF (.pair (.pair (.int .i64) (.pair (.sl (.int .i64)) (.pair (.sl (.pair (.int .i64) (.pair (.int .i64) .unit))) .unit))) (.pair (.int .i64) .unit)) (unpR (.pair (.pair (.int .i64) (.pair (.sl (.int .i64)) (.pair (.sl (.pair (.int .i64) (.pair (.int .i64) .unit))) .unit))) (.pair (.int .i64) (.pair (.int .i64) .unit)))) (fun x => R02_Add x.1 x.2.1) := rfl
attribute [irreducible] lf_R02_Add
theorem ck_R02_Add {vs : List AV} {k : AV → Prop} {x : ((.pair (.pair (.int .i64) (.pair (.sl (.int .i64)) (.pair (.sl (.pair (.int .i64) (.pair (.int .i64) .unit))) .unit))) (.pair (.int .i64) .unit)) : Ty).den} {v : (Int × (List Int) × (List (Int × Int × Unit)) × Unit) × Int × Int × Unit} (h1 : pks (.pair (.pair (.int .i64) (.pair (.sl (.int .i64)) (.pair (.sl (.pair (.int .i64) (.pair (.int .i64) .unit))) .unit))) (.pair (.int .i64) .unit)) vs = some x) (h2 : R02_Add x.1 x.2.1 = some v) (h3 : k ((unpR (.pair (.pair (.int .i64) (.pair (.sl (.int .i64)) (.pair (.sl (.pair (.int .i64) (.pair (.int .i64) .unit))) .unit))) (.pair (.int .i64) (.pair (.int .i64) .unit)))) v)) : callK (lf_R02_Add vs) k := by
  rw [lq_R02_Add]; exact callK_lift h1 h2 h3
def tt_R02_Add : List (Nat × Ty) := [(3, .int .i64), (4, .bool), (36, .sl (.int .i64)), (37, .sl (.pair (.int .i64) (.pair (.int .i64) .unit))), (39, .pair (.int .i64) (.pair (.sl (.int .i64)) (.pair (.sl (.pair (.int .i64) (.pair (.int .i64) .unit))) .unit))), (155, .pair (.int .i64) (.pair (.int .i64) .unit))]
def et_R02_Add : List (Nat × Nat) := [(36, 3), (37, 155)]
theorem tt_R02_Add_ok : subT tt tt_R02_Add = true := by kernel_rfl
theorem et_R02_Add_ok : subE et et_R02_Add = true := by kernel_rfl
noncomputable def fns_R02_Add : List (Nat × (List AV → Option AV)) := [(79, lf_R02_open), (80, lf_R01_Make)]
theorem fns_R02_Add_ok : FnsOk Go.Proofs.Try.prog fns_R02_Add := FnsOk.cons c_R02_open (FnsOk.cons c_R01_Make (FnsOk.nil _))
def R02_Add_S1 (u0 : AV) (u1 : AV) (u2 : AV) (u3 : AV) (B5 : Blk) (B7 : Blk) (B8 : Blk) (x2 : Int × (List (Int × Int × Unit))) : St :=
  ⟨[(2, u0), (4, u1), (7, u2), (8, u3), (10, .int .i64 x2.1)], [(2, B5), (4, B7), (26, B8), (57, .row 155 (.pair (.int .i64) (.pair (.int .i64) .unit)) x2.2 false)], none⟩
def R02_Add_M1 : Msk := ⟨[2, 4, 7, 8, 10], [2, 4, 26, 57], [], [], [], [], [], [], []⟩
def R02_Add_S2 (u0 : AV) (u1 : AV) (u2 : AV) (u3 : AV) (u4 : AV) (B6 : Blk) (B8 : Blk) (B9 : Blk) (x3 : Int × (List (Int × Int × Unit))) : St :=
  ⟨[(1, u0), (2, u1), (4, u2), (7, u3), (8, u4), (9, .int .i64 x3.1)], [(2, B6), (4, B8), (26, B9), (57, .row 155 (.pair (.int .i64) (.pair (.int .i64) .unit)) x3.2 false)], none⟩
def R02_Add_M2 : Msk := ⟨[1, 2, 4, 7, 8, 9], [2, 4, 26, 57], [(8, 57, 37)], [], [], [], [], [], []⟩
def R02_Add_S3 (u0 : AV) (u1 : AV) (u2 : AV) (B4 : Blk) (B6 : Blk) (x1 : Int) : St :=
  ⟨[(1, u0), (2, u1), (4, u2), (7, .int .i64 x1)], [(2, B4), (4, B6)], none⟩
def R02_Add_M3 : Msk := ⟨[1, 2, 4, 7], [2, 4], [], [], [], [], [], [], []⟩
def kp_R02_Add : List (Nat × List Nat) := [(0, [1, 2, 4]), (1, [1, 2, 4, 7]), (2, [1, 2, 4, 7, 17]), (3, [1, 2, 4, 7]), (4, [1, 2, 4, 7, 23]), (5, [1, 2, 4, 7]), (6, [1, 2, 4, 7]), (7, [1, 2, 4, 7, 8]), (8, [1, 2, 4, 7, 8, 9]), (9, [1, 2, 4, 7, 8, 9, 39]), (10, [1, 2, 4, 7, 8, 9]), (11, [1, 2, 4, 7, 8, 9, 49]), (12, [1, 2, 4, 7, 8, 9]), (13, [2, 4, 7, 8]), (14, [2, 4, 7, 8, 10]), (15, [2, 4, 7, 8, 10, 68]), (16, [2, 4, 7, 8, 10]), (17, [2, 4, 7, 8, 10, 78]), (18, [2, 4, 7, 8, 10]), (19, [2, 4, 7]), (20, [2, 4, 11]), (21, [4, 5, 6]), (22, [4, 5, 6]), (4000000, [2, 4]), (4000001, [2, 4]), (4000002, [2, 4]), (4000003, [2, 4]), (4000004, [2, 4]), (4000005, [2, 4, 26]), (4000006, [2, 4, 26]), (4000007, [2, 4, 26]), (4000008, [2, 4, 26]), (4000009, [2, 4, 26, 57]), (4000010, [2, 4, 26, 57]), (4000011, [2, 4, 26, 57]), (4000012, [2, 4, 26, 57]), (4000013, [2, 4, 26, 57]), (4000014, [2, 4, 26, 57]), (4000015, [2, 4, 26, 57]), (4000016, [2, 4, 26, 57]), (4000017, [2, 4, 26, 57]), (4000018, [2, 4, 26, 57]), (4000019, [2, 4, 26, 57]), (4000020, [2, 4, 26, 57]), (4000021, [4, 26, 57]), (4000022, [4])]
def od_R02_Add : List (Nat × Ord) := []
noncomputable def E_R02_Add : Env := ⟨0, 0, et_R02_Add, tt_R02_Add, fns_R02_Add, [], od_R02_Add, kp_R02_Add, none, []⟩
set_option maxRecDepth 100000 in
set_option maxHeartbeats 40000000 in
theorem c_R02_Add : PCon Go.Proofs.Try.prog 25 lf_R02_Add := by
  rw [lq_R02_Add]
  refine lift_conR (E := E_R02_Add) (c := bodyOf Try.f25) (nt := 102) (rs := [.cell 4 39, .tmp 5, .tmp 6]) (ts := [39, 3, 3]) (EnvC.sub (off := 0) (nt := 0) (ords := od_R02_Add) (keep := kp_R02_Add) (yl := none) tt_ok et_ok fns_R02_Add_ok (PrsOk.nil _) (ItsOk.nil _) tt_R02_Add_ok et_R02_Add_ok) (PrOk.of mixed_ok) Go.Proofs.Try.func25 rfl (by decide) rfl rfl rfl (pureR_many (e := (.pair (.pair (.int .i64) (.pair (.sl (.int .i64)) (.pair (.sl (.pair (.int .i64) (.pair (.int .i64) .unit))) .unit))) (.pair (.int .i64) (.pair (.int .i64) .unit)))) rfl) ?_
  intro x r hw hs
  repeat'
    (try (conv => whnf)
     first
       | (with_reducible have hs := letv_out hs)
       | (refine draw_and (by kernel_rfl) ?_)
       | (refine both_mk ?_ ?_)
       | (refine br_bool (fun h => ?_) (fun h => ?_) <;> first | have hs := cT h hs | have hs := cF h hs)
       | (refine bind_elim hs fun v hb hs => ?_; first | refine ck_R02_open rfl hb ?_ | refine ck_R01_Make rfl hb ?_)
       | refine chk_elim hs fun hs => ?_
       | (have hs := letv_out hs)
       | exact fin_some hs rfl
       | (intro b hb; first | have hs := nilq_elim hs b hb | have hs := nilqn_elim hs b hb)
       | exact hJ1 _ hs
       | exact hJ2 _ hs
       | exact hJ3 _ hs
       | (have hs := cT rfl hs)
       | (have hs := cF rfl hs)
       | ((with_reducible have hs : R02_Add _ _ = some _ := hs); unfold R02_Add at hs)
       | ((with_reducible have hs : loop (R02_Add_L1 _ _ _) _ = some _ := hs); refine vc_loopR (R02_Add_S1 _ _ _ _ _ _ _) R02_Add_M1 hs rfl ?_; intro J1 k1 x1 hJ1 hs)
       | ((with_reducible have hs : loop (R02_Add_L2 _ _ _ _) _ = some _ := hs); refine vc_loopR (R02_Add_S2 _ _ _ _ _ _ _ _) R02_Add_M2 hs rfl ?_; intro J2 k2 x2 hJ2 hs)
       | ((with_reducible have hs : loop (R02_Add_L3 _ _) _ = some _ := hs); refine vc_loopR (R02_Add_S3 _ _ _ _ _) R02_Add_M3 hs rfl ?_; intro J3 k3 x3 hJ3 hs)
       | (refine vc_loopR (R02_Add_S1 _ _ _ _ _ _ _) R02_Add_M1 hs rfl ?_; intro J1 k1 x1 hJ1 hs)
       | (refine vc_loopR (R02_Add_S2 _ _ _ _ _ _ _ _) R02_Add_M2 hs rfl ?_; intro J2 k2 x2 hJ2 hs)
       | (refine vc_loopR (R02_Add_S3 _ _ _ _ _) R02_Add_M3 hs rfl ?_; intro J3 k3 x3 hJ3 hs)
       | exact (none_ne hs).elim)
theorem cq_R02_Add : PCon Go.Proofs.Try.prog 25 (liftF (.pair (.pair (.int .i64) (.pair (.sl (.int .i64)) (.pair (.sl (.pair (.int .i64) (.pair (.int .i64) .unit))) .unit))) (.pair (.int .i64) .unit)) (unpR (.pair (.pair (.int .i64) (.pair (.sl (.int .i64)) (.pair (.sl (.pair (.int .i64) (.pair (.int .i64) .unit))) .unit))) (.pair (.int .i64) (.pair (.int .i64) .unit)))) (fun x => R02_Add x.1 x.2.1)) := lq_R02_Add ▸ c_R02_Add
noncomputable def lf_R02_Same : List AV → Option AV := liftF (.pair (.sl (.int .i64)) (.pair (.sl (.int .i64)) .unit)) (unpack .bool) (fun x => R02_Same x.1 x.2.1)
theorem lq_R02_Same : lf_R02_Same = liftF (.pair (.sl (.int .i64)) (.pair (.sl (.int .i64)) .unit)) (unpack .bool) (fun x => R02_Same x.1 x.2.1) := rfl
attribute [irreducible] lf_R02_Same
theorem ck_R02_Same {vs : List AV} {k : AV → Prop} {x : ((.pair (.sl (.int .i64)) (.pair (.sl (.int .i64)) .unit)) : Ty).den} {v : Bool} (h1 : pks (.pair (.sl (.int .i64)) (.pair (.sl (.int .i64)) .unit)) vs = some x) (h2 : R02_Same x.1 x.2.1 = some v) (h3 : k ((unpack .bool) v)) : callK (lf_R02_Same vs) k := by
  rw [lq_R02_Same]; exact callK_lift h1 h2 h3
def tt_R02_Same : List (Nat × Ty) := [(3, .int .i64), (4, .bool), (36, .sl (.int .i64))]
def et_R02_Same : List (Nat × Nat) := [(36, 3)]
theorem tt_R02_Same_ok : subT tt tt_R02_Same = true := by kernel_rfl
theorem et_R02_Same_ok : subE et et_R02_Same = true := by kernel_rfl
noncomputable def fns_R02_Same : List (Nat × (List AV → Option AV)) := []
theorem fns_R02_Same_ok : FnsOk Go.Proofs.Try.prog fns_R02_Same := FnsOk.nil _
def R02_Same_S1 (u0 : AV) (u1 : AV) (x1 : Int) : St :=
  ⟨[(0, u0), (1, u1), (5, .int .i64 x1)], [], none⟩
def R02_Same_M1 : Msk := ⟨[0, 1, 5], [], [], [], [], [], [], [], []⟩
def kp_R02_Same : List (Nat × List Nat) := [(0, [0, 1]), (1, [0, 1, 10]), (2, [4]), (3, [0, 1, 5]), (4, [0, 1, 5, 14]), (5, [0, 1, 5]), (6, [0, 1, 5, 25]), (7, [4]), (8, [4]), (4000000, []), (4000001, []), (4000002, []), (4000003, []), (4000004, []), (4000005, []), (4000006, []), (4000007, []), (4000008, [])]
def od_R02_Same : List (Nat × Ord) := [(6, (.one 0 (.one 1 (.one 2 (.one 3 (.one 4 (.one 5 (.one 6 (.one 7 (.one 8 .nil))))))))))]
noncomputable def E_R02_Same : Env := ⟨0, 0, et_R02_Same, tt_R02_Same, fns_R02_Same, [], od_R02_Same, kp_R02_Same, none, []⟩
set_option maxRecDepth 100000 in
set_option maxHeartbeats 40000000 in
theorem c_R02_Same : PCon Go.Proofs.Try.prog 48 lf_R02_Same := by
  rw [lq_R02_Same]
  refine lift_conR (E := E_R02_Same) (c := bodyOf Try.f48) (nt := 26) (rs := [.tmp 4]) (ts := [4]) (EnvC.sub (off := 0) (nt := 0) (ords := od_R02_Same) (keep := kp_R02_Same) (yl := none) tt_ok et_ok fns_R02_Same_ok (PrsOk.nil _) (ItsOk.nil _) tt_R02_Same_ok et_R02_Same_ok) (PrOk.of mixed_ok) Go.Proofs.Try.func48 rfl (by decide) rfl rfl rfl (pureR_one (e := .bool) rfl) ?_
  intro x r hw hs
  repeat'
    (try (conv => whnf)
     first
       | (with_reducible have hs := letv_out hs)
       | (refine draw_and (by kernel_rfl) ?_)
       | (refine both_mk ?_ ?_)
       | (refine br_bool (fun h => ?_) (fun h => ?_) <;> first | have hs := cT h hs | have hs := cF h hs)
       | refine chk_elim hs fun hs => ?_
       | (have hs := letv_out hs)
       | exact fin_some hs rfl
       | (intro b hb; first | have hs := nilq_elim hs b hb | have hs := nilqn_elim hs b hb)
       | exact hJ1 _ hs
       | (have hs := cT rfl hs)
       | (have hs := cF rfl hs)
       | ((with_reducible have hs : loop (R02_Same_L1 _ _) _ = some _ := hs); refine vc_loopR (R02_Same_S1 _ _) R02_Same_M1 hs rfl ?_; intro J1 k1 x1 hJ1 hs)
       | (refine vc_loopR (R02_Same_S1 _ _) R02_Same_M1 hs rfl ?_; intro J1 k1 x1 hJ1 hs)
       | exact (none_ne hs).elim)
theorem cq_R02_Same : PCon Go.Proofs.Try.prog 48 (liftF (.pair (.sl (.int .i64)) (.pair (.sl (.int .i64)) .unit)) (unpack .bool) (fun x => R02_Same x.1 x.2.1)) := lq_R02_Same ▸ c_R02_Same
noncomputable def lf_R02_Get : List AV → Option AV := liftF (.pair (.pair (.int .i64) (.pair (.sl (.int .i64)) (.pair (.sl (.pair (.int .i64) (.pair (.int .i64) .unit))) .unit))) (.pair (.int .i64) .unit)) (unpR (.pair (.int .i64) (.pair (.int .i64) .unit))) (fun x => R02_Get x.1 x.2.1)
theorem lq_R02_Get : lf_R02_Get = liftF (.pair (.pair (.int .i64) (.pair (.sl (.int .i64)) (.pair (.sl (.pair (.int .i64) (.pair (.int .i64) .unit))) .unit))) (.pair (.int .i64) .unit)) (unpR (.pair (.int .i64) (.pair (.int .i64) .unit))) (fun x => R02_Get x.1 x.2.1) := rfl
attribute [irreducible] lf_R02_Get
theorem ck_R02_Get {vs : List AV} {k : AV → Prop} {x : ((.pair (.pair (.int .i64) (.pair (.sl (.int .i64)) (.pair (.sl (.pair (.int .i64) (.pair (.int .i64) .unit))) .unit))) (.pair (.int .i64) .unit)) : Ty).den} {v : Int × Int × Unit} (h1 : pks (.pair (.pair (.int .i64) (.pair (.sl (.int .i64)) (.pair (.sl (.pair (.int .i64) (.pair (.int .i64) .unit))) .unit))) (.pair (.int .i64) .unit)) vs = some x) (h2 : R02_Get x.1 x.2.1 = some v) (h3 : k ((unpR (.pair (.int .i64) (.pair (.int .i64) .unit))) v)) : callK (lf_R02_Get vs) k := by
  rw [lq_R02_Get]; exact callK_lift h1 h2 h3
def tt_R02_Get : List (Nat × Ty) := [(3, .int .i64), (37, .sl (.pair (.int .i64) (.pair (.int .i64) .unit))), (39, .pair (.int .i64) (.pair (.sl (.int .i64)) (.pair (.sl (.pair (.int .i64) (.pair (.int .i64) .unit))) .unit))), (155, .pair (.int .i64) (.pair (.int .i64) .unit))]
def et_R02_Get : List (Nat × Nat) := [(37, 155)]
theorem tt_R02_Get_ok : subT tt tt_R02_Get = true := by kernel_rfl
theorem et_R02_Get_ok : subE et et_R02_Get = true := by kernel_rfl
noncomputable def fns_R02_Get : List (Nat × (List AV → Option AV)) := [(78, lf_R02_at)]
theorem fns_R02_Get_ok : FnsOk Go.Proofs.Try.prog fns_R02_Get := FnsOk.cons c_R02_at (FnsOk.nil _)
def kp_R02_Get : List (Nat × List Nat) := [(0, [1, 2]), (1, [2, 6, 7]), (2, [2, 6, 7, 15]), (3, [4, 5]), (4, [4, 5]), (4000000, [2]), (4000001, [2]), (4000002, [2]), (4000003, []), (4000004, [])]
def od_R02_Get : List (Nat × Ord) := []
noncomputable def E_R02_Get : Env := ⟨0, 0, et_R02_Get, tt_R02_Get, fns_R02_Get, [], od_R02_Get, kp_R02_Get, none, []⟩
set_option maxRecDepth 100000 in
set_option maxHeartbeats 40000000 in
theorem c_R02_Get : PCon Go.Proofs.Try.prog 81 lf_R02_Get := by
  rw [lq_R02_Get]
  refine lift_conR (E := E_R02_Get) (c := bodyOf Try.f81) (nt := 23) (rs := [.tmp 4, .tmp 5]) (ts := [3, 3]) (EnvC.sub (off := 0) (nt := 0) (ords := od_R02_Get) (keep := kp_R02_Get) (yl := none) tt_ok et_ok fns_R02_Get_ok (PrsOk.nil _) (ItsOk.nil _) tt_R02_Get_ok et_R02_Get_ok) (PrOk.of mixed_ok) Go.Proofs.Try.func81 rfl (by decide) rfl rfl rfl (pureR_many (e := (.pair (.int .i64) (.pair (.int .i64) .unit))) rfl) ?_
  intro x r hw hs
  repeat'
    (try (conv => whnf)
     first
       | (with_reducible have hs := letv_out hs)
       | (refine draw_and (by kernel_rfl) ?_)
       | (refine both_mk ?_ ?_)
       | (refine br_bool (fun h => ?_) (fun h => ?_) <;> first | have hs := cT h hs | have hs := cF h hs)
       | (refine bind_elim hs fun v hb hs => ?_; first | refine ck_R02_at rfl hb ?_)
       | refine chk_elim hs fun hs => ?_
       | (have hs := letv_out hs)
       | exact fin_some hs rfl
       | (intro b hb; first | have hs := nilq_elim hs b hb | have hs := nilqn_elim hs b hb)
       | (have hs := cT rfl hs)
       | (have hs := cF rfl hs)
       | exact (none_ne hs).elim)
theorem cq_R02_Get : PCon Go.Proofs.Try.prog 81 (liftF (.pair (.pair (.int .i64) (.pair (.sl (.int .i64)) (.pair (.sl (.pair (.int .i64) (.pair (.int .i64) .unit))) .unit))) (.pair (.int .i64) .unit)) (unpR (.pair (.int .i64) (.pair (.int .i64) .unit))) (fun x => R02_Get x.1 x.2.1)) := lq_R02_Get ▸ c_R02_Get
noncomputable def lf_R02_Handles : List AV → Option AV := liftF (.pair (.pair (.int .i64) (.pair (.sl (.int .i64)) (.pair (.sl (.pair (.int .i64) (.pair (.int .i64) .unit))) .unit))) .unit) (unpack (.sl (.int .i64))) (fun x => R02_Handles x.1)
theorem lq_R02_Handles : lf_R02_Handles = liftF (.pair (.pair (.int .i64) (.pair (.sl (.int .i64)) (.pair (.sl (.pair (.int .i64) (.pair (.int .i64) .unit))) .unit))) .unit) (unpack (.sl (.int .i64))) (fun x => R02_Handles x.1) := rfl
attribute [irreducible] lf_R02_Handles
theorem ck_R02_Handles {vs : List AV} {k : AV → Prop} {x : ((.pair (.pair (.int .i64) (.pair (.sl (.int .i64)) (.pair (.sl (.pair (.int .i64) (.pair (.int .i64) .unit))) .unit))) .unit) : Ty).den} {v : List Int} (h1 : pks (.pair (.pair (.int .i64) (.pair (.sl (.int .i64)) (.pair (.sl (.pair (.int .i64) (.pair (.int .i64) .unit))) .unit))) .unit) vs = some x) (h2 : R02_Handles x.1 = some v) (h3 : k ((unpack (.sl (.int .i64))) v)) : callK (lf_R02_Handles vs) k := by
  rw [lq_R02_Handles]; exact callK_lift h1 h2 h3
def tt_R02_Handles : List (Nat × Ty) := [(3, .int .i64), (36, .sl (.int .i64)), (37, .sl (.pair (.int .i64) (.pair (.int .i64) .unit))), (39, .pair (.int .i64) (.pair (.sl (.int .i64)) (.pair (.sl (.pair (.int .i64) (.pair (.int .i64) .unit))) .unit))), (155, .pair (.int .i64) (.pair (.int .i64) .unit))]
def et_R02_Handles : List (Nat × Nat) := [(36, 3), (37, 155)]
theorem tt_R02_Handles_ok : subT tt tt_R02_Handles = true := by kernel_rfl
theorem et_R02_Handles_ok : subE et et_R02_Handles = true := by kernel_rfl
noncomputable def fns_R02_Handles : List (Nat × (List AV → Option AV)) := [(80, lf_R01_Make)]
theorem fns_R02_Handles_ok : FnsOk Go.Proofs.Try.prog fns_R02_Handles := FnsOk.cons c_R01_Make (FnsOk.nil _)
def R02_Handles_S1 (u0 : AV) (u1 : AV) (B3 : Blk) (x1 : Int × List Int) : St :=
  ⟨[(1, u0), (3, u1), (4, .int .i64 x1.1)], [(1, B3), (34, .row 3 (.int .i64) x1.2 false)], none⟩
def R02_Handles_M1 : Msk := ⟨[1, 3, 4], [1, 34], [(3, 34, 36)], [], [], [], [], [], []⟩
def kp_R02_Handles : List (Nat × List Nat) := [(0, [1]), (1, [1, 3]), (2, [1, 3, 4]), (3, [1, 3, 4, 12]), (4, [1, 3, 4]), (5, [1, 3, 4, 5]), (6, [1, 3, 4, 6]), (7, [1, 3, 4]), (8, [2]), (4000000, [1]), (4000001, [1]), (4000002, [1]), (4000003, [1, 34]), (4000004, [1, 34]), (4000005, [1, 34]), (4000006, [1, 34]), (4000007, [1, 34]), (4000008, [34])]
def od_R02_Handles : List (Nat × Ord) := []
noncomputable def E_R02_Handles : Env := ⟨0, 0, et_R02_Handles, tt_R02_Handles, fns_R02_Handles, [], od_R02_Handles, kp_R02_Handles, none, []⟩
set_option maxRecDepth 100000 in
set_option maxHeartbeats 40000000 in
theorem c_R02_Handles : PCon Go.Proofs.Try.prog 82 lf_R02_Handles := by
  rw [lq_R02_Handles]
  refine lift_conR (E := E_R02_Handles) (c := bodyOf Try.f82) (nt := 36) (rs := [.tmp 2]) (ts := [36]) (EnvC.sub (off := 0) (nt := 0) (ords := od_R02_Handles) (keep := kp_R02_Handles) (yl := none) tt_ok et_ok fns_R02_Handles_ok (PrsOk.nil _) (ItsOk.nil _) tt_R02_Handles_ok et_R02_Handles_ok) (PrOk.of mixed_ok) Go.Proofs.Try.func82 rfl (by decide) rfl rfl rfl (pureR_one (e := (.sl (.int .i64))) rfl) ?_
  intro x r hw hs
  repeat'
    (try (conv => whnf)
     first
       | (with_reducible have hs := letv_out hs)
       | (refine draw_and (by kernel_rfl) ?_)
       | (refine both_mk ?_ ?_)
       | (refine br_bool (fun h => ?_) (fun h => ?_) <;> first | have hs := cT h hs | have hs := cF h hs)
       | (refine bind_elim hs fun v hb hs => ?_; first | refine ck_R01_Make rfl hb ?_)
       | refine chk_elim hs fun hs => ?_
       | (have hs := letv_out hs)
       | exact fin_some hs rfl
       | (intro b hb; first | have hs := nilq_elim hs b hb | have hs := nilqn_elim hs b hb)
       | exact hJ1 _ hs
       | (have hs := cT rfl hs)
       | (have hs := cF rfl hs)
       | ((with_reducible have hs : loop (R02_Handles_L1 _) _ = some _ := hs); refine vc_loopR (R02_Handles_S1 _ _ _) R02_Handles_M1 hs rfl ?_; intro J1 k1 x1 hJ1 hs)
       | (refine vc_loopR (R02_Handles_S1 _ _ _) R02_Handles_M1 hs rfl ?_; intro J1 k1 x1 hJ1 hs)
       | exact (none_ne hs).elim)
theorem cq_R02_Handles : PCon Go.Proofs.Try.prog 82 (liftF (.pair (.pair (.int .i64) (.pair (.sl (.int .i64)) (.pair (.sl (.pair (.int .i64) (.pair (.int .i64) .unit))) .unit))) .unit) (unpack (.sl (.int .i64))) (fun x => R02_Handles x.1)) := lq_R02_Handles ▸ c_R02_Handles
noncomputable def lf_R02_Free : List AV → Option AV := liftF (.pair (.pair (.int .i64) (.pair (.sl (.int .i64)) (.pair (.sl (.pair (.int .i64) (.pair (.int .i64) .unit))) .unit))) .unit) (unpack (.int .i64)) (fun x => R02_Free x.1)
theorem lq_R02_Free : lf_R02_Free = liftF (.pair (.pair (.int .i64) (.pair (.sl (.int .i64)) (.pair (.sl (.pair (.int .i64) (.pair (.int .i64) .unit))) .unit))) .unit) (unpack (.int .i64)) (fun x => R02_Free x.1) := rfl
attribute [irreducible] lf_R02_Free
theorem ck_R02_Free {vs : List AV} {k : AV → Prop} {x : ((.pair (.pair (.int .i64) (.pair (.sl (.int .i64)) (.pair (.sl (.pair (.int .i64) (.pair (.int .i64) .unit))) .unit))) .unit) : Ty).den} {v : Int} (h1 : pks (.pair (.pair (.int .i64) (.pair (.sl (.int .i64)) (.pair (.sl (.pair (.int .i64) (.pair (.int .i64) .unit))) .unit))) .unit) vs = some x) (h2 : R02_Free x.1 = some v) (h3 : k ((unpack (.int .i64)) v)) : callK (lf_R02_Free vs) k := by
  rw [lq_R02_Free]; exact callK_lift h1 h2 h3
def tt_R02_Free : List (Nat × Ty) := [(3, .int .i64), (36, .sl (.int .i64)), (39, .pair (.int .i64) (.pair (.sl (.int .i64)) (.pair (.sl (.pair (.int .i64) (.pair (.int .i64) .unit))) .unit)))]
def et_R02_Free : List (Nat × Nat) := [(36, 3)]
theorem tt_R02_Free_ok : subT tt tt_R02_Free = true := by kernel_rfl
theorem et_R02_Free_ok : subE et et_R02_Free = true := by kernel_rfl
noncomputable def fns_R02_Free : List (Nat × (List AV → Option AV)) := [(79, lf_R02_open)]
theorem fns_R02_Free_ok : FnsOk Go.Proofs.Try.prog fns_R02_Free := FnsOk.cons c_R02_open (FnsOk.nil _)
def R02_Free_S1 (u0 : AV) (B2 : Blk) (x1 : Int × Int) : St :=
  ⟨[(1, u0), (3, .int .i64 x1.1), (4, .int .i64 x1.2)], [(1, B2)], none⟩
def R02_Free_M1 : Msk := ⟨[1, 3, 4], [1], [], [], [], [], [], [], []⟩
def kp_R02_Free : List (Nat × List Nat) := [(0, [1]), (1, [1, 3]), (2, [1, 3, 4]), (3, [1, 3, 4, 9]), (4, [1, 3, 4]), (5, [1, 3, 4, 14]), (6, [1, 3, 4]), (7, [2]), (4000000, [1]), (4000001, [1]), (4000002, [1]), (4000003, [1]), (4000004, [1]), (4000005, [1]), (4000006, [1]), (4000007, [])]
def od_R02_Free : List (Nat × Ord) := []
noncomputable def E_R02_Free : Env := ⟨0, 0, et_R02_Free, tt_R02_Free, fns_R02_Free, [], od_R02_Free, kp_R02_Free, none, []⟩
set_option maxRecDepth 100000 in
set_option maxHeartbeats 40000000 in
theorem c_R02_Free : PCon Go.Proofs.Try.prog 83 lf_R02_Free := by
  rw [lq_R02_Free]
  refine lift_conR (E := E_R02_Free) (c := bodyOf Try.f83) (nt := 18) (rs := [.tmp 2]) (ts := [3]) (EnvC.sub (off := 0) (nt := 0) (ords := od_R02_Free) (keep := kp_R02_Free) (yl := none) tt_ok et_ok fns_R02_Free_ok (PrsOk.nil _) (ItsOk.nil _) tt_R02_Free_ok et_R02_Free_ok) (PrOk.of mixed_ok) Go.Proofs.Try.func83 rfl (by decide) rfl rfl rfl (pureR_one (e := (.int .i64)) rfl) ?_
  intro x r hw hs
  repeat'
    (try (conv => whnf)
     first
       | (with_reducible have hs := letv_out hs)
       | (refine draw_and (by kernel_rfl) ?_)
       | (refine both_mk ?_ ?_)
       | (refine br_bool (fun h => ?_) (fun h => ?_) <;> first | have hs := cT h hs | have hs := cF h hs)
       | (refine bind_elim hs fun v hb hs => ?_; first | refine ck_R02_open rfl hb ?_)
       | refine chk_elim hs fun hs => ?_
       | (have hs := letv_out hs)
       | exact fin_some hs rfl
       | (intro b hb; first | have hs := nilq_elim hs b hb | have hs := nilqn_elim hs b hb)
       | exact hJ1 _ hs
       | (have hs := cT rfl hs)
       | (have hs := cF rfl hs)
       | ((with_reducible have hs : loop (R02_Free_L1 _) _ = some _ := hs); refine vc_loopR (R02_Free_S1 _ _) R02_Free_M1 hs rfl ?_; intro J1 k1 x1 hJ1 hs)
       | (refine vc_loopR (R02_Free_S1 _ _) R02_Free_M1 hs rfl ?_; intro J1 k1 x1 hJ1 hs)
       | exact (none_ne hs).elim)
theorem cq_R02_Free : PCon Go.Proofs.Try.prog 83 (liftF (.pair (.pair (.int .i64) (.pair (.sl (.int .i64)) (.pair (.sl (.pair (.int .i64) (.pair (.int .i64) .unit))) .unit))) .unit) (unpack (.int .i64)) (fun x => R02_Free x.1)) := lq_R02_Free ▸ c_R02_Free
end Go.Proofs.YtiicmhholjpcbaaV
