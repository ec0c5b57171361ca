import Derived.Test.YtkpobmmabmelfaaDoorVcTab
import Derived.Test.YtkpobmmabmelfaaDoorDbartab
import Derived.Test.YtkpobmmabmelfaaDoorCbarrier
namespace Go.Proofs.YtkpobmmabmelfaaDoorV
open Go.Proofs
set_option linter.unusedVariables false
noncomputable def lf_bartab_Offer : List AV → Option AV := liftF (.pair (.sl (.pair (.pair .bool (.pair (.int .i64) .unit)) (.pair (.pair (.arr 4 (.int .u64)) (.pair (.arr 4 (.int .u64)) .unit)) (.pair (.int .i64) .unit)))) (.pair (.int .i64) (.pair (.sl (.pair (.int .i64) (.pair (.int .i64) (.pair (.int .i64) (.pair (.int .i64) (.pair (.int .i64) .unit)))))) (.pair .bool .unit)))) (unpR (.pair (.sl (.pair (.pair .bool (.pair (.int .i64) .unit)) (.pair (.pair (.arr 4 (.int .u64)) (.pair (.arr 4 (.int .u64)) .unit)) (.pair (.int .i64) .unit)))) (.pair (.int .i64) (.pair (.int .i64) .unit)))) (fun x => bartab_Offer x.1 x.2.1 x.2.2.1 x.2.2.2.1)
theorem lq_bartab_Offer : lf_bartab_Offer = liftF (.pair (.sl (.pair (.pair .bool (.pair (.int .i64) .unit)) (.pair (.pair (.arr 4 (.int .u64)) (.pair (.arr 4 (.int .u64)) .unit)) (.pair (.int .i64) .unit)))) (.pair (.int .i64) (.pair (.sl (.pair (.int .i64) (.pair (.int .i64) (.pair (.int .i64) (.pair (.int .i64) (.pair (.int .i64) .unit)))))) (.pair .bool .unit)))) (unpR (.pair (.sl (.pair (.pair .bool (.pair (.int .i64) .unit)) (.pair (.pair (.arr 4 (.int .u64)) (.pair (.arr 4 (.int .u64)) .unit)) (.pair (.int .i64) .unit)))) (.pair (.int .i64) (.pair (.int .i64) .unit)))) (fun x => bartab_Offer x.1 x.2.1 x.2.2.1 x.2.2.2.1) := rfl
attribute [irreducible] lf_bartab_Offer
theorem ck_bartab_Offer {vs : List AV} {k : AV → Prop} {x : ((.pair (.sl (.pair (.pair .bool (.pair (.int .i64) .unit)) (.pair (.pair (.arr 4 (.int .u64)) (.pair (.arr 4 (.int .u64)) .unit)) (.pair (.int .i64) .unit)))) (.pair (.int .i64) (.pair (.sl (.pair (.int .i64) (.pair (.int .i64) (.pair (.int .i64) (.pair (.int .i64) (.pair (.int .i64) .unit)))))) (.pair .bool .unit)))) : Ty).den} {v : (List ((Bool × Int × Unit) × ((List Int) × (List Int) × Unit) × Int × Unit)) × Int × Int × Unit} (h1 : pks (.pair (.sl (.pair (.pair .bool (.pair (.int .i64) .unit)) (.pair (.pair (.arr 4 (.int .u64)) (.pair (.arr 4 (.int .u64)) .unit)) (.pair (.int .i64) .unit)))) (.pair (.int .i64) (.pair (.sl (.pair (.int .i64) (.pair (.int .i64) (.pair (.int .i64) (.pair (.int .i64) (.pair (.int .i64) .unit)))))) (.pair .bool .unit)))) vs = some x) (h2 : bartab_Offer x.1 x.2.1 x.2.2.1 x.2.2.2.1 = some v) (h3 : k ((unpR (.pair (.sl (.pair (.pair .bool (.pair (.int .i64) .unit)) (.pair (.pair (.arr 4 (.int .u64)) (.pair (.arr 4 (.int .u64)) .unit)) (.pair (.int .i64) .unit)))) (.pair (.int .i64) (.pair (.int .i64) .unit)))) v)) : callK (lf_bartab_Offer vs) k := by
  rw [lq_bartab_Offer]; exact callK_lift h1 h2 h3
def tt_bartab_Offer : List (Nat × Ty) := [(3, .int .i64), (4, .bool), (38, .pair (.pair .bool (.pair (.int .i64) .unit)) (.pair (.pair (.arr 4 (.int .u64)) (.pair (.arr 4 (.int .u64)) .unit)) (.pair (.int .i64) .unit))), (40, .int .i64), (69, .sl (.pair (.int .i64) (.pair (.int .i64) (.pair (.int .i64) (.pair (.int .i64) (.pair (.int .i64) .unit)))))), (74, .sl (.pair (.pair .bool (.pair (.int .i64) .unit)) (.pair (.pair (.arr 4 (.int .u64)) (.pair (.arr 4 (.int .u64)) .unit)) (.pair (.int .i64) .unit)))), (127, .pair (.int .i64) (.pair (.int .i64) (.pair (.int .i64) (.pair (.int .i64) (.pair (.int .i64) .unit))))), (129, .opq 1)]
def et_bartab_Offer : List (Nat × Nat) := [(69, 127), (74, 38)]
theorem tt_bartab_Offer_ok : subT tt tt_bartab_Offer = true := by kernel_rfl
theorem et_bartab_Offer_ok : subE et et_bartab_Offer = true := by kernel_rfl
noncomputable def fns_bartab_Offer : List (Nat × (List AV → Option AV)) := [(27, lf_barrier_Offer)]
theorem fns_bartab_Offer_ok : FnsOk Go.Proofs.Tryd.prog fns_bartab_Offer := FnsOk.cons c_barrier_Offer (FnsOk.nil _)
def kp_bartab_Offer_85 : List (Nat × List Nat) := [(0, [1, 2, 3, 4]), (1, [4, 5])]
def od_bartab_Offer_85 : List (Nat × Ord) := []
noncomputable def E_bartab_Offer_85 : Env := ⟨0, 0, et_bartab_Offer, tt_bartab_Offer, fns_bartab_Offer, [], od_bartab_Offer_85, kp_bartab_Offer_85, none, []⟩
noncomputable def pr_bartab_Offer_85 : List (Nat × Proc) := (85, procR E_bartab_Offer_85 12 [.cell 4 38, .tmp 5] (bodyOf Tryd.f85)) :: []
theorem pr_bartab_Offer_85_ok : PrsOk Go.Proofs.Tryd.prog pr_bartab_Offer_85 :=
  PrsOk.cons (proc_conR (E := E_bartab_Offer_85) (EnvC.sub (off := 0) (nt := 0) (ords := od_bartab_Offer_85) (keep := kp_bartab_Offer_85) (yl := none) tt_ok et_ok fns_bartab_Offer_ok (PrsOk.nil _) (ItsOk.nil _) tt_bartab_Offer_ok et_bartab_Offer_ok) (PrOk.of mixed_ok) Go.Proofs.Tryd.func85 rfl (by decide) rfl rfl) (PrsOk.nil _)
def kp_bartab_Offer_86 : List (Nat × List Nat) := [(0, [0]), (1, [0, 3]), (2, [3]), (3, [2])]
def od_bartab_Offer_86 : List (Nat × Ord) := []
noncomputable def E_bartab_Offer_86 : Env := ⟨0, 0, et_bartab_Offer, tt_bartab_Offer, fns_bartab_Offer, pr_bartab_Offer_85, od_bartab_Offer_86, kp_bartab_Offer_86, none, []⟩
noncomputable def pr_bartab_Offer_86 : List (Nat × Proc) := (86, procR E_bartab_Offer_86 11 [.tmp 2] (bodyOf Tryd.f86)) :: pr_bartab_Offer_85
theorem pr_bartab_Offer_86_ok : PrsOk Go.Proofs.Tryd.prog pr_bartab_Offer_86 :=
  PrsOk.cons (proc_conR (E := E_bartab_Offer_86) (EnvC.sub (off := 0) (nt := 0) (ords := od_bartab_Offer_86) (keep := kp_bartab_Offer_86) (yl := none) tt_ok et_ok fns_bartab_Offer_ok (pr_bartab_Offer_85_ok) (ItsOk.nil _) tt_bartab_Offer_ok et_bartab_Offer_ok) (PrOk.of mixed_ok) Go.Proofs.Tryd.func86 rfl (by decide) rfl rfl) (pr_bartab_Offer_85_ok)
def kp_bartab_Offer_84 : List (Nat × List Nat) := [(0, [0, 1, 2]), (1, [0, 1, 2, 18]), (2, [6, 7]), (3, [0, 1, 8, 9]), (4, [0, 1, 8, 9, 30]), (5, [6, 7]), (6, [1, 8, 10]), (7, [10]), (8, [6, 7])]
def od_bartab_Offer_84 : List (Nat × Ord) := []
noncomputable def E_bartab_Offer_84 : Env := ⟨0, 0, et_bartab_Offer, tt_bartab_Offer, fns_bartab_Offer, pr_bartab_Offer_86, od_bartab_Offer_84, kp_bartab_Offer_84, none, []⟩
noncomputable def pr_bartab_Offer_84 : List (Nat × Proc) := (84, procR E_bartab_Offer_84 40 [.tmp 6, .tmp 7] (bodyOf Tryd.f84)) :: pr_bartab_Offer_86
theorem pr_bartab_Offer_84_ok : PrsOk Go.Proofs.Tryd.prog pr_bartab_Offer_84 :=
  PrsOk.cons (proc_conR (E := E_bartab_Offer_84) (EnvC.sub (off := 0) (nt := 0) (ords := od_bartab_Offer_84) (keep := kp_bartab_Offer_84) (yl := none) tt_ok et_ok fns_bartab_Offer_ok (pr_bartab_Offer_86_ok) (ItsOk.nil _) tt_bartab_Offer_ok et_bartab_Offer_ok) (PrOk.of mixed_ok) Go.Proofs.Tryd.func84 rfl (by decide) rfl rfl) (pr_bartab_Offer_86_ok)
def bartab_Offer_S1 (u0 : AV) (u1 : AV) (u2 : AV) (u3 : AV) (u4 : AV) (B6 : Blk) (B8 : Blk) (x2 : (List ((Bool × Int × Unit) × ((List Int) × (List Int) × Unit) × Int × Unit)) × Int) : St :=
  ⟨[(0, u0), (5, u1), (7, u2), (11, .ro (.pair (.pair .bool (.pair (.int .i64) .unit)) (.pair (.pair (.arr 4 (.int .u64)) (.pair (.arr 4 (.int .u64)) .unit)) (.pair (.int .i64) .unit))) x2.1), (17, u3), (18, u4), (19, .int .i64 x2.2)], [(5, B6), (7, B8)], none⟩
def bartab_Offer_M1 : Msk := ⟨[0, 5, 7, 11, 17, 18, 19], [5, 7], [], [], [], [], [], [11], []⟩
def bartab_Offer_Q1 (x1 : (List ((Bool × Int × Unit) × ((List Int) × (List Int) × Unit) × Int × Unit))) : St :=
  ⟨[(8, .dead), (9, .dead), (10, .dead), (43, .own 45062)], [(45062, .row 38 (.pair (.pair .bool (.pair (.int .i64) .unit)) (.pair (.pair (.arr 4 (.int .u64)) (.pair (.arr 4 (.int .u64)) .unit)) (.pair (.int .i64) .unit))) x1 false)], none⟩
def kp_bartab_Offer : List (Nat × List Nat) := [(0, [0, 2, 5, 7]), (1, [0, 2, 5, 7, 11]), (2, [0, 5, 7, 11, 17, 18, 19]), (3, [0, 5, 7, 11, 17, 18, 19, 20]), (4, [0, 5, 7, 11, 12, 13, 17, 18, 19]), (5, [0, 5, 7, 11, 12, 13, 17, 18, 19, 26]), (6, [0, 5, 7, 12, 14, 15, 17, 18, 19]), (7, [0, 5, 7, 12, 14, 15, 17, 18, 19, 36]), (8, [8, 9, 10]), (9, [0, 5, 7, 11, 17, 18, 19]), (10, [0, 5, 7, 11, 17, 18, 19]), (11, [8, 9, 10]), (25000043, []), (20000043, [8, 9, 10, 43]), (24000043, [45062]), (26000043, []), (4000000, [5, 7]), (4000001, [5, 7]), (4000002, [5, 7]), (4000003, [5, 7]), (4000004, [5, 7, 13]), (4000005, [5, 7, 13]), (4000006, [5, 7, 34638854]), (4000007, [5, 7, 34638854]), (4000008, []), (4000009, [5, 7, 34638854]), (4000010, [5, 7, 34638854]), (4000011, [45062])]
def od_bartab_Offer : List (Nat × Ord) := []
noncomputable def E_bartab_Offer : Env := ⟨0, 0, et_bartab_Offer, tt_bartab_Offer, fns_bartab_Offer, pr_bartab_Offer_84, od_bartab_Offer, kp_bartab_Offer, none, []⟩
set_option maxRecDepth 100000 in
set_option maxHeartbeats 40000000 in
theorem c_bartab_Offer : PCon Go.Proofs.Tryd.prog 41 lf_bartab_Offer := by
  rw [lq_bartab_Offer]
  refine lift_conR (E := E_bartab_Offer) (c := bodyOf Tryd.f41) (nt := 44) (rs := [.tmp 8, .tmp 9, .tmp 10]) (ts := [74, 3, 40]) (EnvC.sub (off := 0) (nt := 0) (ords := od_bartab_Offer) (keep := kp_bartab_Offer) (yl := none) tt_ok et_ok fns_bartab_Offer_ok (pr_bartab_Offer_84_ok) (ItsOk.nil _) tt_bartab_Offer_ok et_bartab_Offer_ok) (PrOk.of mixed_ok) Go.Proofs.Tryd.func41 rfl (by decide) rfl rfl rfl (pureR_many (e := (.pair (.sl (.pair (.pair .bool (.pair (.int .i64) .unit)) (.pair (.pair (.arr 4 (.int .u64)) (.pair (.arr 4 (.int .u64)) .unit)) (.pair (.int .i64) .unit)))) (.pair (.int .i64) (.pair (.int .i64) .unit)))) rfl) ?_
  intro x r hw hs
  repeat'
    (try (conv => whnf)
     first
       | (with_reducible have hs := letv_out hs)
       | (refine draw_and (by kernel_rfl) ?_)
       | (refine both_mk ?_ ?_)
       | (refine br_bool (fun h => ?_) (fun h => ?_) <;> first | have hs := cT h hs | have hs := cF h hs)
       | (refine bind_elim hs fun v hb hs => ?_; first | refine ck_barrier_Offer rfl hb ?_)
       | refine chk_elim hs fun hs => ?_
       | (have hs := letv_out hs)
       | exact fin_some hs rfl
       | (intro b hb; first | have hs := nilq_elim hs b hb | have hs := nilqn_elim hs b hb)
       | exact hJ1 _ hs
       | exact hC1 _ hs
       | (refine cut_out 1 bartab_Offer_Q1 hs (fun Jc1 kc1 hC1 hs => ?_) (fun xc1 hs => ?_))
       | (have hs := cT rfl hs)
       | (have hs := cF rfl hs)
       | (refine vc_loopR (bartab_Offer_S1 _ _ _ _ _ _ _) bartab_Offer_M1 hs rfl ?_; intro J1 k1 x1 hJ1 hs)
       | exact (none_ne hs).elim)
theorem cq_bartab_Offer : PCon Go.Proofs.Tryd.prog 41 (liftF (.pair (.sl (.pair (.pair .bool (.pair (.int .i64) .unit)) (.pair (.pair (.arr 4 (.int .u64)) (.pair (.arr 4 (.int .u64)) .unit)) (.pair (.int .i64) .unit)))) (.pair (.int .i64) (.pair (.sl (.pair (.int .i64) (.pair (.int .i64) (.pair (.int .i64) (.pair (.int .i64) (.pair (.int .i64) .unit)))))) (.pair .bool .unit)))) (unpR (.pair (.sl (.pair (.pair .bool (.pair (.int .i64) .unit)) (.pair (.pair (.arr 4 (.int .u64)) (.pair (.arr 4 (.int .u64)) .unit)) (.pair (.int .i64) .unit)))) (.pair (.int .i64) (.pair (.int .i64) .unit)))) (fun x => bartab_Offer x.1 x.2.1 x.2.2.1 x.2.2.2.1)) := lq_bartab_Offer ▸ c_bartab_Offer
noncomputable def lf_bartab_Leave : List AV → Option AV := liftF (.pair (.sl (.pair (.pair .bool (.pair (.int .i64) .unit)) (.pair (.pair (.arr 4 (.int .u64)) (.pair (.arr 4 (.int .u64)) .unit)) (.pair (.int .i64) .unit)))) (.pair (.int .i64) .unit)) (unpack (.sl (.pair (.pair .bool (.pair (.int .i64) .unit)) (.pair (.pair (.arr 4 (.int .u64)) (.pair (.arr 4 (.int .u64)) .unit)) (.pair (.int .i64) .unit))))) (fun x => bartab_Leave x.1 x.2.1)
theorem lq_bartab_Leave : lf_bartab_Leave = liftF (.pair (.sl (.pair (.pair .bool (.pair (.int .i64) .unit)) (.pair (.pair (.arr 4 (.int .u64)) (.pair (.arr 4 (.int .u64)) .unit)) (.pair (.int .i64) .unit)))) (.pair (.int .i64) .unit)) (unpack (.sl (.pair (.pair .bool (.pair (.int .i64) .unit)) (.pair (.pair (.arr 4 (.int .u64)) (.pair (.arr 4 (.int .u64)) .unit)) (.pair (.int .i64) .unit))))) (fun x => bartab_Leave x.1 x.2.1) := rfl
attribute [irreducible] lf_bartab_Leave
theorem ck_bartab_Leave {vs : List AV} {k : AV → Prop} {x : ((.pair (.sl (.pair (.pair .bool (.pair (.int .i64) .unit)) (.pair (.pair (.arr 4 (.int .u64)) (.pair (.arr 4 (.int .u64)) .unit)) (.pair (.int .i64) .unit)))) (.pair (.int .i64) .unit)) : Ty).den} {v : List ((Bool × Int × Unit) × ((List Int) × (List Int) × Unit) × Int × Unit)} (h1 : pks (.pair (.sl (.pair (.pair .bool (.pair (.int .i64) .unit)) (.pair (.pair (.arr 4 (.int .u64)) (.pair (.arr 4 (.int .u64)) .unit)) (.pair (.int .i64) .unit)))) (.pair (.int .i64) .unit)) vs = some x) (h2 : bartab_Leave x.1 x.2.1 = some v) (h3 : k ((unpack (.sl (.pair (.pair .bool (.pair (.int .i64) .unit)) (.pair (.pair (.arr 4 (.int .u64)) (.pair (.arr 4 (.int .u64)) .unit)) (.pair (.int .i64) .unit))))) v)) : callK (lf_bartab_Leave vs) k := by
  rw [lq_bartab_Leave]; exact callK_lift h1 h2 h3
def tt_bartab_Leave : List (Nat × Ty) := [(3, .int .i64), (38, .pair (.pair .bool (.pair (.int .i64) .unit)) (.pair (.pair (.arr 4 (.int .u64)) (.pair (.arr 4 (.int .u64)) .unit)) (.pair (.int .i64) .unit))), (74, .sl (.pair (.pair .bool (.pair (.int .i64) .unit)) (.pair (.pair (.arr 4 (.int .u64)) (.pair (.arr 4 (.int .u64)) .unit)) (.pair (.int .i64) .unit))))]
def et_bartab_Leave : List (Nat × Nat) := [(74, 38)]
theorem tt_bartab_Leave_ok : subT tt tt_bartab_Leave = true := by kernel_rfl
theorem et_bartab_Leave_ok : subE et et_bartab_Leave = true := by kernel_rfl
noncomputable def fns_bartab_Leave : List (Nat × (List AV → Option AV)) := [(29, lf_barrier_Withdraw)]
theorem fns_bartab_Leave_ok : FnsOk Go.Proofs.Tryd.prog fns_bartab_Leave := FnsOk.cons c_barrier_Withdraw (FnsOk.nil _)
def kp_bartab_Leave_86 : List (Nat × List Nat) := [(0, [0]), (1, [0, 3]), (2, [3]), (3, [2])]
def od_bartab_Leave_86 : List (Nat × Ord) := []
noncomputable def E_bartab_Leave_86 : Env := ⟨0, 0, et_bartab_Leave, tt_bartab_Leave, fns_bartab_Leave, [], od_bartab_Leave_86, kp_bartab_Leave_86, none, []⟩
noncomputable def pr_bartab_Leave_86 : List (Nat × Proc) := (86, procR E_bartab_Leave_86 11 [.tmp 2] (bodyOf Tryd.f86)) :: []
theorem pr_bartab_Leave_86_ok : PrsOk Go.Proofs.Tryd.prog pr_bartab_Leave_86 :=
  PrsOk.cons (proc_conR (E := E_bartab_Leave_86) (EnvC.sub (off := 0) (nt := 0) (ords := od_bartab_Leave_86) (keep := kp_bartab_Leave_86) (yl := none) tt_ok et_ok fns_bartab_Leave_ok (PrsOk.nil _) (ItsOk.nil _) tt_bartab_Leave_ok et_bartab_Leave_ok) (PrOk.of mixed_ok) Go.Proofs.Tryd.func86 rfl (by decide) rfl rfl) (PrsOk.nil _)
def bartab_Leave_S1 (u0 : AV) (u1 : AV) (u2 : AV) (u3 : AV) (x2 : Int × (List ((Bool × Int × Unit) × ((List Int) × (List Int) × Unit) × Int × Unit))) : St :=
  ⟨[(1, u0), (5, u1), (10, u2), (11, u3), (12, .int .i64 x2.1)], [(10246, .row 38 (.pair (.pair .bool (.pair (.int .i64) .unit)) (.pair (.pair (.arr 4 (.int .u64)) (.pair (.arr 4 (.int .u64)) .unit)) (.pair (.int .i64) .unit))) x2.2 false)], none⟩
def bartab_Leave_M1 : Msk := ⟨[1, 5, 10, 11, 12], [10246], [], [], [], [], [], [], []⟩
def bartab_Leave_Q1 (x1 : Int × (List ((Bool × Int × Unit) × ((List Int) × (List Int) × Unit) × Int × Unit))) : St :=
  ⟨[(1, .int .i64 x1.1), (5, .dead), (9, .own 10246)], [(10246, .row 38 (.pair (.pair .bool (.pair (.int .i64) .unit)) (.pair (.pair (.arr 4 (.int .u64)) (.pair (.arr 4 (.int .u64)) .unit)) (.pair (.int .i64) .unit))) x1.2 false)], none⟩
def kp_bartab_Leave : List (Nat × List Nat) := [(0, [0, 1]), (1, [1, 5]), (2, [1, 5, 10, 11, 12]), (3, [1, 5, 10, 11, 12, 13]), (4, [1, 5, 6, 7, 10, 11, 12]), (5, [1, 5, 10, 11, 12]), (6, [1, 5, 10, 11, 12]), (7, [4]), (25000009, []), (20000009, [1, 5, 9]), (24000009, [10246]), (26000009, []), (4000000, []), (4000001, [10246]), (4000002, [10246]), (4000003, [10246]), (4000004, [7, 10246]), (4000005, [10246]), (4000006, [10246]), (4000007, [10246])]
def od_bartab_Leave : List (Nat × Ord) := []
noncomputable def E_bartab_Leave : Env := ⟨0, 0, et_bartab_Leave, tt_bartab_Leave, fns_bartab_Leave, pr_bartab_Leave_86, od_bartab_Leave, kp_bartab_Leave, none, []⟩
set_option maxRecDepth 100000 in
set_option maxHeartbeats 40000000 in
theorem c_bartab_Leave : PCon Go.Proofs.Tryd.prog 45 lf_bartab_Leave := by
  rw [lq_bartab_Leave]
  refine lift_conR (E := E_bartab_Leave) (c := bodyOf Tryd.f45) (nt := 25) (rs := [.tmp 4]) (ts := [74]) (EnvC.sub (off := 0) (nt := 0) (ords := od_bartab_Leave) (keep := kp_bartab_Leave) (yl := none) tt_ok et_ok fns_bartab_Leave_ok (pr_bartab_Leave_86_ok) (ItsOk.nil _) tt_bartab_Leave_ok et_bartab_Leave_ok) (PrOk.of mixed_ok) Go.Proofs.Tryd.func45 rfl (by decide) rfl rfl rfl (pureR_one (e := (.sl (.pair (.pair .bool (.pair (.int .i64) .unit)) (.pair (.pair (.arr 4 (.int .u64)) (.pair (.arr 4 (.int .u64)) .unit)) (.pair (.int .i64) .unit))))) rfl) ?_
  intro x r hw hs
  repeat'
    (try (conv => whnf)
     first
       | (with_reducible have hs := letv_out hs)
       | (refine draw_and (by kernel_rfl) ?_)
       | (refine both_mk ?_ ?_)
       | (refine br_bool (fun h => ?_) (fun h => ?_) <;> first | have hs := cT h hs | have hs := cF h hs)
       | (refine bind_elim hs fun v hb hs => ?_; first | refine ck_barrier_Withdraw rfl hb ?_)
       | refine chk_elim hs fun hs => ?_
       | (have hs := letv_out hs)
       | exact fin_some hs rfl
       | (intro b hb; first | have hs := nilq_elim hs b hb | have hs := nilqn_elim hs b hb)
       | exact hJ1 _ hs
       | exact hC1 _ hs
       | (refine cut_out 1 bartab_Leave_Q1 hs (fun Jc1 kc1 hC1 hs => ?_) (fun xc1 hs => ?_))
       | (have hs := cT rfl hs)
       | (have hs := cF rfl hs)
       | (refine vc_loopR (bartab_Leave_S1 _ _ _ _) bartab_Leave_M1 hs rfl ?_; intro J1 k1 x1 hJ1 hs)
       | exact (none_ne hs).elim)
theorem cq_bartab_Leave : PCon Go.Proofs.Tryd.prog 45 (liftF (.pair (.sl (.pair (.pair .bool (.pair (.int .i64) .unit)) (.pair (.pair (.arr 4 (.int .u64)) (.pair (.arr 4 (.int .u64)) .unit)) (.pair (.int .i64) .unit)))) (.pair (.int .i64) .unit)) (unpack (.sl (.pair (.pair .bool (.pair (.int .i64) .unit)) (.pair (.pair (.arr 4 (.int .u64)) (.pair (.arr 4 (.int .u64)) .unit)) (.pair (.int .i64) .unit))))) (fun x => bartab_Leave x.1 x.2.1)) := lq_bartab_Leave ▸ c_bartab_Leave
noncomputable def lf_bartab_Quit : List AV → Option AV := liftF (.pair (.sl (.pair (.pair .bool (.pair (.int .i64) .unit)) (.pair (.pair (.arr 4 (.int .u64)) (.pair (.arr 4 (.int .u64)) .unit)) (.pair (.int .i64) .unit)))) (.pair (.int .i64) .unit)) (unpack (.sl (.pair (.pair .bool (.pair (.int .i64) .unit)) (.pair (.pair (.arr 4 (.int .u64)) (.pair (.arr 4 (.int .u64)) .unit)) (.pair (.int .i64) .unit))))) (fun x => bartab_Quit x.1 x.2.1)
theorem lq_bartab_Quit : lf_bartab_Quit = liftF (.pair (.sl (.pair (.pair .bool (.pair (.int .i64) .unit)) (.pair (.pair (.arr 4 (.int .u64)) (.pair (.arr 4 (.int .u64)) .unit)) (.pair (.int .i64) .unit)))) (.pair (.int .i64) .unit)) (unpack (.sl (.pair (.pair .bool (.pair (.int .i64) .unit)) (.pair (.pair (.arr 4 (.int .u64)) (.pair (.arr 4 (.int .u64)) .unit)) (.pair (.int .i64) .unit))))) (fun x => bartab_Quit x.1 x.2.1) := rfl
attribute [irreducible] lf_bartab_Quit
theorem ck_bartab_Quit {vs : List AV} {k : AV → Prop} {x : ((.pair (.sl (.pair (.pair .bool (.pair (.int .i64) .unit)) (.pair (.pair (.arr 4 (.int .u64)) (.pair (.arr 4 (.int .u64)) .unit)) (.pair (.int .i64) .unit)))) (.pair (.int .i64) .unit)) : Ty).den} {v : List ((Bool × Int × Unit) × ((List Int) × (List Int) × Unit) × Int × Unit)} (h1 : pks (.pair (.sl (.pair (.pair .bool (.pair (.int .i64) .unit)) (.pair (.pair (.arr 4 (.int .u64)) (.pair (.arr 4 (.int .u64)) .unit)) (.pair (.int .i64) .unit)))) (.pair (.int .i64) .unit)) vs = some x) (h2 : bartab_Quit x.1 x.2.1 = some v) (h3 : k ((unpack (.sl (.pair (.pair .bool (.pair (.int .i64) .unit)) (.pair (.pair (.arr 4 (.int .u64)) (.pair (.arr 4 (.int .u64)) .unit)) (.pair (.int .i64) .unit))))) v)) : callK (lf_bartab_Quit vs) k := by
  rw [lq_bartab_Quit]; exact callK_lift h1 h2 h3
def tt_bartab_Quit : List (Nat × Ty) := [(3, .int .i64), (38, .pair (.pair .bool (.pair (.int .i64) .unit)) (.pair (.pair (.arr 4 (.int .u64)) (.pair (.arr 4 (.int .u64)) .unit)) (.pair (.int .i64) .unit))), (40, .int .i64), (74, .sl (.pair (.pair .bool (.pair (.int .i64) .unit)) (.pair (.pair (.arr 4 (.int .u64)) (.pair (.arr 4 (.int .u64)) .unit)) (.pair (.int .i64) .unit))))]
def et_bartab_Quit : List (Nat × Nat) := [(74, 38)]
theorem tt_bartab_Quit_ok : subT tt tt_bartab_Quit = true := by kernel_rfl
theorem et_bartab_Quit_ok : subE et et_bartab_Quit = true := by kernel_rfl
noncomputable def fns_bartab_Quit : List (Nat × (List AV → Option AV)) := [(25, lf_barrier_Resign)]
theorem fns_bartab_Quit_ok : FnsOk Go.Proofs.Tryd.prog fns_bartab_Quit := FnsOk.cons c_barrier_Resign (FnsOk.nil _)
def kp_bartab_Quit_86 : List (Nat × List Nat) := [(0, [0]), (1, [0, 3]), (2, [3]), (3, [2])]
def od_bartab_Quit_86 : List (Nat × Ord) := []
noncomputable def E_bartab_Quit_86 : Env := ⟨0, 0, et_bartab_Quit, tt_bartab_Quit, fns_bartab_Quit, [], od_bartab_Quit_86, kp_bartab_Quit_86, none, []⟩
noncomputable def pr_bartab_Quit_86 : List (Nat × Proc) := (86, procR E_bartab_Quit_86 11 [.tmp 2] (bodyOf Tryd.f86)) :: []
theorem pr_bartab_Quit_86_ok : PrsOk Go.Proofs.Tryd.prog pr_bartab_Quit_86 :=
  PrsOk.cons (proc_conR (E := E_bartab_Quit_86) (EnvC.sub (off := 0) (nt := 0) (ords := od_bartab_Quit_86) (keep := kp_bartab_Quit_86) (yl := none) tt_ok et_ok fns_bartab_Quit_ok (PrsOk.nil _) (ItsOk.nil _) tt_bartab_Quit_ok et_bartab_Quit_ok) (PrOk.of mixed_ok) Go.Proofs.Tryd.func86 rfl (by decide) rfl rfl) (PrsOk.nil _)
def bartab_Quit_S1 (u0 : AV) (u1 : AV) (u2 : AV) (u3 : AV) (x2 : Int × (List ((Bool × Int × Unit) × ((List Int) × (List Int) × Unit) × Int × Unit))) : St :=
  ⟨[(1, u0), (5, u1), (12, u2), (13, u3), (14, .int .i64 x2.1)], [(12294, .row 38 (.pair (.pair .bool (.pair (.int .i64) .unit)) (.pair (.pair (.arr 4 (.int .u64)) (.pair (.arr 4 (.int .u64)) .unit)) (.pair (.int .i64) .unit))) x2.2 false)], none⟩
def bartab_Quit_M1 : Msk := ⟨[1, 5, 12, 13, 14], [12294], [], [], [], [], [], [], []⟩
def bartab_Quit_Q1 (x1 : Int × (List ((Bool × Int × Unit) × ((List Int) × (List Int) × Unit) × Int × Unit))) : St :=
  ⟨[(1, .int .i64 x1.1), (5, .dead), (11, .own 12294)], [(12294, .row 38 (.pair (.pair .bool (.pair (.int .i64) .unit)) (.pair (.pair (.arr 4 (.int .u64)) (.pair (.arr 4 (.int .u64)) .unit)) (.pair (.int .i64) .unit))) x1.2 false)], none⟩
def kp_bartab_Quit : List (Nat × List Nat) := [(0, [0, 1]), (1, [1, 5]), (2, [1, 5, 12, 13, 14]), (3, [1, 5, 12, 13, 14, 15]), (4, [1, 5, 6, 7, 12, 13, 14]), (5, [1, 5, 6, 8, 9, 12, 13, 14]), (6, [1, 5, 6, 8, 12, 13, 14, 26]), (7, [1, 5, 12, 13, 14]), (8, [1, 5, 12, 13, 14]), (9, [4]), (25000011, []), (20000011, [1, 5, 11]), (24000011, [12294]), (26000011, []), (4000000, []), (4000001, [12294]), (4000002, [12294]), (4000003, [12294]), (4000004, [7, 12294]), (4000005, [8, 12294]), (4000006, [8, 12294]), (4000007, [12294]), (4000008, [12294]), (4000009, [12294])]
def od_bartab_Quit : List (Nat × Ord) := []
noncomputable def E_bartab_Quit : Env := ⟨0, 0, et_bartab_Quit, tt_bartab_Quit, fns_bartab_Quit, pr_bartab_Quit_86, od_bartab_Quit, kp_bartab_Quit, none, []⟩
set_option maxRecDepth 100000 in
set_option maxHeartbeats 40000000 in
theorem c_bartab_Quit : PCon Go.Proofs.Tryd.prog 47 lf_bartab_Quit := by
  rw [lq_bartab_Quit]
  refine lift_conR (E := E_bartab_Quit) (c := bodyOf Tryd.f47) (nt := 33) (rs := [.tmp 4]) (ts := [74]) (EnvC.sub (off := 0) (nt := 0) (ords := od_bartab_Quit) (keep := kp_bartab_Quit) (yl := none) tt_ok et_ok fns_bartab_Quit_ok (pr_bartab_Quit_86_ok) (ItsOk.nil _) tt_bartab_Quit_ok et_bartab_Quit_ok) (PrOk.of mixed_ok) Go.Proofs.Tryd.func47 rfl (by decide) rfl rfl rfl (pureR_one (e := (.sl (.pair (.pair .bool (.pair (.int .i64) .unit)) (.pair (.pair (.arr 4 (.int .u64)) (.pair (.arr 4 (.int .u64)) .unit)) (.pair (.int .i64) .unit))))) rfl) ?_
  intro x r hw hs
  repeat'
    (try (conv => whnf)
     first
       | (with_reducible have hs := letv_out hs)
       | (refine draw_and (by kernel_rfl) ?_)
       | (refine both_mk ?_ ?_)
       | (refine br_bool (fun h => ?_) (fun h => ?_) <;> first | have hs := cT h hs | have hs := cF h hs)
       | (refine bind_elim hs fun v hb hs => ?_; first | refine ck_barrier_Resign rfl hb ?_)
       | refine chk_elim hs fun hs => ?_
       | (have hs := letv_out hs)
       | exact fin_some hs rfl
       | (intro b hb; first | have hs := nilq_elim hs b hb | have hs := nilqn_elim hs b hb)
       | exact hJ1 _ hs
       | exact hC1 _ hs
       | (refine cut_out 1 bartab_Quit_Q1 hs (fun Jc1 kc1 hC1 hs => ?_) (fun xc1 hs => ?_))
       | (have hs := cT rfl hs)
       | (have hs := cF rfl hs)
       | (refine vc_loopR (bartab_Quit_S1 _ _ _ _) bartab_Quit_M1 hs rfl ?_; intro J1 k1 x1 hJ1 hs)
       | exact (none_ne hs).elim)
theorem cq_bartab_Quit : PCon Go.Proofs.Tryd.prog 47 (liftF (.pair (.sl (.pair (.pair .bool (.pair (.int .i64) .unit)) (.pair (.pair (.arr 4 (.int .u64)) (.pair (.arr 4 (.int .u64)) .unit)) (.pair (.int .i64) .unit)))) (.pair (.int .i64) .unit)) (unpack (.sl (.pair (.pair .bool (.pair (.int .i64) .unit)) (.pair (.pair (.arr 4 (.int .u64)) (.pair (.arr 4 (.int .u64)) .unit)) (.pair (.int .i64) .unit))))) (fun x => bartab_Quit x.1 x.2.1)) := lq_bartab_Quit ▸ c_bartab_Quit
noncomputable def lf_bartab_Enrol : List AV → Option AV := liftF (.pair (.sl (.pair (.pair .bool (.pair (.int .i64) .unit)) (.pair (.pair (.arr 4 (.int .u64)) (.pair (.arr 4 (.int .u64)) .unit)) (.pair (.int .i64) .unit)))) (.pair (.int .i64) (.pair (.int .i64) .unit))) (unpR (.pair (.sl (.pair (.pair .bool (.pair (.int .i64) .unit)) (.pair (.pair (.arr 4 (.int .u64)) (.pair (.arr 4 (.int .u64)) .unit)) (.pair (.int .i64) .unit)))) (.pair (.int .i64) .unit))) (fun x => bartab_Enrol x.1 x.2.1 x.2.2.1)
theorem lq_bartab_Enrol : lf_bartab_Enrol = liftF (.pair (.sl (.pair (.pair .bool (.pair (.int .i64) .unit)) (.pair (.pair (.arr 4 (.int .u64)) (.pair (.arr 4 (.int .u64)) .unit)) (.pair (.int .i64) .unit)))) (.pair (.int .i64) (.pair (.int .i64) .unit))) (unpR (.pair (.sl (.pair (.pair .bool (.pair (.int .i64) .unit)) (.pair (.pair (.arr 4 (.int .u64)) (.pair (.arr 4 (.int .u64)) .unit)) (.pair (.int .i64) .unit)))) (.pair (.int .i64) .unit))) (fun x => bartab_Enrol x.1 x.2.1 x.2.2.1) := rfl
attribute [irreducible] lf_bartab_Enrol
theorem ck_bartab_Enrol {vs : List AV} {k : AV → Prop} {x : ((.pair (.sl (.pair (.pair .bool (.pair (.int .i64) .unit)) (.pair (.pair (.arr 4 (.int .u64)) (.pair (.arr 4 (.int .u64)) .unit)) (.pair (.int .i64) .unit)))) (.pair (.int .i64) (.pair (.int .i64) .unit))) : Ty).den} {v : (List ((Bool × Int × Unit) × ((List Int) × (List Int) × Unit) × Int × Unit)) × Int × Unit} (h1 : pks (.pair (.sl (.pair (.pair .bool (.pair (.int .i64) .unit)) (.pair (.pair (.arr 4 (.int .u64)) (.pair (.arr 4 (.int .u64)) .unit)) (.pair (.int .i64) .unit)))) (.pair (.int .i64) (.pair (.int .i64) .unit))) vs = some x) (h2 : bartab_Enrol x.1 x.2.1 x.2.2.1 = some v) (h3 : k ((unpR (.pair (.sl (.pair (.pair .bool (.pair (.int .i64) .unit)) (.pair (.pair (.arr 4 (.int .u64)) (.pair (.arr 4 (.int .u64)) .unit)) (.pair (.int .i64) .unit)))) (.pair (.int .i64) .unit))) v)) : callK (lf_bartab_Enrol vs) k := by
  rw [lq_bartab_Enrol]; exact callK_lift h1 h2 h3
def tt_bartab_Enrol : List (Nat × Ty) := [(3, .int .i64), (38, .pair (.pair .bool (.pair (.int .i64) .unit)) (.pair (.pair (.arr 4 (.int .u64)) (.pair (.arr 4 (.int .u64)) .unit)) (.pair (.int .i64) .unit))), (40, .int .i64), (74, .sl (.pair (.pair .bool (.pair (.int .i64) .unit)) (.pair (.pair (.arr 4 (.int .u64)) (.pair (.arr 4 (.int .u64)) .unit)) (.pair (.int .i64) .unit)))), (129, .opq 1)]
def et_bartab_Enrol : List (Nat × Nat) := [(74, 38)]
theorem tt_bartab_Enrol_ok : subT tt tt_bartab_Enrol = true := by kernel_rfl
theorem et_bartab_Enrol_ok : subE et et_bartab_Enrol = true := by kernel_rfl
noncomputable def fns_bartab_Enrol : List (Nat × (List AV → Option AV)) := [(23, lf_barrier_Enrol)]
theorem fns_bartab_Enrol_ok : FnsOk Go.Proofs.Tryd.prog fns_bartab_Enrol := FnsOk.cons c_barrier_Enrol (FnsOk.nil _)
def kp_bartab_Enrol_89 : List (Nat × List Nat) := [(0, [1, 2, 3]), (1, [3, 4])]
def od_bartab_Enrol_89 : List (Nat × Ord) := []
noncomputable def E_bartab_Enrol_89 : Env := ⟨0, 0, et_bartab_Enrol, tt_bartab_Enrol, fns_bartab_Enrol, [], od_bartab_Enrol_89, kp_bartab_Enrol_89, none, []⟩
noncomputable def pr_bartab_Enrol_89 : List (Nat × Proc) := (89, procR E_bartab_Enrol_89 10 [.cell 3 38, .tmp 4] (bodyOf Tryd.f89)) :: []
theorem pr_bartab_Enrol_89_ok : PrsOk Go.Proofs.Tryd.prog pr_bartab_Enrol_89 :=
  PrsOk.cons (proc_conR (E := E_bartab_Enrol_89) (EnvC.sub (off := 0) (nt := 0) (ords := od_bartab_Enrol_89) (keep := kp_bartab_Enrol_89) (yl := none) tt_ok et_ok fns_bartab_Enrol_ok (PrsOk.nil _) (ItsOk.nil _) tt_bartab_Enrol_ok et_bartab_Enrol_ok) (PrOk.of mixed_ok) Go.Proofs.Tryd.func89 rfl (by decide) rfl rfl) (PrsOk.nil _)
def kp_bartab_Enrol_86 : List (Nat × List Nat) := [(0, [0]), (1, [0, 3]), (2, [3]), (3, [2])]
def od_bartab_Enrol_86 : List (Nat × Ord) := []
noncomputable def E_bartab_Enrol_86 : Env := ⟨0, 0, et_bartab_Enrol, tt_bartab_Enrol, fns_bartab_Enrol, pr_bartab_Enrol_89, od_bartab_Enrol_86, kp_bartab_Enrol_86, none, []⟩
noncomputable def pr_bartab_Enrol_86 : List (Nat × Proc) := (86, procR E_bartab_Enrol_86 11 [.tmp 2] (bodyOf Tryd.f86)) :: pr_bartab_Enrol_89
theorem pr_bartab_Enrol_86_ok : PrsOk Go.Proofs.Tryd.prog pr_bartab_Enrol_86 :=
  PrsOk.cons (proc_conR (E := E_bartab_Enrol_86) (EnvC.sub (off := 0) (nt := 0) (ords := od_bartab_Enrol_86) (keep := kp_bartab_Enrol_86) (yl := none) tt_ok et_ok fns_bartab_Enrol_ok (pr_bartab_Enrol_89_ok) (ItsOk.nil _) tt_bartab_Enrol_ok et_bartab_Enrol_ok) (PrOk.of mixed_ok) Go.Proofs.Tryd.func86 rfl (by decide) rfl rfl) (pr_bartab_Enrol_89_ok)
def kp_bartab_Enrol_84 : List (Nat × List Nat) := [(0, [0, 1, 2]), (1, [0, 1, 2, 18]), (2, [6, 7]), (3, [0, 1, 8, 9]), (4, [0, 1, 8, 9, 30]), (5, [6, 7]), (6, [1, 8, 10]), (7, [10]), (8, [6, 7])]
def od_bartab_Enrol_84 : List (Nat × Ord) := []
noncomputable def E_bartab_Enrol_84 : Env := ⟨0, 0, et_bartab_Enrol, tt_bartab_Enrol, fns_bartab_Enrol, pr_bartab_Enrol_86, od_bartab_Enrol_84, kp_bartab_Enrol_84, none, []⟩
noncomputable def pr_bartab_Enrol_84 : List (Nat × Proc) := (84, procR E_bartab_Enrol_84 40 [.tmp 6, .tmp 7] (bodyOf Tryd.f84)) :: pr_bartab_Enrol_86
theorem pr_bartab_Enrol_84_ok : PrsOk Go.Proofs.Tryd.prog pr_bartab_Enrol_84 :=
  PrsOk.cons (proc_conR (E := E_bartab_Enrol_84) (EnvC.sub (off := 0) (nt := 0) (ords := od_bartab_Enrol_84) (keep := kp_bartab_Enrol_84) (yl := none) tt_ok et_ok fns_bartab_Enrol_ok (pr_bartab_Enrol_86_ok) (ItsOk.nil _) tt_bartab_Enrol_ok et_bartab_Enrol_ok) (PrOk.of mixed_ok) Go.Proofs.Tryd.func84 rfl (by decide) rfl rfl) (pr_bartab_Enrol_86_ok)
def kp_bartab_Enrol : List (Nat × List Nat) := [(0, [0, 1, 5]), (1, [6, 7]), (4000000, [5]), (4000001, [12618758])]
def od_bartab_Enrol : List (Nat × Ord) := []
noncomputable def E_bartab_Enrol : Env := ⟨0, 0, et_bartab_Enrol, tt_bartab_Enrol, fns_bartab_Enrol, pr_bartab_Enrol_84, od_bartab_Enrol, kp_bartab_Enrol, none, []⟩
set_option maxRecDepth 100000 in
set_option maxHeartbeats 40000000 in
theorem c_bartab_Enrol : PCon Go.Proofs.Tryd.prog 49 lf_bartab_Enrol := by
  rw [lq_bartab_Enrol]
  refine lift_conR (E := E_bartab_Enrol) (c := bodyOf Tryd.f49) (nt := 14) (rs := [.tmp 6, .tmp 7]) (ts := [74, 40]) (EnvC.sub (off := 0) (nt := 0) (ords := od_bartab_Enrol) (keep := kp_bartab_Enrol) (yl := none) tt_ok et_ok fns_bartab_Enrol_ok (pr_bartab_Enrol_84_ok) (ItsOk.nil _) tt_bartab_Enrol_ok et_bartab_Enrol_ok) (PrOk.of mixed_ok) Go.Proofs.Tryd.func49 rfl (by decide) rfl rfl rfl (pureR_many (e := (.pair (.sl (.pair (.pair .bool (.pair (.int .i64) .unit)) (.pair (.pair (.arr 4 (.int .u64)) (.pair (.arr 4 (.int .u64)) .unit)) (.pair (.int .i64) .unit)))) (.pair (.int .i64) .unit))) rfl) ?_
  intro x r hw hs
  repeat'
    (try (conv => whnf)
     first
       | (with_reducible have hs := letv_out hs)
       | (refine draw_and (by kernel_rfl) ?_)
       | (refine both_mk ?_ ?_)
       | (refine br_bool (fun h => ?_) (fun h => ?_) <;> first | have hs := cT h hs | have hs := cF h hs)
       | (refine bind_elim hs fun v hb hs => ?_; first | refine ck_barrier_Enrol rfl hb ?_)
       | refine chk_elim hs fun hs => ?_
       | (have hs := letv_out hs)
       | exact fin_some hs rfl
       | (intro b hb; first | have hs := nilq_elim hs b hb | have hs := nilqn_elim hs b hb)
       | (have hs := cT rfl hs)
       | (have hs := cF rfl hs)
       | exact (none_ne hs).elim)
theorem cq_bartab_Enrol : PCon Go.Proofs.Tryd.prog 49 (liftF (.pair (.sl (.pair (.pair .bool (.pair (.int .i64) .unit)) (.pair (.pair (.arr 4 (.int .u64)) (.pair (.arr 4 (.int .u64)) .unit)) (.pair (.int .i64) .unit)))) (.pair (.int .i64) (.pair (.int .i64) .unit))) (unpR (.pair (.sl (.pair (.pair .bool (.pair (.int .i64) .unit)) (.pair (.pair (.arr 4 (.int .u64)) (.pair (.arr 4 (.int .u64)) .unit)) (.pair (.int .i64) .unit)))) (.pair (.int .i64) .unit))) (fun x => bartab_Enrol x.1 x.2.1 x.2.2.1)) := lq_bartab_Enrol ▸ c_bartab_Enrol
noncomputable def lf_bartab_Resign : List AV → Option AV := liftF (.pair (.sl (.pair (.pair .bool (.pair (.int .i64) .unit)) (.pair (.pair (.arr 4 (.int .u64)) (.pair (.arr 4 (.int .u64)) .unit)) (.pair (.int .i64) .unit)))) (.pair (.int .i64) (.pair (.int .i64) .unit))) (unpR (.pair (.sl (.pair (.pair .bool (.pair (.int .i64) .unit)) (.pair (.pair (.arr 4 (.int .u64)) (.pair (.arr 4 (.int .u64)) .unit)) (.pair (.int .i64) .unit)))) (.pair (.int .i64) .unit))) (fun x => bartab_Resign x.1 x.2.1 x.2.2.1)
theorem lq_bartab_Resign : lf_bartab_Resign = liftF (.pair (.sl (.pair (.pair .bool (.pair (.int .i64) .unit)) (.pair (.pair (.arr 4 (.int .u64)) (.pair (.arr 4 (.int .u64)) .unit)) (.pair (.int .i64) .unit)))) (.pair (.int .i64) (.pair (.int .i64) .unit))) (unpR (.pair (.sl (.pair (.pair .bool (.pair (.int .i64) .unit)) (.pair (.pair (.arr 4 (.int .u64)) (.pair (.arr 4 (.int .u64)) .unit)) (.pair (.int .i64) .unit)))) (.pair (.int .i64) .unit))) (fun x => bartab_Resign x.1 x.2.1 x.2.2.1) := rfl
attribute [irreducible] lf_bartab_Resign
theorem ck_bartab_Resign {vs : List AV} {k : AV → Prop} {x : ((.pair (.sl (.pair (.pair .bool (.pair (.int .i64) .unit)) (.pair (.pair (.arr 4 (.int .u64)) (.pair (.arr 4 (.int .u64)) .unit)) (.pair (.int .i64) .unit)))) (.pair (.int .i64) (.pair (.int .i64) .unit))) : Ty).den} {v : (List ((Bool × Int × Unit) × ((List Int) × (List Int) × Unit) × Int × Unit)) × Int × Unit} (h1 : pks (.pair (.sl (.pair (.pair .bool (.pair (.int .i64) .unit)) (.pair (.pair (.arr 4 (.int .u64)) (.pair (.arr 4 (.int .u64)) .unit)) (.pair (.int .i64) .unit)))) (.pair (.int .i64) (.pair (.int .i64) .unit))) vs = some x) (h2 : bartab_Resign x.1 x.2.1 x.2.2.1 = some v) (h3 : k ((unpR (.pair (.sl (.pair (.pair .bool (.pair (.int .i64) .unit)) (.pair (.pair (.arr 4 (.int .u64)) (.pair (.arr 4 (.int .u64)) .unit)) (.pair (.int .i64) .unit)))) (.pair (.int .i64) .unit))) v)) : callK (lf_bartab_Resign vs) k := by
  rw [lq_bartab_Resign]; exact callK_lift h1 h2 h3
def tt_bartab_Resign : List (Nat × Ty) := [(3, .int .i64), (38, .pair (.pair .bool (.pair (.int .i64) .unit)) (.pair (.pair (.arr 4 (.int .u64)) (.pair (.arr 4 (.int .u64)) .unit)) (.pair (.int .i64) .unit))), (40, .int .i64), (74, .sl (.pair (.pair .bool (.pair (.int .i64) .unit)) (.pair (.pair (.arr 4 (.int .u64)) (.pair (.arr 4 (.int .u64)) .unit)) (.pair (.int .i64) .unit)))), (129, .opq 1)]
def et_bartab_Resign : List (Nat × Nat) := [(74, 38)]
theorem tt_bartab_Resign_ok : subT tt tt_bartab_Resign = true := by kernel_rfl
theorem et_bartab_Resign_ok : subE et et_bartab_Resign = true := by kernel_rfl
noncomputable def fns_bartab_Resign : List (Nat × (List AV → Option AV)) := [(25, lf_barrier_Resign)]
theorem fns_bartab_Resign_ok : FnsOk Go.Proofs.Tryd.prog fns_bartab_Resign := FnsOk.cons c_barrier_Resign (FnsOk.nil _)
def kp_bartab_Resign_90 : List (Nat × List Nat) := [(0, [1, 2, 3]), (1, [3, 4])]
def od_bartab_Resign_90 : List (Nat × Ord) := []
noncomputable def E_bartab_Resign_90 : Env := ⟨0, 0, et_bartab_Resign, tt_bartab_Resign, fns_bartab_Resign, [], od_bartab_Resign_90, kp_bartab_Resign_90, none, []⟩
noncomputable def pr_bartab_Resign_90 : List (Nat × Proc) := (90, procR E_bartab_Resign_90 10 [.cell 3 38, .tmp 4] (bodyOf Tryd.f90)) :: []
theorem pr_bartab_Resign_90_ok : PrsOk Go.Proofs.Tryd.prog pr_bartab_Resign_90 :=
  PrsOk.cons (proc_conR (E := E_bartab_Resign_90) (EnvC.sub (off := 0) (nt := 0) (ords := od_bartab_Resign_90) (keep := kp_bartab_Resign_90) (yl := none) tt_ok et_ok fns_bartab_Resign_ok (PrsOk.nil _) (ItsOk.nil _) tt_bartab_Resign_ok et_bartab_Resign_ok) (PrOk.of mixed_ok) Go.Proofs.Tryd.func90 rfl (by decide) rfl rfl) (PrsOk.nil _)
def kp_bartab_Resign_86 : List (Nat × List Nat) := [(0, [0]), (1, [0, 3]), (2, [3]), (3, [2])]
def od_bartab_Resign_86 : List (Nat × Ord) := []
noncomputable def E_bartab_Resign_86 : Env := ⟨0, 0, et_bartab_Resign, tt_bartab_Resign, fns_bartab_Resign, pr_bartab_Resign_90, od_bartab_Resign_86, kp_bartab_Resign_86, none, []⟩
noncomputable def pr_bartab_Resign_86 : List (Nat × Proc) := (86, procR E_bartab_Resign_86 11 [.tmp 2] (bodyOf Tryd.f86)) :: pr_bartab_Resign_90
theorem pr_bartab_Resign_86_ok : PrsOk Go.Proofs.Tryd.prog pr_bartab_Resign_86 :=
  PrsOk.cons (proc_conR (E := E_bartab_Resign_86) (EnvC.sub (off := 0) (nt := 0) (ords := od_bartab_Resign_86) (keep := kp_bartab_Resign_86) (yl := none) tt_ok et_ok fns_bartab_Resign_ok (pr_bartab_Resign_90_ok) (ItsOk.nil _) tt_bartab_Resign_ok et_bartab_Resign_ok) (PrOk.of mixed_ok) Go.Proofs.Tryd.func86 rfl (by decide) rfl rfl) (pr_bartab_Resign_90_ok)
def kp_bartab_Resign_84 : List (Nat × List Nat) := [(0, [0, 1, 2]), (1, [0, 1, 2, 18]), (2, [6, 7]), (3, [0, 1, 8, 9]), (4, [0, 1, 8, 9, 30]), (5, [6, 7]), (6, [1, 8, 10]), (7, [10]), (8, [6, 7])]
def od_bartab_Resign_84 : List (Nat × Ord) := []
noncomputable def E_bartab_Resign_84 : Env := ⟨0, 0, et_bartab_Resign, tt_bartab_Resign, fns_bartab_Resign, pr_bartab_Resign_86, od_bartab_Resign_84, kp_bartab_Resign_84, none, []⟩
noncomputable def pr_bartab_Resign_84 : List (Nat × Proc) := (84, procR E_bartab_Resign_84 40 [.tmp 6, .tmp 7] (bodyOf Tryd.f84)) :: pr_bartab_Resign_86
theorem pr_bartab_Resign_84_ok : PrsOk Go.Proofs.Tryd.prog pr_bartab_Resign_84 :=
  PrsOk.cons (proc_conR (E := E_bartab_Resign_84) (EnvC.sub (off := 0) (nt := 0) (ords := od_bartab_Resign_84) (keep := kp_bartab_Resign_84) (yl := none) tt_ok et_ok fns_bartab_Resign_ok (pr_bartab_Resign_86_ok) (ItsOk.nil _) tt_bartab_Resign_ok et_bartab_Resign_ok) (PrOk.of mixed_ok) Go.Proofs.Tryd.func84 rfl (by decide) rfl rfl) (pr_bartab_Resign_86_ok)
def kp_bartab_Resign : List (Nat × List Nat) := [(0, [0, 1, 5]), (1, [6, 7]), (4000000, [5]), (4000001, [12618758])]
def od_bartab_Resign : List (Nat × Ord) := []
noncomputable def E_bartab_Resign : Env := ⟨0, 0, et_bartab_Resign, tt_bartab_Resign, fns_bartab_Resign, pr_bartab_Resign_84, od_bartab_Resign, kp_bartab_Resign, none, []⟩
set_option maxRecDepth 100000 in
set_option maxHeartbeats 40000000 in
theorem c_bartab_Resign : PCon Go.Proofs.Tryd.prog 51 lf_bartab_Resign := by
  rw [lq_bartab_Resign]
  refine lift_conR (E := E_bartab_Resign) (c := bodyOf Tryd.f51) (nt := 14) (rs := [.tmp 6, .tmp 7]) (ts := [74, 40]) (EnvC.sub (off := 0) (nt := 0) (ords := od_bartab_Resign) (keep := kp_bartab_Resign) (yl := none) tt_ok et_ok fns_bartab_Resign_ok (pr_bartab_Resign_84_ok) (ItsOk.nil _) tt_bartab_Resign_ok et_bartab_Resign_ok) (PrOk.of mixed_ok) Go.Proofs.Tryd.func51 rfl (by decide) rfl rfl rfl (pureR_many (e := (.pair (.sl (.pair (.pair .bool (.pair (.int .i64) .unit)) (.pair (.pair (.arr 4 (.int .u64)) (.pair (.arr 4 (.int .u64)) .unit)) (.pair (.int .i64) .unit)))) (.pair (.int .i64) .unit))) rfl) ?_
  intro x r hw hs
  repeat'
    (try (conv => whnf)
     first
       | (with_reducible have hs := letv_out hs)
       | (refine draw_and (by kernel_rfl) ?_)
       | (refine both_mk ?_ ?_)
       | (refine br_bool (fun h => ?_) (fun h => ?_) <;> first | have hs := cT h hs | have hs := cF h hs)
       | (refine bind_elim hs fun v hb hs => ?_; first | refine ck_barrier_Resign rfl hb ?_)
       | refine chk_elim hs fun hs => ?_
       | (have hs := letv_out hs)
       | exact fin_some hs rfl
       | (intro b hb; first | have hs := nilq_elim hs b hb | have hs := nilqn_elim hs b hb)
       | (have hs := cT rfl hs)
       | (have hs := cF rfl hs)
       | exact (none_ne hs).elim)
theorem cq_bartab_Resign : PCon Go.Proofs.Tryd.prog 51 (liftF (.pair (.sl (.pair (.pair .bool (.pair (.int .i64) .unit)) (.pair (.pair (.arr 4 (.int .u64)) (.pair (.arr 4 (.int .u64)) .unit)) (.pair (.int .i64) .unit)))) (.pair (.int .i64) (.pair (.int .i64) .unit))) (unpR (.pair (.sl (.pair (.pair .bool (.pair (.int .i64) .unit)) (.pair (.pair (.arr 4 (.int .u64)) (.pair (.arr 4 (.int .u64)) .unit)) (.pair (.int .i64) .unit)))) (.pair (.int .i64) .unit))) (fun x => bartab_Resign x.1 x.2.1 x.2.2.1)) := lq_bartab_Resign ▸ c_bartab_Resign
noncomputable def lf_bartab_Fire : List AV → Option AV := liftF (.pair (.sl (.pair (.pair .bool (.pair (.int .i64) .unit)) (.pair (.pair (.arr 4 (.int .u64)) (.pair (.arr 4 (.int .u64)) .unit)) (.pair (.int .i64) .unit)))) (.pair (.int .i64) .unit)) (unpR (.pair (.sl (.pair (.pair .bool (.pair (.int .i64) .unit)) (.pair (.pair (.arr 4 (.int .u64)) (.pair (.arr 4 (.int .u64)) .unit)) (.pair (.int .i64) .unit)))) (.pair (.sl (.int .i64)) (.pair (.int .i64) .unit)))) (fun x => bartab_Fire x.1 x.2.1)
theorem lq_bartab_Fire : lf_bartab_Fire = liftF (.pair (.sl (.pair (.pair .bool (.pair (.int .i64) .unit)) (.pair (.pair (.arr 4 (.int .u64)) (.pair (.arr 4 (.int .u64)) .unit)) (.pair (.int .i64) .unit)))) (.pair (.int .i64) .unit)) (unpR (.pair (.sl (.pair (.pair .bool (.pair (.int .i64) .unit)) (.pair (.pair (.arr 4 (.int .u64)) (.pair (.arr 4 (.int .u64)) .unit)) (.pair (.int .i64) .unit)))) (.pair (.sl (.int .i64)) (.pair (.int .i64) .unit)))) (fun x => bartab_Fire x.1 x.2.1) := rfl
attribute [irreducible] lf_bartab_Fire
theorem ck_bartab_Fire {vs : List AV} {k : AV → Prop} {x : ((.pair (.sl (.pair (.pair .bool (.pair (.int .i64) .unit)) (.pair (.pair (.arr 4 (.int .u64)) (.pair (.arr 4 (.int .u64)) .unit)) (.pair (.int .i64) .unit)))) (.pair (.int .i64) .unit)) : Ty).den} {v : (List ((Bool × Int × Unit) × ((List Int) × (List Int) × Unit) × Int × Unit)) × (List Int) × Int × Unit} (h1 : pks (.pair (.sl (.pair (.pair .bool (.pair (.int .i64) .unit)) (.pair (.pair (.arr 4 (.int .u64)) (.pair (.arr 4 (.int .u64)) .unit)) (.pair (.int .i64) .unit)))) (.pair (.int .i64) .unit)) vs = some x) (h2 : bartab_Fire x.1 x.2.1 = some v) (h3 : k ((unpR (.pair (.sl (.pair (.pair .bool (.pair (.int .i64) .unit)) (.pair (.pair (.arr 4 (.int .u64)) (.pair (.arr 4 (.int .u64)) .unit)) (.pair (.int .i64) .unit)))) (.pair (.sl (.int .i64)) (.pair (.int .i64) .unit)))) v)) : callK (lf_bartab_Fire vs) k := by
  rw [lq_bartab_Fire]; exact callK_lift h1 h2 h3
def tt_bartab_Fire : List (Nat × Ty) := [(3, .int .i64), (24, .sl (.int .i64)), (38, .pair (.pair .bool (.pair (.int .i64) .unit)) (.pair (.pair (.arr 4 (.int .u64)) (.pair (.arr 4 (.int .u64)) .unit)) (.pair (.int .i64) .unit))), (40, .int .i64), (74, .sl (.pair (.pair .bool (.pair (.int .i64) .unit)) (.pair (.pair (.arr 4 (.int .u64)) (.pair (.arr 4 (.int .u64)) .unit)) (.pair (.int .i64) .unit)))), (129, .opq 1)]
def et_bartab_Fire : List (Nat × Nat) := [(24, 3), (74, 38)]
theorem tt_bartab_Fire_ok : subT tt tt_bartab_Fire = true := by kernel_rfl
theorem et_bartab_Fire_ok : subE et et_bartab_Fire = true := by kernel_rfl
noncomputable def fns_bartab_Fire : List (Nat × (List AV → Option AV)) := [(14, lf_barrier_Fire)]
theorem fns_bartab_Fire_ok : FnsOk Go.Proofs.Tryd.prog fns_bartab_Fire := FnsOk.cons c_barrier_Fire (FnsOk.nil _)
def kp_bartab_Fire_91 : List (Nat × List Nat) := [(0, [1, 2, 3]), (1, [1, 3, 5, 6, 7]), (2, [3, 5, 7]), (3, [3, 4])]
def od_bartab_Fire_91 : List (Nat × Ord) := []
noncomputable def E_bartab_Fire_91 : Env := ⟨0, 0, et_bartab_Fire, tt_bartab_Fire, fns_bartab_Fire, [], od_bartab_Fire_91, kp_bartab_Fire_91, none, []⟩
noncomputable def pr_bartab_Fire_91 : List (Nat × Proc) := (91, procR E_bartab_Fire_91 17 [.cell 3 38, .tmp 4] (bodyOf Tryd.f91)) :: []
theorem pr_bartab_Fire_91_ok : PrsOk Go.Proofs.Tryd.prog pr_bartab_Fire_91 :=
  PrsOk.cons (proc_conR (E := E_bartab_Fire_91) (EnvC.sub (off := 0) (nt := 0) (ords := od_bartab_Fire_91) (keep := kp_bartab_Fire_91) (yl := none) tt_ok et_ok fns_bartab_Fire_ok (PrsOk.nil _) (ItsOk.nil _) tt_bartab_Fire_ok et_bartab_Fire_ok) (PrOk.of mixed_ok) Go.Proofs.Tryd.func91 rfl (by decide) rfl rfl) (PrsOk.nil _)
def kp_bartab_Fire_86 : List (Nat × List Nat) := [(0, [0]), (1, [0, 3]), (2, [3]), (3, [2])]
def od_bartab_Fire_86 : List (Nat × Ord) := []
noncomputable def E_bartab_Fire_86 : Env := ⟨0, 0, et_bartab_Fire, tt_bartab_Fire, fns_bartab_Fire, pr_bartab_Fire_91, od_bartab_Fire_86, kp_bartab_Fire_86, none, []⟩
noncomputable def pr_bartab_Fire_86 : List (Nat × Proc) := (86, procR E_bartab_Fire_86 11 [.tmp 2] (bodyOf Tryd.f86)) :: pr_bartab_Fire_91
theorem pr_bartab_Fire_86_ok : PrsOk Go.Proofs.Tryd.prog pr_bartab_Fire_86 :=
  PrsOk.cons (proc_conR (E := E_bartab_Fire_86) (EnvC.sub (off := 0) (nt := 0) (ords := od_bartab_Fire_86) (keep := kp_bartab_Fire_86) (yl := none) tt_ok et_ok fns_bartab_Fire_ok (pr_bartab_Fire_91_ok) (ItsOk.nil _) tt_bartab_Fire_ok et_bartab_Fire_ok) (PrOk.of mixed_ok) Go.Proofs.Tryd.func86 rfl (by decide) rfl rfl) (pr_bartab_Fire_91_ok)
def kp_bartab_Fire_84 : List (Nat × List Nat) := [(0, [0, 1, 2]), (1, [0, 1, 2, 18]), (2, [6, 7]), (3, [0, 1, 8, 9]), (4, [0, 1, 8, 9, 30]), (5, [6, 7]), (6, [1, 8, 10]), (7, [10]), (8, [6, 7])]
def od_bartab_Fire_84 : List (Nat × Ord) := []
noncomputable def E_bartab_Fire_84 : Env := ⟨0, 0, et_bartab_Fire, tt_bartab_Fire, fns_bartab_Fire, pr_bartab_Fire_86, od_bartab_Fire_84, kp_bartab_Fire_84, none, []⟩
noncomputable def pr_bartab_Fire_84 : List (Nat × Proc) := (84, procR E_bartab_Fire_84 40 [.tmp 6, .tmp 7] (bodyOf Tryd.f84)) :: pr_bartab_Fire_86
theorem pr_bartab_Fire_84_ok : PrsOk Go.Proofs.Tryd.prog pr_bartab_Fire_84 :=
  PrsOk.cons (proc_conR (E := E_bartab_Fire_84) (EnvC.sub (off := 0) (nt := 0) (ords := od_bartab_Fire_84) (keep := kp_bartab_Fire_84) (yl := none) tt_ok et_ok fns_bartab_Fire_ok (pr_bartab_Fire_86_ok) (ItsOk.nil _) tt_bartab_Fire_ok et_bartab_Fire_ok) (PrOk.of mixed_ok) Go.Proofs.Tryd.func84 rfl (by decide) rfl rfl) (pr_bartab_Fire_86_ok)
def kp_bartab_Fire : List (Nat × List Nat) := [(0, [0, 1]), (1, [0, 1, 7]), (2, [7, 8, 9]), (3, [4, 5, 6]), (4000000, []), (4000001, [7]), (4000002, [7, 15764486]), (4000003, [15764486])]
def od_bartab_Fire : List (Nat × Ord) := [(3, (.one 0 (.one 1 (.one 2 (.one 3 (.one 4 (.one 5 .nil)))))))]
noncomputable def E_bartab_Fire : Env := ⟨0, 0, et_bartab_Fire, tt_bartab_Fire, fns_bartab_Fire, pr_bartab_Fire_84, od_bartab_Fire, kp_bartab_Fire, none, []⟩
set_option maxRecDepth 100000 in
set_option maxHeartbeats 40000000 in
theorem c_bartab_Fire : PCon Go.Proofs.Tryd.prog 53 lf_bartab_Fire := by
  rw [lq_bartab_Fire]
  refine lift_conR (E := E_bartab_Fire) (c := bodyOf Tryd.f53) (nt := 20) (rs := [.tmp 4, .tmp 5, .tmp 6]) (ts := [74, 24, 40]) (EnvC.sub (off := 0) (nt := 0) (ords := od_bartab_Fire) (keep := kp_bartab_Fire) (yl := none) tt_ok et_ok fns_bartab_Fire_ok (pr_bartab_Fire_84_ok) (ItsOk.nil _) tt_bartab_Fire_ok et_bartab_Fire_ok) (PrOk.of mixed_ok) Go.Proofs.Tryd.func53 rfl (by decide) rfl rfl rfl (pureR_many (e := (.pair (.sl (.pair (.pair .bool (.pair (.int .i64) .unit)) (.pair (.pair (.arr 4 (.int .u64)) (.pair (.arr 4 (.int .u64)) .unit)) (.pair (.int .i64) .unit)))) (.pair (.sl (.int .i64)) (.pair (.int .i64) .unit)))) rfl) ?_
  intro x r hw hs
  repeat'
    (try (conv => whnf)
     first
       | (with_reducible have hs := letv_out hs)
       | (refine draw_and (by kernel_rfl) ?_)
       | (refine both_mk ?_ ?_)
       | (refine br_bool (fun h => ?_) (fun h => ?_) <;> first | have hs := cT h hs | have hs := cF h hs)
       | (refine bind_elim hs fun v hb hs => ?_; first | refine ck_barrier_Fire rfl hb ?_)
       | refine chk_elim hs fun hs => ?_
       | (have hs := letv_out hs)
       | exact fin_some hs rfl
       | (intro b hb; first | have hs := nilq_elim hs b hb | have hs := nilqn_elim hs b hb)
       | (have hs := cT rfl hs)
       | (have hs := cF rfl hs)
       | exact (none_ne hs).elim)
theorem cq_bartab_Fire : PCon Go.Proofs.Tryd.prog 53 (liftF (.pair (.sl (.pair (.pair .bool (.pair (.int .i64) .unit)) (.pair (.pair (.arr 4 (.int .u64)) (.pair (.arr 4 (.int .u64)) .unit)) (.pair (.int .i64) .unit)))) (.pair (.int .i64) .unit)) (unpR (.pair (.sl (.pair (.pair .bool (.pair (.int .i64) .unit)) (.pair (.pair (.arr 4 (.int .u64)) (.pair (.arr 4 (.int .u64)) .unit)) (.pair (.int .i64) .unit)))) (.pair (.sl (.int .i64)) (.pair (.int .i64) .unit)))) (fun x => bartab_Fire x.1 x.2.1)) := lq_bartab_Fire ▸ c_bartab_Fire
noncomputable def lf_bartab_Ready : List AV → Option AV := liftF (.pair (.sl (.pair (.pair .bool (.pair (.int .i64) .unit)) (.pair (.pair (.arr 4 (.int .u64)) (.pair (.arr 4 (.int .u64)) .unit)) (.pair (.int .i64) .unit)))) .unit) (unpack (.sl (.int .i64))) (fun x => bartab_Ready x.1)
theorem lq_bartab_Ready : lf_bartab_Ready = liftF (.pair (.sl (.pair (.pair .bool (.pair (.int .i64) .unit)) (.pair (.pair (.arr 4 (.int .u64)) (.pair (.arr 4 (.int .u64)) .unit)) (.pair (.int .i64) .unit)))) .unit) (unpack (.sl (.int .i64))) (fun x => bartab_Ready x.1) := rfl
attribute [irreducible] lf_bartab_Ready
theorem ck_bartab_Ready {vs : List AV} {k : AV → Prop} {x : ((.pair (.sl (.pair (.pair .bool (.pair (.int .i64) .unit)) (.pair (.pair (.arr 4 (.int .u64)) (.pair (.arr 4 (.int .u64)) .unit)) (.pair (.int .i64) .unit)))) .unit) : Ty).den} {v : List Int} (h1 : pks (.pair (.sl (.pair (.pair .bool (.pair (.int .i64) .unit)) (.pair (.pair (.arr 4 (.int .u64)) (.pair (.arr 4 (.int .u64)) .unit)) (.pair (.int .i64) .unit)))) .unit) vs = some x) (h2 : bartab_Ready x.1 = some v) (h3 : k ((unpack (.sl (.int .i64))) v)) : callK (lf_bartab_Ready vs) k := by
  rw [lq_bartab_Ready]; exact callK_lift h1 h2 h3
def tt_bartab_Ready : List (Nat × Ty) := [(3, .int .i64), (24, .sl (.int .i64)), (38, .pair (.pair .bool (.pair (.int .i64) .unit)) (.pair (.pair (.arr 4 (.int .u64)) (.pair (.arr 4 (.int .u64)) .unit)) (.pair (.int .i64) .unit))), (74, .sl (.pair (.pair .bool (.pair (.int .i64) .unit)) (.pair (.pair (.arr 4 (.int .u64)) (.pair (.arr 4 (.int .u64)) .unit)) (.pair (.int .i64) .unit))))]
def et_bartab_Ready : List (Nat × Nat) := [(24, 3), (74, 38)]
theorem tt_bartab_Ready_ok : subT tt tt_bartab_Ready = true := by kernel_rfl
theorem et_bartab_Ready_ok : subE et et_bartab_Ready = true := by kernel_rfl
noncomputable def fns_bartab_Ready : List (Nat × (List AV → Option AV)) := [(16, lf_barrier_Ready)]
theorem fns_bartab_Ready_ok : FnsOk Go.Proofs.Tryd.prog fns_bartab_Ready := FnsOk.cons c_barrier_Ready (FnsOk.nil _)
def bartab_Ready_S1 (u0 : AV) (u1 : AV) (u2 : AV) (x1 : Int × List Int) : St :=
  ⟨[(3, u0), (6, u1), (7, u2), (8, .int .i64 x1.1)], [(18, .row 3 (.int .i64) x1.2 false)], none⟩
def bartab_Ready_M1 : Msk := ⟨[3, 6, 7, 8], [18], [(3, 18, 24)], [], [], [], [], [], []⟩
def kp_bartab_Ready : List (Nat × List Nat) := [(0, [0]), (1, [0, 3]), (2, [3, 6, 7, 8]), (3, [3, 6, 7, 8, 9]), (4, [3, 4, 5, 6, 7, 8]), (5, [3, 4, 6, 7, 8, 14]), (6, [3, 6, 7, 8]), (7, [3, 6, 7, 8]), (8, [2]), (4000000, []), (4000001, []), (4000002, []), (4000003, [18]), (4000004, [5, 18]), (4000005, [18]), (4000006, [18]), (4000007, [18]), (4000008, [18])]
def od_bartab_Ready : List (Nat × Ord) := []
noncomputable def E_bartab_Ready : Env := ⟨0, 0, et_bartab_Ready, tt_bartab_Ready, fns_bartab_Ready, [], od_bartab_Ready, kp_bartab_Ready, none, []⟩
set_option maxRecDepth 100000 in
set_option maxHeartbeats 40000000 in
theorem c_bartab_Ready : PCon Go.Proofs.Tryd.prog 55 lf_bartab_Ready := by
  rw [lq_bartab_Ready]
  refine lift_conR (E := E_bartab_Ready) (c := bodyOf Tryd.f55) (nt := 21) (rs := [.tmp 2]) (ts := [24]) (EnvC.sub (off := 0) (nt := 0) (ords := od_bartab_Ready) (keep := kp_bartab_Ready) (yl := none) tt_ok et_ok fns_bartab_Ready_ok (PrsOk.nil _) (ItsOk.nil _) tt_bartab_Ready_ok et_bartab_Ready_ok) (PrOk.of mixed_ok) Go.Proofs.Tryd.func55 rfl (by decide) rfl rfl rfl (pureR_one (e := (.sl (.int .i64))) rfl) ?_
  intro x r hw hs
  repeat'
    (try (conv => whnf)
     first
       | (with_reducible have hs := letv_out hs)
       | (refine draw_and (by kernel_rfl) ?_)
       | (refine both_mk ?_ ?_)
       | (refine br_bool (fun h => ?_) (fun h => ?_) <;> first | have hs := cT h hs | have hs := cF h hs)
       | (refine bind_elim hs fun v hb hs => ?_; first | refine ck_barrier_Ready rfl hb ?_)
       | refine chk_elim hs fun hs => ?_
       | (have hs := letv_out hs)
       | exact fin_some hs rfl
       | (intro b hb; first | have hs := nilq_elim hs b hb | have hs := nilqn_elim hs b hb)
       | exact hJ1 _ hs
       | (have hs := cT rfl hs)
       | (have hs := cF rfl hs)
       | (refine vc_loopR (bartab_Ready_S1 _ _ _) bartab_Ready_M1 hs rfl ?_; intro J1 k1 x1 hJ1 hs)
       | exact (none_ne hs).elim)
theorem cq_bartab_Ready : PCon Go.Proofs.Tryd.prog 55 (liftF (.pair (.sl (.pair (.pair .bool (.pair (.int .i64) .unit)) (.pair (.pair (.arr 4 (.int .u64)) (.pair (.arr 4 (.int .u64)) .unit)) (.pair (.int .i64) .unit)))) .unit) (unpack (.sl (.int .i64))) (fun x => bartab_Ready x.1)) := lq_bartab_Ready ▸ c_bartab_Ready
noncomputable def lf_bartab_New : List AV → Option AV := liftF (.pair (.sl (.pair .bool (.pair (.int .i64) .unit))) .unit) (unpR (.pair (.sl (.pair (.pair .bool (.pair (.int .i64) .unit)) (.pair (.pair (.arr 4 (.int .u64)) (.pair (.arr 4 (.int .u64)) .unit)) (.pair (.int .i64) .unit)))) (.pair (.int .i64) (.pair (.int .i64) .unit)))) (fun x => bartab_New x.1)
theorem lq_bartab_New : lf_bartab_New = liftF (.pair (.sl (.pair .bool (.pair (.int .i64) .unit))) .unit) (unpR (.pair (.sl (.pair (.pair .bool (.pair (.int .i64) .unit)) (.pair (.pair (.arr 4 (.int .u64)) (.pair (.arr 4 (.int .u64)) .unit)) (.pair (.int .i64) .unit)))) (.pair (.int .i64) (.pair (.int .i64) .unit)))) (fun x => bartab_New x.1) := rfl
attribute [irreducible] lf_bartab_New
theorem ck_bartab_New {vs : List AV} {k : AV → Prop} {x : ((.pair (.sl (.pair .bool (.pair (.int .i64) .unit))) .unit) : Ty).den} {v : (List ((Bool × Int × Unit) × ((List Int) × (List Int) × Unit) × Int × Unit)) × Int × Int × Unit} (h1 : pks (.pair (.sl (.pair .bool (.pair (.int .i64) .unit))) .unit) vs = some x) (h2 : bartab_New x.1 = some v) (h3 : k ((unpR (.pair (.sl (.pair (.pair .bool (.pair (.int .i64) .unit)) (.pair (.pair (.arr 4 (.int .u64)) (.pair (.arr 4 (.int .u64)) .unit)) (.pair (.int .i64) .unit)))) (.pair (.int .i64) (.pair (.int .i64) .unit)))) v)) : callK (lf_bartab_New vs) k := by
  rw [lq_bartab_New]; exact callK_lift h1 h2 h3
def tt_bartab_New : List (Nat × Ty) := [(3, .int .i64), (23, .pair .bool (.pair (.int .i64) .unit)), (38, .pair (.pair .bool (.pair (.int .i64) .unit)) (.pair (.pair (.arr 4 (.int .u64)) (.pair (.arr 4 (.int .u64)) .unit)) (.pair (.int .i64) .unit))), (40, .int .i64), (74, .sl (.pair (.pair .bool (.pair (.int .i64) .unit)) (.pair (.pair (.arr 4 (.int .u64)) (.pair (.arr 4 (.int .u64)) .unit)) (.pair (.int .i64) .unit)))), (96, .sl (.pair .bool (.pair (.int .i64) .unit)))]
def et_bartab_New : List (Nat × Nat) := [(74, 38), (96, 23)]
theorem tt_bartab_New_ok : subT tt tt_bartab_New = true := by kernel_rfl
theorem et_bartab_New_ok : subE et et_bartab_New = true := by kernel_rfl
noncomputable def fns_bartab_New : List (Nat × (List AV → Option AV)) := [(21, lf_barrier_New)]
theorem fns_bartab_New_ok : FnsOk Go.Proofs.Tryd.prog fns_bartab_New := FnsOk.cons c_barrier_New (FnsOk.nil _)
def bartab_New_S1 (u0 : AV) (u1 : AV) (u2 : AV) (x1 : Int × (List ((Bool × Int × Unit) × ((List Int) × (List Int) × Unit) × Int × Unit))) : St :=
  ⟨[(5, u0), (13, u1), (14, u2), (15, .int .i64 x1.1)], [(32, .row 38 (.pair (.pair .bool (.pair (.int .i64) .unit)) (.pair (.pair (.arr 4 (.int .u64)) (.pair (.arr 4 (.int .u64)) .unit)) (.pair (.int .i64) .unit))) x1.2 false)], none⟩
def bartab_New_M1 : Msk := ⟨[5, 13, 14, 15], [32], [(5, 32, 74)], [], [], [], [], [], []⟩
def kp_bartab_New : List (Nat × List Nat) := [(0, [0]), (1, [0, 12]), (2, [2, 3, 4]), (3, [0, 5]), (4, [5, 13, 14, 15]), (5, [5, 13, 14, 15, 16]), (6, [5, 6, 7, 13, 14, 15]), (7, [5, 6, 8, 9, 13, 14, 15]), (8, [5, 6, 8, 9, 13, 14, 15, 26]), (9, [2, 3, 4]), (10, [5, 13, 14, 15]), (11, [5, 13, 14, 15]), (12, [2, 3, 4]), (4000000, []), (4000001, []), (4000002, []), (4000003, []), (4000004, []), (4000005, [32]), (4000006, [7, 32]), (4000007, [8, 32]), (4000008, [8, 32]), (4000009, []), (4000010, [32]), (4000011, [32]), (4000012, [32])]
def od_bartab_New : List (Nat × Ord) := []
noncomputable def E_bartab_New : Env := ⟨0, 0, et_bartab_New, tt_bartab_New, fns_bartab_New, [], od_bartab_New, kp_bartab_New, none, []⟩
set_option maxRecDepth 100000 in
set_option maxHeartbeats 40000000 in
theorem c_bartab_New : PCon Go.Proofs.Tryd.prog 57 lf_bartab_New := by
  rw [lq_bartab_New]
  refine lift_conR (E := E_bartab_New) (c := bodyOf Tryd.f57) (nt := 35) (rs := [.tmp 2, .tmp 3, .tmp 4]) (ts := [74, 3, 40]) (EnvC.sub (off := 0) (nt := 0) (ords := od_bartab_New) (keep := kp_bartab_New) (yl := none) tt_ok et_ok fns_bartab_New_ok (PrsOk.nil _) (ItsOk.nil _) tt_bartab_New_ok et_bartab_New_ok) (PrOk.of mixed_ok) Go.Proofs.Tryd.func57 rfl (by decide) rfl rfl rfl (pureR_many (e := (.pair (.sl (.pair (.pair .bool (.pair (.int .i64) .unit)) (.pair (.pair (.arr 4 (.int .u64)) (.pair (.arr 4 (.int .u64)) .unit)) (.pair (.int .i64) .unit)))) (.pair (.int .i64) (.pair (.int .i64) .unit)))) rfl) ?_
  intro x r hw hs
  repeat'
    (try (conv => whnf)
     first
       | (with_reducible have hs := letv_out hs)
       | (refine draw_and (by kernel_rfl) ?_)
       | (refine both_mk ?_ ?_)
       | (refine br_bool (fun h => ?_) (fun h => ?_) <;> first | have hs := cT h hs | have hs := cF h hs)
       | (refine bind_elim hs fun v hb hs => ?_; first | refine ck_barrier_New rfl hb ?_)
       | refine chk_elim hs fun hs => ?_
       | (have hs := letv_out hs)
       | exact fin_some hs rfl
       | (intro b hb; first | have hs := nilq_elim hs b hb | have hs := nilqn_elim hs b hb)
       | exact hJ1 _ hs
       | (have hs := cT rfl hs)
       | (have hs := cF rfl hs)
       | (refine vc_loopR (bartab_New_S1 _ _ _) bartab_New_M1 hs rfl ?_; intro J1 k1 x1 hJ1 hs)
       | exact (none_ne hs).elim)
theorem cq_bartab_New : PCon Go.Proofs.Tryd.prog 57 (liftF (.pair (.sl (.pair .bool (.pair (.int .i64) .unit))) .unit) (unpR (.pair (.sl (.pair (.pair .bool (.pair (.int .i64) .unit)) (.pair (.pair (.arr 4 (.int .u64)) (.pair (.arr 4 (.int .u64)) .unit)) (.pair (.int .i64) .unit)))) (.pair (.int .i64) (.pair (.int .i64) .unit)))) (fun x => bartab_New x.1)) := lq_bartab_New ▸ c_bartab_New
end Go.Proofs.YtkpobmmabmelfaaDoorV
