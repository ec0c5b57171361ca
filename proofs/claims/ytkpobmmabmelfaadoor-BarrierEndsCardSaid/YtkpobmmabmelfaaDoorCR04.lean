import Derived.Test.YtkpobmmabmelfaaDoorVcTab
import Derived.Test.YtkpobmmabmelfaaDoorDR04
namespace Go.Proofs.YtkpobmmabmelfaaDoorV
open Go.Proofs
set_option linter.unusedVariables false
noncomputable def lf_R04_Has : List AV → Option AV := liftF (.pair (.sl (.int .i64)) (.pair (.int .i64) .unit)) (unpack .bool) (fun x => R04_Has x.1 x.2.1)
theorem lq_R04_Has : lf_R04_Has = liftF (.pair (.sl (.int .i64)) (.pair (.int .i64) .unit)) (unpack .bool) (fun x => R04_Has x.1 x.2.1) := rfl
attribute [irreducible] lf_R04_Has
theorem ck_R04_Has {vs : List AV} {k : AV → Prop} {x : ((.pair (.sl (.int .i64)) (.pair (.int .i64) .unit)) : Ty).den} {v : Bool} (h1 : pks (.pair (.sl (.int .i64)) (.pair (.int .i64) .unit)) vs = some x) (h2 : R04_Has x.1 x.2.1 = some v) (h3 : k ((unpack .bool) v)) : callK (lf_R04_Has vs) k := by
  rw [lq_R04_Has]; exact callK_lift h1 h2 h3
def tt_R04_Has : List (Nat × Ty) := [(3, .int .i64), (4, .bool), (24, .sl (.int .i64))]
def et_R04_Has : List (Nat × Nat) := [(24, 3)]
theorem tt_R04_Has_ok : subT tt tt_R04_Has = true := by kernel_rfl
theorem et_R04_Has_ok : subE et et_R04_Has = true := by kernel_rfl
noncomputable def fns_R04_Has : List (Nat × (List AV → Option AV)) := []
theorem fns_R04_Has_ok : FnsOk Go.Proofs.Tryd.prog fns_R04_Has := FnsOk.nil _
def R04_Has_S1 (u0 : AV) (u1 : AV) (x1 : Int) : St :=
  ⟨[(0, u0), (1, u1), (5, .int .i64 x1)], [], none⟩
def R04_Has_M1 : Msk := ⟨[0, 1, 5], [], [], [], [], [], [], [], []⟩
def kp_R04_Has : List (Nat × List Nat) := [(0, [0, 1]), (1, [0, 1, 5]), (2, [0, 1, 5, 9]), (3, [0, 1, 5]), (4, [0, 1, 5, 17]), (5, [4]), (6, [4]), (4000000, []), (4000001, []), (4000002, []), (4000003, []), (4000004, []), (4000005, []), (4000006, [])]
def od_R04_Has : List (Nat × Ord) := []
noncomputable def E_R04_Has : Env := ⟨0, 0, et_R04_Has, tt_R04_Has, fns_R04_Has, [], od_R04_Has, kp_R04_Has, none, []⟩
set_option maxRecDepth 100000 in
set_option maxHeartbeats 40000000 in
theorem c_R04_Has : PCon Go.Proofs.Tryd.prog 98 lf_R04_Has := by
  rw [lq_R04_Has]
  refine lift_conR (E := E_R04_Has) (c := bodyOf Tryd.f98) (nt := 18) (rs := [.tmp 4]) (ts := [4]) (EnvC.sub (off := 0) (nt := 0) (ords := od_R04_Has) (keep := kp_R04_Has) (yl := none) tt_ok et_ok fns_R04_Has_ok (PrsOk.nil _) (ItsOk.nil _) tt_R04_Has_ok et_R04_Has_ok) (PrOk.of mixed_ok) Go.Proofs.Tryd.func98 rfl (by decide) rfl rfl rfl (pureR_one (e := .bool) rfl) ?_
  intro x r hw hs
  repeat'
    (try (conv => whnf)
     first
       | (with_reducible have hs := letv_out hs)
       | (refine draw_and (by kernel_rfl) ?_)
       | (refine both_mk ?_ ?_)
       | (refine br_bool (fun h => ?_) (fun h => ?_) <;> first | have hs := cT h hs | have hs := cF h hs)
       | refine chk_elim hs fun hs => ?_
       | (have hs := letv_out hs)
       | exact fin_some hs rfl
       | (intro b hb; first | have hs := nilq_elim hs b hb | have hs := nilqn_elim hs b hb)
       | exact hJ1 _ hs
       | (have hs := cT rfl hs)
       | (have hs := cF rfl hs)
       | (refine vc_loopR (R04_Has_S1 _ _) R04_Has_M1 hs rfl ?_; intro J1 k1 x1 hJ1 hs)
       | exact (none_ne hs).elim)
theorem cq_R04_Has : PCon Go.Proofs.Tryd.prog 98 (liftF (.pair (.sl (.int .i64)) (.pair (.int .i64) .unit)) (unpack .bool) (fun x => R04_Has x.1 x.2.1)) := lq_R04_Has ▸ c_R04_Has
noncomputable def lf_R04_Of : List AV → Option AV := liftF (.pair (.sl (.int .i64)) .unit) (unpack (.sl (.int .i64))) (fun x => R04_Of x.1)
theorem lq_R04_Of : lf_R04_Of = liftF (.pair (.sl (.int .i64)) .unit) (unpack (.sl (.int .i64))) (fun x => R04_Of x.1) := rfl
attribute [irreducible] lf_R04_Of
theorem ck_R04_Of {vs : List AV} {k : AV → Prop} {x : ((.pair (.sl (.int .i64)) .unit) : Ty).den} {v : List Int} (h1 : pks (.pair (.sl (.int .i64)) .unit) vs = some x) (h2 : R04_Of x.1 = some v) (h3 : k ((unpack (.sl (.int .i64))) v)) : callK (lf_R04_Of vs) k := by
  rw [lq_R04_Of]; exact callK_lift h1 h2 h3
def tt_R04_Of : List (Nat × Ty) := [(3, .int .i64), (24, .sl (.int .i64))]
def et_R04_Of : List (Nat × Nat) := [(24, 3)]
theorem tt_R04_Of_ok : subT tt tt_R04_Of = true := by kernel_rfl
theorem et_R04_Of_ok : subE et et_R04_Of = true := by kernel_rfl
noncomputable def fns_R04_Of : List (Nat × (List AV → Option AV)) := [(98, lf_R04_Has)]
theorem fns_R04_Of_ok : FnsOk Go.Proofs.Tryd.prog fns_R04_Of := FnsOk.cons c_R04_Has (FnsOk.nil _)
def R04_Of_S1 (u0 : AV) (u1 : AV) (x1 : Int × List Int) : St :=
  ⟨[(0, u0), (3, u1), (4, .int .i64 x1.1)], [(15, .row 3 (.int .i64) x1.2 false)], none⟩
def R04_Of_M1 : Msk := ⟨[0, 3, 4], [15], [(3, 15, 24)], [], [], [], [], [], []⟩
def kp_R04_Of : List (Nat × List Nat) := [(0, [0]), (1, [0, 3]), (2, [0, 3, 4]), (3, [0, 3, 4, 6]), (4, [0, 3, 4]), (5, [0, 3, 4, 11]), (6, [0, 3, 4]), (7, [2]), (4000000, []), (4000001, []), (4000002, []), (4000003, [15]), (4000004, [15]), (4000005, [15]), (4000006, [15]), (4000007, [15])]
def od_R04_Of : List (Nat × Ord) := []
noncomputable def E_R04_Of : Env := ⟨0, 0, et_R04_Of, tt_R04_Of, fns_R04_Of, [], od_R04_Of, kp_R04_Of, none, []⟩
set_option maxRecDepth 100000 in
set_option maxHeartbeats 40000000 in
theorem c_R04_Of : PCon Go.Proofs.Tryd.prog 92 lf_R04_Of := by
  rw [lq_R04_Of]
  refine lift_conR (E := E_R04_Of) (c := bodyOf Tryd.f92) (nt := 17) (rs := [.tmp 2]) (ts := [24]) (EnvC.sub (off := 0) (nt := 0) (ords := od_R04_Of) (keep := kp_R04_Of) (yl := none) tt_ok et_ok fns_R04_Of_ok (PrsOk.nil _) (ItsOk.nil _) tt_R04_Of_ok et_R04_Of_ok) (PrOk.of mixed_ok) Go.Proofs.Tryd.func92 rfl (by decide) rfl rfl rfl (pureR_one (e := (.sl (.int .i64))) rfl) ?_
  intro x r hw hs
  repeat'
    (try (conv => whnf)
     first
       | (with_reducible have hs := letv_out hs)
       | (refine draw_and (by kernel_rfl) ?_)
       | (refine both_mk ?_ ?_)
       | (refine br_bool (fun h => ?_) (fun h => ?_) <;> first | have hs := cT h hs | have hs := cF h hs)
       | (refine bind_elim hs fun v hb hs => ?_; first | refine ck_R04_Has rfl hb ?_)
       | refine chk_elim hs fun hs => ?_
       | (have hs := letv_out hs)
       | exact fin_some hs rfl
       | (intro b hb; first | have hs := nilq_elim hs b hb | have hs := nilqn_elim hs b hb)
       | exact hJ1 _ hs
       | (have hs := cT rfl hs)
       | (have hs := cF rfl hs)
       | (refine vc_loopR (R04_Of_S1 _ _) R04_Of_M1 hs rfl ?_; intro J1 k1 x1 hJ1 hs)
       | exact (none_ne hs).elim)
theorem cq_R04_Of : PCon Go.Proofs.Tryd.prog 92 (liftF (.pair (.sl (.int .i64)) .unit) (unpack (.sl (.int .i64))) (fun x => R04_Of x.1)) := lq_R04_Of ▸ c_R04_Of
noncomputable def lf_R04_fine : List AV → Option AV := liftF (.pair (.int .i64) .unit) (unpack .bool) (fun x => R04_fine x.1)
theorem lq_R04_fine : lf_R04_fine = liftF (.pair (.int .i64) .unit) (unpack .bool) (fun x => R04_fine x.1) := rfl
attribute [irreducible] lf_R04_fine
theorem ck_R04_fine {vs : List AV} {k : AV → Prop} {x : ((.pair (.int .i64) .unit) : Ty).den} {v : Bool} (h1 : pks (.pair (.int .i64) .unit) vs = some x) (h2 : R04_fine x.1 = some v) (h3 : k ((unpack .bool) v)) : callK (lf_R04_fine vs) k := by
  rw [lq_R04_fine]; exact callK_lift h1 h2 h3
def tt_R04_fine : List (Nat × Ty) := [(3, .int .i64), (4, .bool)]
def et_R04_fine : List (Nat × Nat) := []
theorem tt_R04_fine_ok : subT tt tt_R04_fine = true := by kernel_rfl
theorem et_R04_fine_ok : subE et et_R04_fine = true := by kernel_rfl
noncomputable def fns_R04_fine : List (Nat × (List AV → Option AV)) := []
theorem fns_R04_fine_ok : FnsOk Go.Proofs.Tryd.prog fns_R04_fine := FnsOk.nil _
def kp_R04_fine : List (Nat × List Nat) := [(0, [0]), (1, [2]), (4000000, []), (4000001, [])]
def od_R04_fine : List (Nat × Ord) := []
noncomputable def E_R04_fine : Env := ⟨0, 0, et_R04_fine, tt_R04_fine, fns_R04_fine, [], od_R04_fine, kp_R04_fine, none, []⟩
set_option maxRecDepth 100000 in
set_option maxHeartbeats 40000000 in
theorem c_R04_fine : PCon Go.Proofs.Tryd.prog 104 lf_R04_fine := by
  rw [lq_R04_fine]
  refine lift_conR (E := E_R04_fine) (c := bodyOf Tryd.f104) (nt := 9) (rs := [.tmp 2]) (ts := [4]) (EnvC.sub (off := 0) (nt := 0) (ords := od_R04_fine) (keep := kp_R04_fine) (yl := none) tt_ok et_ok fns_R04_fine_ok (PrsOk.nil _) (ItsOk.nil _) tt_R04_fine_ok et_R04_fine_ok) (PrOk.of mixed_ok) Go.Proofs.Tryd.func104 rfl (by decide) rfl rfl rfl (pureR_one (e := .bool) rfl) ?_
  intro x r hw hs
  repeat'
    (try (conv => whnf)
     first
       | (with_reducible have hs := letv_out hs)
       | (refine draw_and (by kernel_rfl) ?_)
       | (refine both_mk ?_ ?_)
       | (refine br_bool (fun h => ?_) (fun h => ?_) <;> first | have hs := cT h hs | have hs := cF h hs)
       | refine chk_elim hs fun hs => ?_
       | (have hs := letv_out hs)
       | exact fin_some hs rfl
       | (intro b hb; first | have hs := nilq_elim hs b hb | have hs := nilqn_elim hs b hb)
       | (have hs := cT rfl hs)
       | (have hs := cF rfl hs)
       | exact (none_ne hs).elim)
theorem cq_R04_fine : PCon Go.Proofs.Tryd.prog 104 (liftF (.pair (.int .i64) .unit) (unpack .bool) (fun x => R04_fine x.1)) := lq_R04_fine ▸ c_R04_fine
noncomputable def lf_R04_Words : List AV → Option AV := liftF (.pair (.sl (.int .i64)) .unit) (unpack (.arr 4 (.int .u64))) (fun x => R04_Words x.1)
theorem lq_R04_Words : lf_R04_Words = liftF (.pair (.sl (.int .i64)) .unit) (unpack (.arr 4 (.int .u64))) (fun x => R04_Words x.1) := rfl
attribute [irreducible] lf_R04_Words
theorem ck_R04_Words {vs : List AV} {k : AV → Prop} {x : ((.pair (.sl (.int .i64)) .unit) : Ty).den} {v : List Int} (h1 : pks (.pair (.sl (.int .i64)) .unit) vs = some x) (h2 : R04_Words x.1 = some v) (h3 : k ((unpack (.arr 4 (.int .u64))) v)) : callK (lf_R04_Words vs) k := by
  rw [lq_R04_Words]; exact callK_lift h1 h2 h3
def tt_R04_Words : List (Nat × Ty) := [(3, .int .i64), (24, .sl (.int .i64)), (32, .int .u64), (33, .arr 4 (.int .u64)), (143, .int .u64)]
def et_R04_Words : List (Nat × Nat) := [(24, 3)]
theorem tt_R04_Words_ok : subT tt tt_R04_Words = true := by kernel_rfl
theorem et_R04_Words_ok : subE et et_R04_Words = true := by kernel_rfl
noncomputable def fns_R04_Words : List (Nat × (List AV → Option AV)) := [(104, lf_R04_fine)]
theorem fns_R04_Words_ok : FnsOk Go.Proofs.Tryd.prog fns_R04_Words := FnsOk.cons c_R04_fine (FnsOk.nil _)
def R04_Words_S1 (u0 : AV) (u1 : AV) (u2 : AV) (B4 : Blk) (x1 : Int × List Int) : St :=
  ⟨[(0, u0), (2, u1), (3, u2), (4, .int .i64 x1.1)], [(2, B4), (3, .var (.arr 4 (.int .u64)) (.arr 4 (.int .u64) x1.2) false)], none⟩
def R04_Words_M1 : Msk := ⟨[0, 2, 3, 4], [2, 3], [], [], [], [], [], [], []⟩
def kp_R04_Words : List (Nat × List Nat) := [(0, [0, 2]), (1, [0, 2, 3]), (2, [0, 2, 3, 4]), (3, [0, 2, 3, 4, 8]), (4, [0, 2, 3, 4]), (5, [0, 2, 3, 4, 15]), (6, [0, 2, 3, 4]), (7, [2]), (4000000, [2]), (4000001, [2, 3]), (4000002, [2, 3]), (4000003, [2, 3]), (4000004, [2, 3]), (4000005, [2, 3]), (4000006, [2, 3]), (4000007, [2])]
def od_R04_Words : List (Nat × Ord) := [(6, (.one 0 (.one 1 (.one 2 (.one 3 (.one 4 (.one 5 (.one 6 (.one 7 (.one 8 (.one 9 (.one 10 (.one 11 (.one 12 (.one 13 (.one 14 (.one 15 (.one 100016 .nil))))))))))))))))))]
noncomputable def E_R04_Words : Env := ⟨0, 0, et_R04_Words, tt_R04_Words, fns_R04_Words, [], od_R04_Words, kp_R04_Words, none, []⟩
set_option maxRecDepth 100000 in
set_option maxHeartbeats 40000000 in
theorem c_R04_Words : PCon Go.Proofs.Tryd.prog 93 lf_R04_Words := by
  rw [lq_R04_Words]
  refine lift_conR (E := E_R04_Words) (c := bodyOf Tryd.f93) (nt := 33) (rs := [.cell 2 33]) (ts := [33]) (EnvC.sub (off := 0) (nt := 0) (ords := od_R04_Words) (keep := kp_R04_Words) (yl := none) tt_ok et_ok fns_R04_Words_ok (PrsOk.nil _) (ItsOk.nil _) tt_R04_Words_ok et_R04_Words_ok) (PrOk.of mixed_ok) Go.Proofs.Tryd.func93 rfl (by decide) rfl rfl rfl (pureR_one (e := (.arr 4 (.int .u64))) rfl) ?_
  intro x r hw hs
  repeat'
    (try (conv => whnf)
     first
       | (with_reducible have hs := letv_out hs)
       | (refine draw_and (by kernel_rfl) ?_)
       | (refine both_mk ?_ ?_)
       | (refine br_bool (fun h => ?_) (fun h => ?_) <;> first | have hs := cT h hs | have hs := cF h hs)
       | (refine bind_elim hs fun v hb hs => ?_; first | refine ck_R04_fine rfl hb ?_)
       | refine chk_elim hs fun hs => ?_
       | (have hs := letv_out hs)
       | exact fin_some hs rfl
       | (intro b hb; first | have hs := nilq_elim hs b hb | have hs := nilqn_elim hs b hb)
       | exact hJ1 _ hs
       | (have hs := cT rfl hs)
       | (have hs := cF rfl hs)
       | (refine vc_loopR (R04_Words_S1 _ _ _ _) R04_Words_M1 hs rfl ?_; intro J1 k1 x1 hJ1 hs)
       | exact (none_ne hs).elim)
theorem cq_R04_Words : PCon Go.Proofs.Tryd.prog 93 (liftF (.pair (.sl (.int .i64)) .unit) (unpack (.arr 4 (.int .u64))) (fun x => R04_Words x.1)) := lq_R04_Words ▸ c_R04_Words
noncomputable def lf_R04_Less : List AV → Option AV := liftF (.pair (.sl (.int .i64)) (.pair (.sl (.int .i64)) .unit)) (unpack (.sl (.int .i64))) (fun x => R04_Less x.1 x.2.1)
theorem lq_R04_Less : lf_R04_Less = liftF (.pair (.sl (.int .i64)) (.pair (.sl (.int .i64)) .unit)) (unpack (.sl (.int .i64))) (fun x => R04_Less x.1 x.2.1) := rfl
attribute [irreducible] lf_R04_Less
theorem ck_R04_Less {vs : List AV} {k : AV → Prop} {x : ((.pair (.sl (.int .i64)) (.pair (.sl (.int .i64)) .unit)) : Ty).den} {v : List Int} (h1 : pks (.pair (.sl (.int .i64)) (.pair (.sl (.int .i64)) .unit)) vs = some x) (h2 : R04_Less x.1 x.2.1 = some v) (h3 : k ((unpack (.sl (.int .i64))) v)) : callK (lf_R04_Less vs) k := by
  rw [lq_R04_Less]; exact callK_lift h1 h2 h3
def tt_R04_Less : List (Nat × Ty) := [(3, .int .i64), (4, .bool), (24, .sl (.int .i64))]
def et_R04_Less : List (Nat × Nat) := [(24, 3)]
theorem tt_R04_Less_ok : subT tt tt_R04_Less = true := by kernel_rfl
theorem et_R04_Less_ok : subE et et_R04_Less = true := by kernel_rfl
noncomputable def fns_R04_Less : List (Nat × (List AV → Option AV)) := [(98, lf_R04_Has)]
theorem fns_R04_Less_ok : FnsOk Go.Proofs.Tryd.prog fns_R04_Less := FnsOk.cons c_R04_Has (FnsOk.nil _)
def R04_Less_S1 (u0 : AV) (u1 : AV) (u2 : AV) (x1 : Int × List Int) : St :=
  ⟨[(0, u0), (1, u1), (5, u2), (6, .int .i64 x1.1)], [(26, .row 3 (.int .i64) x1.2 false)], none⟩
def R04_Less_M1 : Msk := ⟨[0, 1, 5, 6], [26], [(5, 26, 24)], [], [], [], [], [], []⟩
def kp_R04_Less : List (Nat × List Nat) := [(0, [0, 1]), (1, [0, 1, 5]), (2, [0, 1, 5, 6]), (3, [0, 1, 5, 6, 10]), (4, [0, 1, 5, 6]), (5, [0, 1, 5, 6, 19]), (6, [0, 1, 5, 6]), (7, [4]), (4000000, []), (4000001, []), (4000002, []), (4000003, [26]), (4000004, [26]), (4000005, [26]), (4000006, [26]), (4000007, [26])]
def od_R04_Less : List (Nat × Ord) := []
noncomputable def E_R04_Less : Env := ⟨0, 0, et_R04_Less, tt_R04_Less, fns_R04_Less, [], od_R04_Less, kp_R04_Less, none, []⟩
set_option maxRecDepth 100000 in
set_option maxHeartbeats 40000000 in
theorem c_R04_Less : PCon Go.Proofs.Tryd.prog 103 lf_R04_Less := by
  rw [lq_R04_Less]
  refine lift_conR (E := E_R04_Less) (c := bodyOf Tryd.f103) (nt := 28) (rs := [.tmp 4]) (ts := [24]) (EnvC.sub (off := 0) (nt := 0) (ords := od_R04_Less) (keep := kp_R04_Less) (yl := none) tt_ok et_ok fns_R04_Less_ok (PrsOk.nil _) (ItsOk.nil _) tt_R04_Less_ok et_R04_Less_ok) (PrOk.of mixed_ok) Go.Proofs.Tryd.func103 rfl (by decide) rfl rfl rfl (pureR_one (e := (.sl (.int .i64))) rfl) ?_
  intro x r hw hs
  repeat'
    (try (conv => whnf)
     first
       | (with_reducible have hs := letv_out hs)
       | (refine draw_and (by kernel_rfl) ?_)
       | (refine both_mk ?_ ?_)
       | (refine br_bool (fun h => ?_) (fun h => ?_) <;> first | have hs := cT h hs | have hs := cF h hs)
       | (refine bind_elim hs fun v hb hs => ?_; first | refine ck_R04_Has rfl hb ?_)
       | refine chk_elim hs fun hs => ?_
       | (have hs := letv_out hs)
       | exact fin_some hs rfl
       | (intro b hb; first | have hs := nilq_elim hs b hb | have hs := nilqn_elim hs b hb)
       | exact hJ1 _ hs
       | (have hs := cT rfl hs)
       | (have hs := cF rfl hs)
       | (refine vc_loopR (R04_Less_S1 _ _ _) R04_Less_M1 hs rfl ?_; intro J1 k1 x1 hJ1 hs)
       | exact (none_ne hs).elim)
theorem cq_R04_Less : PCon Go.Proofs.Tryd.prog 103 (liftF (.pair (.sl (.int .i64)) (.pair (.sl (.int .i64)) .unit)) (unpack (.sl (.int .i64))) (fun x => R04_Less x.1 x.2.1)) := lq_R04_Less ▸ c_R04_Less
noncomputable def lf_R04_Add : List AV → Option AV := liftF (.pair (.sl (.int .i64)) (.pair (.int .i64) .unit)) (unpack (.sl (.int .i64))) (fun x => R04_Add x.1 x.2.1)
theorem lq_R04_Add : lf_R04_Add = liftF (.pair (.sl (.int .i64)) (.pair (.int .i64) .unit)) (unpack (.sl (.int .i64))) (fun x => R04_Add x.1 x.2.1) := rfl
attribute [irreducible] lf_R04_Add
theorem ck_R04_Add {vs : List AV} {k : AV → Prop} {x : ((.pair (.sl (.int .i64)) (.pair (.int .i64) .unit)) : Ty).den} {v : List Int} (h1 : pks (.pair (.sl (.int .i64)) (.pair (.int .i64) .unit)) vs = some x) (h2 : R04_Add x.1 x.2.1 = some v) (h3 : k ((unpack (.sl (.int .i64))) v)) : callK (lf_R04_Add vs) k := by
  rw [lq_R04_Add]; exact callK_lift h1 h2 h3
def tt_R04_Add : List (Nat × Ty) := [(24, .sl (.int .i64))]
def et_R04_Add : List (Nat × Nat) := [(24, 3)]
theorem tt_R04_Add_ok : subT tt tt_R04_Add = true := by kernel_rfl
theorem et_R04_Add_ok : subE et et_R04_Add = true := by kernel_rfl
noncomputable def fns_R04_Add : List (Nat × (List AV → Option AV)) := [(92, lf_R04_Of)]
theorem fns_R04_Add_ok : FnsOk Go.Proofs.Tryd.prog fns_R04_Add := FnsOk.cons c_R04_Of (FnsOk.nil _)
def kp_R04_Add : List (Nat × List Nat) := [(0, [0, 1]), (1, [4]), (4000000, []), (4000001, [])]
def od_R04_Add : List (Nat × Ord) := [(1000092, .nil)]
noncomputable def E_R04_Add : Env := ⟨0, 0, et_R04_Add, tt_R04_Add, fns_R04_Add, [], od_R04_Add, kp_R04_Add, none, []⟩
set_option maxRecDepth 100000 in
set_option maxHeartbeats 40000000 in
theorem c_R04_Add : PCon Go.Proofs.Tryd.prog 99 lf_R04_Add := by
  rw [lq_R04_Add]
  refine lift_conR (E := E_R04_Add) (c := bodyOf Tryd.f99) (nt := 11) (rs := [.tmp 4]) (ts := [24]) (EnvC.sub (off := 0) (nt := 0) (ords := od_R04_Add) (keep := kp_R04_Add) (yl := none) tt_ok et_ok fns_R04_Add_ok (PrsOk.nil _) (ItsOk.nil _) tt_R04_Add_ok et_R04_Add_ok) (PrOk.of mixed_ok) Go.Proofs.Tryd.func99 rfl (by decide) rfl rfl rfl (pureR_one (e := (.sl (.int .i64))) rfl) ?_
  intro x r hw hs
  repeat'
    (try (conv => whnf)
     first
       | (with_reducible have hs := letv_out hs)
       | (refine draw_and (by kernel_rfl) ?_)
       | (refine both_mk ?_ ?_)
       | (refine br_bool (fun h => ?_) (fun h => ?_) <;> first | have hs := cT h hs | have hs := cF h hs)
       | (refine bind_elim hs fun v hb hs => ?_; first | refine ck_R04_Of rfl hb ?_)
       | refine chk_elim hs fun hs => ?_
       | (have hs := letv_out hs)
       | exact fin_some hs rfl
       | (intro b hb; first | have hs := nilq_elim hs b hb | have hs := nilqn_elim hs b hb)
       | (have hs := cT rfl hs)
       | (have hs := cF rfl hs)
       | exact (none_ne hs).elim)
theorem cq_R04_Add : PCon Go.Proofs.Tryd.prog 99 (liftF (.pair (.sl (.int .i64)) (.pair (.int .i64) .unit)) (unpack (.sl (.int .i64))) (fun x => R04_Add x.1 x.2.1)) := lq_R04_Add ▸ c_R04_Add
noncomputable def lf_R04_Drop : List AV → Option AV := liftF (.pair (.sl (.int .i64)) (.pair (.int .i64) .unit)) (unpack (.sl (.int .i64))) (fun x => R04_Drop x.1 x.2.1)
theorem lq_R04_Drop : lf_R04_Drop = liftF (.pair (.sl (.int .i64)) (.pair (.int .i64) .unit)) (unpack (.sl (.int .i64))) (fun x => R04_Drop x.1 x.2.1) := rfl
attribute [irreducible] lf_R04_Drop
theorem ck_R04_Drop {vs : List AV} {k : AV → Prop} {x : ((.pair (.sl (.int .i64)) (.pair (.int .i64) .unit)) : Ty).den} {v : List Int} (h1 : pks (.pair (.sl (.int .i64)) (.pair (.int .i64) .unit)) vs = some x) (h2 : R04_Drop x.1 x.2.1 = some v) (h3 : k ((unpack (.sl (.int .i64))) v)) : callK (lf_R04_Drop vs) k := by
  rw [lq_R04_Drop]; exact callK_lift h1 h2 h3
def tt_R04_Drop : List (Nat × Ty) := [(3, .int .i64), (24, .sl (.int .i64))]
def et_R04_Drop : List (Nat × Nat) := [(24, 3)]
theorem tt_R04_Drop_ok : subT tt tt_R04_Drop = true := by kernel_rfl
theorem et_R04_Drop_ok : subE et et_R04_Drop = true := by kernel_rfl
noncomputable def fns_R04_Drop : List (Nat × (List AV → Option AV)) := []
theorem fns_R04_Drop_ok : FnsOk Go.Proofs.Tryd.prog fns_R04_Drop := FnsOk.nil _
def R04_Drop_S1 (u0 : AV) (u1 : AV) (u2 : AV) (x1 : Int × List Int) : St :=
  ⟨[(0, u0), (1, u1), (5, u2), (6, .int .i64 x1.1)], [(25, .row 3 (.int .i64) x1.2 false)], none⟩
def R04_Drop_M1 : Msk := ⟨[0, 1, 5, 6], [25], [(5, 25, 24)], [], [], [], [], [], []⟩
def kp_R04_Drop : List (Nat × List Nat) := [(0, [0, 1]), (1, [0, 1, 5]), (2, [0, 1, 5, 6]), (3, [0, 1, 5, 6, 10]), (4, [0, 1, 5, 6]), (5, [0, 1, 5, 6, 18]), (6, [0, 1, 5, 6]), (7, [4]), (4000000, []), (4000001, []), (4000002, []), (4000003, [25]), (4000004, [25]), (4000005, [25]), (4000006, [25]), (4000007, [25])]
def od_R04_Drop : List (Nat × Ord) := []
noncomputable def E_R04_Drop : Env := ⟨0, 0, et_R04_Drop, tt_R04_Drop, fns_R04_Drop, [], od_R04_Drop, kp_R04_Drop, none, []⟩
set_option maxRecDepth 100000 in
set_option maxHeartbeats 40000000 in
theorem c_R04_Drop : PCon Go.Proofs.Tryd.prog 101 lf_R04_Drop := by
  rw [lq_R04_Drop]
  refine lift_conR (E := E_R04_Drop) (c := bodyOf Tryd.f101) (nt := 27) (rs := [.tmp 4]) (ts := [24]) (EnvC.sub (off := 0) (nt := 0) (ords := od_R04_Drop) (keep := kp_R04_Drop) (yl := none) tt_ok et_ok fns_R04_Drop_ok (PrsOk.nil _) (ItsOk.nil _) tt_R04_Drop_ok et_R04_Drop_ok) (PrOk.of mixed_ok) Go.Proofs.Tryd.func101 rfl (by decide) rfl rfl rfl (pureR_one (e := (.sl (.int .i64))) rfl) ?_
  intro x r hw hs
  repeat'
    (try (conv => whnf)
     first
       | (with_reducible have hs := letv_out hs)
       | (refine draw_and (by kernel_rfl) ?_)
       | (refine both_mk ?_ ?_)
       | (refine br_bool (fun h => ?_) (fun h => ?_) <;> first | have hs := cT h hs | have hs := cF h hs)
       | refine chk_elim hs fun hs => ?_
       | (have hs := letv_out hs)
       | exact fin_some hs rfl
       | (intro b hb; first | have hs := nilq_elim hs b hb | have hs := nilqn_elim hs b hb)
       | exact hJ1 _ hs
       | (have hs := cT rfl hs)
       | (have hs := cF rfl hs)
       | (refine vc_loopR (R04_Drop_S1 _ _ _) R04_Drop_M1 hs rfl ?_; intro J1 k1 x1 hJ1 hs)
       | exact (none_ne hs).elim)
theorem cq_R04_Drop : PCon Go.Proofs.Tryd.prog 101 (liftF (.pair (.sl (.int .i64)) (.pair (.int .i64) .unit)) (unpack (.sl (.int .i64))) (fun x => R04_Drop x.1 x.2.1)) := lq_R04_Drop ▸ c_R04_Drop
end Go.Proofs.YtkpobmmabmelfaaDoorV
