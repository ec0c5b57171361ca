import Derived.Test.YtejedlpnejjnbaaSVcTab
import Derived.Test.YtejedlpnejjnbaaSDproc
import Derived.Test.YtejedlpnejjnbaaSCbase
import Derived.Test.YtejedlpnejjnbaaSCframe
import Derived.Test.YtejedlpnejjnbaaSChandle
namespace Go.Proofs.YtejedlpnejjnbaaSV
open Go.Proofs
set_option linter.unusedVariables false
noncomputable def lf_proc_bare : List AV → Option AV := liftF (.pair (.pair (.int .i64) (.pair .bool (.pair (.int .i64) (.pair (.pair (.int .i64) (.pair .bool (.pair (.arr 8 (.int .i64)) (.pair (.arr 16 (.int .i64)) (.pair (.int .i64) (.pair (.arr 8 (.int .i64)) .unit)))))) (.pair (.int .i64) (.pair (.int .i64) (.pair (.int .i64) (.pair (.sl (.pair (.int .i64) (.pair (.int .i64) (.pair (.int .i64) (.pair (.int .i64) (.pair (.int .i64) .unit)))))) .unit)))))))) .unit) (unpack .bool) (fun x => proc_bare x.1)
theorem lq_proc_bare : lf_proc_bare = liftF (.pair (.pair (.int .i64) (.pair .bool (.pair (.int .i64) (.pair (.pair (.int .i64) (.pair .bool (.pair (.arr 8 (.int .i64)) (.pair (.arr 16 (.int .i64)) (.pair (.int .i64) (.pair (.arr 8 (.int .i64)) .unit)))))) (.pair (.int .i64) (.pair (.int .i64) (.pair (.int .i64) (.pair (.sl (.pair (.int .i64) (.pair (.int .i64) (.pair (.int .i64) (.pair (.int .i64) (.pair (.int .i64) .unit)))))) .unit)))))))) .unit) (unpack .bool) (fun x => proc_bare x.1) := rfl
attribute [irreducible] lf_proc_bare
theorem ck_proc_bare {vs : List AV} {k : AV → Prop} {x : ((.pair (.pair (.int .i64) (.pair .bool (.pair (.int .i64) (.pair (.pair (.int .i64) (.pair .bool (.pair (.arr 8 (.int .i64)) (.pair (.arr 16 (.int .i64)) (.pair (.int .i64) (.pair (.arr 8 (.int .i64)) .unit)))))) (.pair (.int .i64) (.pair (.int .i64) (.pair (.int .i64) (.pair (.sl (.pair (.int .i64) (.pair (.int .i64) (.pair (.int .i64) (.pair (.int .i64) (.pair (.int .i64) .unit)))))) .unit)))))))) .unit) : Ty).den} {v : Bool} (h1 : pks (.pair (.pair (.int .i64) (.pair .bool (.pair (.int .i64) (.pair (.pair (.int .i64) (.pair .bool (.pair (.arr 8 (.int .i64)) (.pair (.arr 16 (.int .i64)) (.pair (.int .i64) (.pair (.arr 8 (.int .i64)) .unit)))))) (.pair (.int .i64) (.pair (.int .i64) (.pair (.int .i64) (.pair (.sl (.pair (.int .i64) (.pair (.int .i64) (.pair (.int .i64) (.pair (.int .i64) (.pair (.int .i64) .unit)))))) .unit)))))))) .unit) vs = some x) (h2 : proc_bare x.1 = some v) (h3 : k ((unpack .bool) v)) : callK (lf_proc_bare vs) k := by
  rw [lq_proc_bare]; exact callK_lift h1 h2 h3
def tt_proc_bare : List (Nat × Ty) := [(3, .int .i64), (4, .bool), (64, .sl (.pair (.int .i64) (.pair (.int .i64) (.pair (.int .i64) (.pair (.int .i64) (.pair (.int .i64) .unit)))))), (67, .pair (.int .i64) (.pair .bool (.pair (.arr 8 (.int .i64)) (.pair (.arr 16 (.int .i64)) (.pair (.int .i64) (.pair (.arr 8 (.int .i64)) .unit)))))), (69, .pair (.int .i64) (.pair .bool (.pair (.int .i64) (.pair (.pair (.int .i64) (.pair .bool (.pair (.arr 8 (.int .i64)) (.pair (.arr 16 (.int .i64)) (.pair (.int .i64) (.pair (.arr 8 (.int .i64)) .unit)))))) (.pair (.int .i64) (.pair (.int .i64) (.pair (.int .i64) (.pair (.sl (.pair (.int .i64) (.pair (.int .i64) (.pair (.int .i64) (.pair (.int .i64) (.pair (.int .i64) .unit)))))) .unit))))))))]
def et_proc_bare : List (Nat × Nat) := [(64, 90)]
theorem tt_proc_bare_ok : subT tt tt_proc_bare = true := by kernel_rfl
theorem et_proc_bare_ok : subE et et_proc_bare = true := by kernel_rfl
noncomputable def fns_proc_bare : List (Nat × (List AV → Option AV)) := []
theorem fns_proc_bare_ok : FnsOk Go.Proofs.Try.prog fns_proc_bare := FnsOk.nil _
def kp_proc_bare : List (Nat × List Nat) := [(0, [1]), (1, [2]), (4000000, [1]), (4000001, [])]
def od_proc_bare : List (Nat × Ord) := []
noncomputable def E_proc_bare : Env := ⟨0, 0, et_proc_bare, tt_proc_bare, fns_proc_bare, [], od_proc_bare, kp_proc_bare, none, []⟩
set_option maxRecDepth 100000 in
set_option maxHeartbeats 40000000 in
theorem c_proc_bare : PCon Go.Proofs.Try.prog 49 lf_proc_bare := by
  rw [lq_proc_bare]
  refine lift_conR (E := E_proc_bare) (c := bodyOf Try.f49) (nt := 33) (rs := [.tmp 2]) (ts := [4]) (EnvC.sub (off := 0) (nt := 0) (ords := od_proc_bare) (keep := kp_proc_bare) (yl := none) tt_ok et_ok fns_proc_bare_ok (PrsOk.nil _) (ItsOk.nil _) tt_proc_bare_ok et_proc_bare_ok) (PrOk.of mixed_ok) Go.Proofs.Try.func49 rfl (by decide) rfl rfl rfl (pureR_one (e := .bool) rfl) ?_
  intro x r hw hs
  repeat'
    (try (conv => whnf)
     first
       | (with_reducible have hs := letv_out hs)
       | (refine draw_and (by kernel_rfl) ?_)
       | (refine both_mk ?_ ?_)
       | (refine br_bool (fun h => ?_) (fun h => ?_) <;> first | have hs := cT h hs | have hs := cF h hs)
       | refine chk_elim hs fun hs => ?_
       | (have hs := letv_out hs)
       | exact fin_some hs rfl
       | (intro b hb; first | have hs := nilq_elim hs b hb | have hs := nilqn_elim hs b hb)
       | (have hs := cT rfl hs)
       | (have hs := cF rfl hs)
       | exact (none_ne hs).elim)
theorem cq_proc_bare : PCon Go.Proofs.Try.prog 49 (liftF (.pair (.pair (.int .i64) (.pair .bool (.pair (.int .i64) (.pair (.pair (.int .i64) (.pair .bool (.pair (.arr 8 (.int .i64)) (.pair (.arr 16 (.int .i64)) (.pair (.int .i64) (.pair (.arr 8 (.int .i64)) .unit)))))) (.pair (.int .i64) (.pair (.int .i64) (.pair (.int .i64) (.pair (.sl (.pair (.int .i64) (.pair (.int .i64) (.pair (.int .i64) (.pair (.int .i64) (.pair (.int .i64) .unit)))))) .unit)))))))) .unit) (unpack .bool) (fun x => proc_bare x.1)) := lq_proc_bare ▸ c_proc_bare
noncomputable def lf_proc_one : List AV → Option AV := liftF (.pair (.pair (.int .i64) (.pair .bool (.pair (.int .i64) (.pair (.pair (.int .i64) (.pair .bool (.pair (.arr 8 (.int .i64)) (.pair (.arr 16 (.int .i64)) (.pair (.int .i64) (.pair (.arr 8 (.int .i64)) .unit)))))) (.pair (.int .i64) (.pair (.int .i64) (.pair (.int .i64) (.pair (.sl (.pair (.int .i64) (.pair (.int .i64) (.pair (.int .i64) (.pair (.int .i64) (.pair (.int .i64) .unit)))))) .unit)))))))) .unit) (unpack .bool) (fun x => proc_one x.1)
theorem lq_proc_one : lf_proc_one = liftF (.pair (.pair (.int .i64) (.pair .bool (.pair (.int .i64) (.pair (.pair (.int .i64) (.pair .bool (.pair (.arr 8 (.int .i64)) (.pair (.arr 16 (.int .i64)) (.pair (.int .i64) (.pair (.arr 8 (.int .i64)) .unit)))))) (.pair (.int .i64) (.pair (.int .i64) (.pair (.int .i64) (.pair (.sl (.pair (.int .i64) (.pair (.int .i64) (.pair (.int .i64) (.pair (.int .i64) (.pair (.int .i64) .unit)))))) .unit)))))))) .unit) (unpack .bool) (fun x => proc_one x.1) := rfl
attribute [irreducible] lf_proc_one
theorem ck_proc_one {vs : List AV} {k : AV → Prop} {x : ((.pair (.pair (.int .i64) (.pair .bool (.pair (.int .i64) (.pair (.pair (.int .i64) (.pair .bool (.pair (.arr 8 (.int .i64)) (.pair (.arr 16 (.int .i64)) (.pair (.int .i64) (.pair (.arr 8 (.int .i64)) .unit)))))) (.pair (.int .i64) (.pair (.int .i64) (.pair (.int .i64) (.pair (.sl (.pair (.int .i64) (.pair (.int .i64) (.pair (.int .i64) (.pair (.int .i64) (.pair (.int .i64) .unit)))))) .unit)))))))) .unit) : Ty).den} {v : Bool} (h1 : pks (.pair (.pair (.int .i64) (.pair .bool (.pair (.int .i64) (.pair (.pair (.int .i64) (.pair .bool (.pair (.arr 8 (.int .i64)) (.pair (.arr 16 (.int .i64)) (.pair (.int .i64) (.pair (.arr 8 (.int .i64)) .unit)))))) (.pair (.int .i64) (.pair (.int .i64) (.pair (.int .i64) (.pair (.sl (.pair (.int .i64) (.pair (.int .i64) (.pair (.int .i64) (.pair (.int .i64) (.pair (.int .i64) .unit)))))) .unit)))))))) .unit) vs = some x) (h2 : proc_one x.1 = some v) (h3 : k ((unpack .bool) v)) : callK (lf_proc_one vs) k := by
  rw [lq_proc_one]; exact callK_lift h1 h2 h3
def tt_proc_one : List (Nat × Ty) := [(3, .int .i64), (4, .bool), (64, .sl (.pair (.int .i64) (.pair (.int .i64) (.pair (.int .i64) (.pair (.int .i64) (.pair (.int .i64) .unit)))))), (67, .pair (.int .i64) (.pair .bool (.pair (.arr 8 (.int .i64)) (.pair (.arr 16 (.int .i64)) (.pair (.int .i64) (.pair (.arr 8 (.int .i64)) .unit)))))), (69, .pair (.int .i64) (.pair .bool (.pair (.int .i64) (.pair (.pair (.int .i64) (.pair .bool (.pair (.arr 8 (.int .i64)) (.pair (.arr 16 (.int .i64)) (.pair (.int .i64) (.pair (.arr 8 (.int .i64)) .unit)))))) (.pair (.int .i64) (.pair (.int .i64) (.pair (.int .i64) (.pair (.sl (.pair (.int .i64) (.pair (.int .i64) (.pair (.int .i64) (.pair (.int .i64) (.pair (.int .i64) .unit)))))) .unit))))))))]
def et_proc_one : List (Nat × Nat) := [(64, 90)]
theorem tt_proc_one_ok : subT tt tt_proc_one = true := by kernel_rfl
theorem et_proc_one_ok : subE et et_proc_one = true := by kernel_rfl
noncomputable def fns_proc_one : List (Nat × (List AV → Option AV)) := [(49, lf_proc_bare), (50, lf_frame_Fine)]
theorem fns_proc_one_ok : FnsOk Go.Proofs.Try.prog fns_proc_one := FnsOk.cons c_proc_bare (FnsOk.cons c_frame_Fine (FnsOk.nil _))
def kp_proc_one : List (Nat × List Nat) := [(0, [1]), (1, [1, 10]), (2, [2]), (3, [1, 13]), (4, [2]), (5, [2]), (4000000, [1]), (4000001, [1]), (4000002, []), (4000003, [1]), (4000004, []), (4000005, [])]
def od_proc_one : List (Nat × Ord) := []
noncomputable def E_proc_one : Env := ⟨0, 0, et_proc_one, tt_proc_one, fns_proc_one, [], od_proc_one, kp_proc_one, none, []⟩
set_option maxRecDepth 100000 in
set_option maxHeartbeats 40000000 in
theorem c_proc_one : PCon Go.Proofs.Try.prog 32 lf_proc_one := by
  rw [lq_proc_one]
  refine lift_conR (E := E_proc_one) (c := bodyOf Try.f32) (nt := 44) (rs := [.tmp 2]) (ts := [4]) (EnvC.sub (off := 0) (nt := 0) (ords := od_proc_one) (keep := kp_proc_one) (yl := none) tt_ok et_ok fns_proc_one_ok (PrsOk.nil _) (ItsOk.nil _) tt_proc_one_ok et_proc_one_ok) (PrOk.of mixed_ok) Go.Proofs.Try.func32 rfl (by decide) rfl rfl rfl (pureR_one (e := .bool) rfl) ?_
  intro x r hw hs
  repeat'
    (try (conv => whnf)
     first
       | (with_reducible have hs := letv_out hs)
       | (refine draw_and (by kernel_rfl) ?_)
       | (refine both_mk ?_ ?_)
       | (refine br_bool (fun h => ?_) (fun h => ?_) <;> first | have hs := cT h hs | have hs := cF h hs)
       | (refine bind_elim hs fun v hb hs => ?_; first | refine ck_proc_bare rfl hb ?_ | refine ck_frame_Fine rfl hb ?_)
       | refine chk_elim hs fun hs => ?_
       | (have hs := letv_out hs)
       | exact fin_some hs rfl
       | (intro b hb; first | have hs := nilq_elim hs b hb | have hs := nilqn_elim hs b hb)
       | (have hs := cT rfl hs)
       | (have hs := cF rfl hs)
       | exact (none_ne hs).elim)
theorem cq_proc_one : PCon Go.Proofs.Try.prog 32 (liftF (.pair (.pair (.int .i64) (.pair .bool (.pair (.int .i64) (.pair (.pair (.int .i64) (.pair .bool (.pair (.arr 8 (.int .i64)) (.pair (.arr 16 (.int .i64)) (.pair (.int .i64) (.pair (.arr 8 (.int .i64)) .unit)))))) (.pair (.int .i64) (.pair (.int .i64) (.pair (.int .i64) (.pair (.sl (.pair (.int .i64) (.pair (.int .i64) (.pair (.int .i64) (.pair (.int .i64) (.pair (.int .i64) .unit)))))) .unit)))))))) .unit) (unpack .bool) (fun x => proc_one x.1)) := lq_proc_one ▸ c_proc_one
noncomputable def lf_proc_Fine : List AV → Option AV := liftF (.pair (.sl (.pair (.int .i64) (.pair .bool (.pair (.int .i64) (.pair (.pair (.int .i64) (.pair .bool (.pair (.arr 8 (.int .i64)) (.pair (.arr 16 (.int .i64)) (.pair (.int .i64) (.pair (.arr 8 (.int .i64)) .unit)))))) (.pair (.int .i64) (.pair (.int .i64) (.pair (.int .i64) (.pair (.sl (.pair (.int .i64) (.pair (.int .i64) (.pair (.int .i64) (.pair (.int .i64) (.pair (.int .i64) .unit)))))) .unit))))))))) .unit) (unpack .bool) (fun x => proc_Fine x.1)
theorem lq_proc_Fine : lf_proc_Fine = liftF (.pair (.sl (.pair (.int .i64) (.pair .bool (.pair (.int .i64) (.pair (.pair (.int .i64) (.pair .bool (.pair (.arr 8 (.int .i64)) (.pair (.arr 16 (.int .i64)) (.pair (.int .i64) (.pair (.arr 8 (.int .i64)) .unit)))))) (.pair (.int .i64) (.pair (.int .i64) (.pair (.int .i64) (.pair (.sl (.pair (.int .i64) (.pair (.int .i64) (.pair (.int .i64) (.pair (.int .i64) (.pair (.int .i64) .unit)))))) .unit))))))))) .unit) (unpack .bool) (fun x => proc_Fine x.1) := rfl
attribute [irreducible] lf_proc_Fine
theorem ck_proc_Fine {vs : List AV} {k : AV → Prop} {x : ((.pair (.sl (.pair (.int .i64) (.pair .bool (.pair (.int .i64) (.pair (.pair (.int .i64) (.pair .bool (.pair (.arr 8 (.int .i64)) (.pair (.arr 16 (.int .i64)) (.pair (.int .i64) (.pair (.arr 8 (.int .i64)) .unit)))))) (.pair (.int .i64) (.pair (.int .i64) (.pair (.int .i64) (.pair (.sl (.pair (.int .i64) (.pair (.int .i64) (.pair (.int .i64) (.pair (.int .i64) (.pair (.int .i64) .unit)))))) .unit))))))))) .unit) : Ty).den} {v : Bool} (h1 : pks (.pair (.sl (.pair (.int .i64) (.pair .bool (.pair (.int .i64) (.pair (.pair (.int .i64) (.pair .bool (.pair (.arr 8 (.int .i64)) (.pair (.arr 16 (.int .i64)) (.pair (.int .i64) (.pair (.arr 8 (.int .i64)) .unit)))))) (.pair (.int .i64) (.pair (.int .i64) (.pair (.int .i64) (.pair (.sl (.pair (.int .i64) (.pair (.int .i64) (.pair (.int .i64) (.pair (.int .i64) (.pair (.int .i64) .unit)))))) .unit))))))))) .unit) vs = some x) (h2 : proc_Fine x.1 = some v) (h3 : k ((unpack .bool) v)) : callK (lf_proc_Fine vs) k := by
  rw [lq_proc_Fine]; exact callK_lift h1 h2 h3
def tt_proc_Fine : List (Nat × Ty) := [(3, .int .i64), (4, .bool), (25, .sl (.pair (.int .i64) (.pair .bool (.pair (.int .i64) (.pair (.pair (.int .i64) (.pair .bool (.pair (.arr 8 (.int .i64)) (.pair (.arr 16 (.int .i64)) (.pair (.int .i64) (.pair (.arr 8 (.int .i64)) .unit)))))) (.pair (.int .i64) (.pair (.int .i64) (.pair (.int .i64) (.pair (.sl (.pair (.int .i64) (.pair (.int .i64) (.pair (.int .i64) (.pair (.int .i64) (.pair (.int .i64) .unit)))))) .unit))))))))), (69, .pair (.int .i64) (.pair .bool (.pair (.int .i64) (.pair (.pair (.int .i64) (.pair .bool (.pair (.arr 8 (.int .i64)) (.pair (.arr 16 (.int .i64)) (.pair (.int .i64) (.pair (.arr 8 (.int .i64)) .unit)))))) (.pair (.int .i64) (.pair (.int .i64) (.pair (.int .i64) (.pair (.sl (.pair (.int .i64) (.pair (.int .i64) (.pair (.int .i64) (.pair (.int .i64) (.pair (.int .i64) .unit)))))) .unit))))))))]
def et_proc_Fine : List (Nat × Nat) := [(25, 69)]
theorem tt_proc_Fine_ok : subT tt tt_proc_Fine = true := by kernel_rfl
theorem et_proc_Fine_ok : subE et et_proc_Fine = true := by kernel_rfl
noncomputable def fns_proc_Fine : List (Nat × (List AV → Option AV)) := [(32, lf_proc_one)]
theorem fns_proc_Fine_ok : FnsOk Go.Proofs.Try.prog fns_proc_Fine := FnsOk.cons c_proc_one (FnsOk.nil _)
def proc_Fine_S1 (u0 : AV) (u1 : AV) (u2 : AV) (x1 : Int) : St :=
  ⟨[(0, u0), (5, u1), (6, u2), (7, .int .i64 x1)], [], none⟩
def proc_Fine_M1 : Msk := ⟨[0, 5, 6, 7], [], [], [], [], [], [], [], [], [], []⟩
def kp_proc_Fine : List (Nat × List Nat) := [(0, [0]), (1, [0, 5, 6, 7]), (2, [0, 5, 6, 7, 8]), (3, [0, 4, 5, 6, 7]), (4, [0, 5, 6, 7, 13]), (5, [2]), (6, [0, 5, 6, 7]), (7, [2]), (4000000, []), (4000001, []), (4000002, []), (4000003, [4]), (4000004, []), (4000005, []), (4000006, []), (4000007, [])]
def od_proc_Fine : List (Nat × Ord) := []
noncomputable def E_proc_Fine : Env := ⟨0, 0, et_proc_Fine, tt_proc_Fine, fns_proc_Fine, [], od_proc_Fine, kp_proc_Fine, none, []⟩
set_option maxRecDepth 100000 in
set_option maxHeartbeats 40000000 in
theorem c_proc_Fine : PCon Go.Proofs.Try.prog 11 lf_proc_Fine := by
  rw [lq_proc_Fine]
  refine lift_conR (E := E_proc_Fine) (c := bodyOf Try.f11) (nt := 18) (rs := [.tmp 2]) (ts := [4]) (EnvC.sub (off := 0) (nt := 0) (ords := od_proc_Fine) (keep := kp_proc_Fine) (yl := none) tt_ok et_ok fns_proc_Fine_ok (PrsOk.nil _) (ItsOk.nil _) tt_proc_Fine_ok et_proc_Fine_ok) (PrOk.of mixed_ok) Go.Proofs.Try.func11 rfl (by decide) rfl rfl rfl (pureR_one (e := .bool) rfl) ?_
  intro x r hw hs
  repeat'
    (try (conv => whnf)
     first
       | (with_reducible have hs := letv_out hs)
       | (refine draw_and (by kernel_rfl) ?_)
       | (refine both_mk ?_ ?_)
       | (refine br_bool (fun h => ?_) (fun h => ?_) <;> first | have hs := cT h hs | have hs := cF h hs)
       | (refine bind_elim hs fun v hb hs => ?_; first | refine ck_proc_one rfl hb ?_)
       | refine chk_elim hs fun hs => ?_
       | (have hs := letv_out hs)
       | exact fin_some hs rfl
       | (intro b hb; first | have hs := nilq_elim hs b hb | have hs := nilqn_elim hs b hb)
       | exact hJ1 _ hs
       | (have hs := cT rfl hs)
       | (have hs := cF rfl hs)
       | ((with_reducible have hs : loop (proc_Fine_L1 _ _) _ = some _ := hs); refine vc_loopR (proc_Fine_S1 _ _ _) proc_Fine_M1 hs rfl ?_; intro J1 k1 x1 hJ1 hs)
       | (refine vc_loopR (proc_Fine_S1 _ _ _) proc_Fine_M1 hs rfl ?_; intro J1 k1 x1 hJ1 hs)
       | exact (none_ne hs).elim)
theorem cq_proc_Fine : PCon Go.Proofs.Try.prog 11 (liftF (.pair (.sl (.pair (.int .i64) (.pair .bool (.pair (.int .i64) (.pair (.pair (.int .i64) (.pair .bool (.pair (.arr 8 (.int .i64)) (.pair (.arr 16 (.int .i64)) (.pair (.int .i64) (.pair (.arr 8 (.int .i64)) .unit)))))) (.pair (.int .i64) (.pair (.int .i64) (.pair (.int .i64) (.pair (.sl (.pair (.int .i64) (.pair (.int .i64) (.pair (.int .i64) (.pair (.int .i64) (.pair (.int .i64) .unit)))))) .unit))))))))) .unit) (unpack .bool) (fun x => proc_Fine x.1)) := lq_proc_Fine ▸ c_proc_Fine
noncomputable def lf_proc_Find : List AV → Option AV := liftF (.pair (.sl (.pair (.int .i64) (.pair .bool (.pair (.int .i64) (.pair (.pair (.int .i64) (.pair .bool (.pair (.arr 8 (.int .i64)) (.pair (.arr 16 (.int .i64)) (.pair (.int .i64) (.pair (.arr 8 (.int .i64)) .unit)))))) (.pair (.int .i64) (.pair (.int .i64) (.pair (.int .i64) (.pair (.sl (.pair (.int .i64) (.pair (.int .i64) (.pair (.int .i64) (.pair (.int .i64) (.pair (.int .i64) .unit)))))) .unit))))))))) (.pair (.int .i64) .unit)) (unpR (.pair (.int .i64) (.pair (.int .i64) .unit))) (fun x => proc_Find x.1 x.2.1)
theorem lq_proc_Find : lf_proc_Find = liftF (.pair (.sl (.pair (.int .i64) (.pair .bool (.pair (.int .i64) (.pair (.pair (.int .i64) (.pair .bool (.pair (.arr 8 (.int .i64)) (.pair (.arr 16 (.int .i64)) (.pair (.int .i64) (.pair (.arr 8 (.int .i64)) .unit)))))) (.pair (.int .i64) (.pair (.int .i64) (.pair (.int .i64) (.pair (.sl (.pair (.int .i64) (.pair (.int .i64) (.pair (.int .i64) (.pair (.int .i64) (.pair (.int .i64) .unit)))))) .unit))))))))) (.pair (.int .i64) .unit)) (unpR (.pair (.int .i64) (.pair (.int .i64) .unit))) (fun x => proc_Find x.1 x.2.1) := rfl
attribute [irreducible] lf_proc_Find
theorem ck_proc_Find {vs : List AV} {k : AV → Prop} {x : ((.pair (.sl (.pair (.int .i64) (.pair .bool (.pair (.int .i64) (.pair (.pair (.int .i64) (.pair .bool (.pair (.arr 8 (.int .i64)) (.pair (.arr 16 (.int .i64)) (.pair (.int .i64) (.pair (.arr 8 (.int .i64)) .unit)))))) (.pair (.int .i64) (.pair (.int .i64) (.pair (.int .i64) (.pair (.sl (.pair (.int .i64) (.pair (.int .i64) (.pair (.int .i64) (.pair (.int .i64) (.pair (.int .i64) .unit)))))) .unit))))))))) (.pair (.int .i64) .unit)) : Ty).den} {v : Int × Int × Unit} (h1 : pks (.pair (.sl (.pair (.int .i64) (.pair .bool (.pair (.int .i64) (.pair (.pair (.int .i64) (.pair .bool (.pair (.arr 8 (.int .i64)) (.pair (.arr 16 (.int .i64)) (.pair (.int .i64) (.pair (.arr 8 (.int .i64)) .unit)))))) (.pair (.int .i64) (.pair (.int .i64) (.pair (.int .i64) (.pair (.sl (.pair (.int .i64) (.pair (.int .i64) (.pair (.int .i64) (.pair (.int .i64) (.pair (.int .i64) .unit)))))) .unit))))))))) (.pair (.int .i64) .unit)) vs = some x) (h2 : proc_Find x.1 x.2.1 = some v) (h3 : k ((unpR (.pair (.int .i64) (.pair (.int .i64) .unit))) v)) : callK (lf_proc_Find vs) k := by
  rw [lq_proc_Find]; exact callK_lift h1 h2 h3
def tt_proc_Find : List (Nat × Ty) := [(3, .int .i64), (4, .bool), (25, .sl (.pair (.int .i64) (.pair .bool (.pair (.int .i64) (.pair (.pair (.int .i64) (.pair .bool (.pair (.arr 8 (.int .i64)) (.pair (.arr 16 (.int .i64)) (.pair (.int .i64) (.pair (.arr 8 (.int .i64)) .unit)))))) (.pair (.int .i64) (.pair (.int .i64) (.pair (.int .i64) (.pair (.sl (.pair (.int .i64) (.pair (.int .i64) (.pair (.int .i64) (.pair (.int .i64) (.pair (.int .i64) .unit)))))) .unit))))))))), (27, .int .i64), (69, .pair (.int .i64) (.pair .bool (.pair (.int .i64) (.pair (.pair (.int .i64) (.pair .bool (.pair (.arr 8 (.int .i64)) (.pair (.arr 16 (.int .i64)) (.pair (.int .i64) (.pair (.arr 8 (.int .i64)) .unit)))))) (.pair (.int .i64) (.pair (.int .i64) (.pair (.int .i64) (.pair (.sl (.pair (.int .i64) (.pair (.int .i64) (.pair (.int .i64) (.pair (.int .i64) (.pair (.int .i64) .unit)))))) .unit))))))))]
def et_proc_Find : List (Nat × Nat) := [(25, 69)]
theorem tt_proc_Find_ok : subT tt tt_proc_Find = true := by kernel_rfl
theorem et_proc_Find_ok : subE et et_proc_Find = true := by kernel_rfl
noncomputable def fns_proc_Find : List (Nat × (List AV → Option AV)) := [(11, lf_proc_Fine), (29, lf_handle_Slot), (30, lf_handle_Gen)]
theorem fns_proc_Find_ok : FnsOk Go.Proofs.Try.prog fns_proc_Find := FnsOk.cons c_proc_Fine (FnsOk.cons c_handle_Slot (FnsOk.cons c_handle_Gen (FnsOk.nil _)))
def kp_proc_Find : List (Nat × List Nat) := [(0, [0, 1]), (1, [0, 1, 6]), (2, [0, 1, 6, 9]), (3, [4, 5]), (4, [0, 1, 6, 13]), (5, [4, 5]), (6, [6, 22]), (7, [4, 5]), (8, [4, 5]), (4000000, []), (4000001, []), (4000002, []), (4000003, []), (4000004, []), (4000005, []), (4000006, []), (4000007, []), (4000008, [])]
def od_proc_Find : List (Nat × Ord) := [(6, (.one 0 (.one 1 (.one 2 (.one 3 (.one 4 (.one 5 (.one 6 (.one 7 (.one 8 (.one 9 (.one 10 (.one 11 (.one 12 (.one 13 (.one 14 (.one 15 (.one 16 .nil))))))))))))))))))]
noncomputable def E_proc_Find : Env := ⟨0, 0, et_proc_Find, tt_proc_Find, fns_proc_Find, [], od_proc_Find, kp_proc_Find, none, []⟩
set_option maxRecDepth 100000 in
set_option maxHeartbeats 40000000 in
theorem c_proc_Find : PCon Go.Proofs.Try.prog 9 lf_proc_Find := by
  rw [lq_proc_Find]
  refine lift_conR (E := E_proc_Find) (c := bodyOf Try.f9) (nt := 40) (rs := [.tmp 4, .tmp 5]) (ts := [3, 27]) (EnvC.sub (off := 0) (nt := 0) (ords := od_proc_Find) (keep := kp_proc_Find) (yl := none) tt_ok et_ok fns_proc_Find_ok (PrsOk.nil _) (ItsOk.nil _) tt_proc_Find_ok et_proc_Find_ok) (PrOk.of mixed_ok) Go.Proofs.Try.func9 rfl (by decide) rfl rfl rfl (pureR_many (e := (.pair (.int .i64) (.pair (.int .i64) .unit))) rfl) ?_
  intro x r hw hs
  repeat'
    (try (conv => whnf)
     first
       | (with_reducible have hs := letv_out hs)
       | (refine draw_and (by kernel_rfl) ?_)
       | (refine both_mk ?_ ?_)
       | (refine br_bool (fun h => ?_) (fun h => ?_) <;> first | have hs := cT h hs | have hs := cF h hs)
       | (refine bind_elim hs fun v hb hs => ?_; first | refine ck_proc_Fine rfl hb ?_ | refine ck_handle_Slot rfl hb ?_ | refine ck_handle_Gen rfl hb ?_)
       | refine chk_elim hs fun hs => ?_
       | (have hs := letv_out hs)
       | exact fin_some hs rfl
       | (intro b hb; first | have hs := nilq_elim hs b hb | have hs := nilqn_elim hs b hb)
       | (have hs := cT rfl hs)
       | (have hs := cF rfl hs)
       | exact (none_ne hs).elim)
theorem cq_proc_Find : PCon Go.Proofs.Try.prog 9 (liftF (.pair (.sl (.pair (.int .i64) (.pair .bool (.pair (.int .i64) (.pair (.pair (.int .i64) (.pair .bool (.pair (.arr 8 (.int .i64)) (.pair (.arr 16 (.int .i64)) (.pair (.int .i64) (.pair (.arr 8 (.int .i64)) .unit)))))) (.pair (.int .i64) (.pair (.int .i64) (.pair (.int .i64) (.pair (.sl (.pair (.int .i64) (.pair (.int .i64) (.pair (.int .i64) (.pair (.int .i64) (.pair (.int .i64) .unit)))))) .unit))))))))) (.pair (.int .i64) .unit)) (unpR (.pair (.int .i64) (.pair (.int .i64) .unit))) (fun x => proc_Find x.1 x.2.1)) := lq_proc_Find ▸ c_proc_Find
noncomputable def lf_proc_there : List AV → Option AV := liftF (.pair (.sl (.pair (.int .i64) (.pair .bool (.pair (.int .i64) (.pair (.pair (.int .i64) (.pair .bool (.pair (.arr 8 (.int .i64)) (.pair (.arr 16 (.int .i64)) (.pair (.int .i64) (.pair (.arr 8 (.int .i64)) .unit)))))) (.pair (.int .i64) (.pair (.int .i64) (.pair (.int .i64) (.pair (.sl (.pair (.int .i64) (.pair (.int .i64) (.pair (.int .i64) (.pair (.int .i64) (.pair (.int .i64) .unit)))))) .unit))))))))) (.pair (.int .i64) .unit)) (unpack .bool) (fun x => proc_there x.1 x.2.1)
theorem lq_proc_there : lf_proc_there = liftF (.pair (.sl (.pair (.int .i64) (.pair .bool (.pair (.int .i64) (.pair (.pair (.int .i64) (.pair .bool (.pair (.arr 8 (.int .i64)) (.pair (.arr 16 (.int .i64)) (.pair (.int .i64) (.pair (.arr 8 (.int .i64)) .unit)))))) (.pair (.int .i64) (.pair (.int .i64) (.pair (.int .i64) (.pair (.sl (.pair (.int .i64) (.pair (.int .i64) (.pair (.int .i64) (.pair (.int .i64) (.pair (.int .i64) .unit)))))) .unit))))))))) (.pair (.int .i64) .unit)) (unpack .bool) (fun x => proc_there x.1 x.2.1) := rfl
attribute [irreducible] lf_proc_there
theorem ck_proc_there {vs : List AV} {k : AV → Prop} {x : ((.pair (.sl (.pair (.int .i64) (.pair .bool (.pair (.int .i64) (.pair (.pair (.int .i64) (.pair .bool (.pair (.arr 8 (.int .i64)) (.pair (.arr 16 (.int .i64)) (.pair (.int .i64) (.pair (.arr 8 (.int .i64)) .unit)))))) (.pair (.int .i64) (.pair (.int .i64) (.pair (.int .i64) (.pair (.sl (.pair (.int .i64) (.pair (.int .i64) (.pair (.int .i64) (.pair (.int .i64) (.pair (.int .i64) .unit)))))) .unit))))))))) (.pair (.int .i64) .unit)) : Ty).den} {v : Bool} (h1 : pks (.pair (.sl (.pair (.int .i64) (.pair .bool (.pair (.int .i64) (.pair (.pair (.int .i64) (.pair .bool (.pair (.arr 8 (.int .i64)) (.pair (.arr 16 (.int .i64)) (.pair (.int .i64) (.pair (.arr 8 (.int .i64)) .unit)))))) (.pair (.int .i64) (.pair (.int .i64) (.pair (.int .i64) (.pair (.sl (.pair (.int .i64) (.pair (.int .i64) (.pair (.int .i64) (.pair (.int .i64) (.pair (.int .i64) .unit)))))) .unit))))))))) (.pair (.int .i64) .unit)) vs = some x) (h2 : proc_there x.1 x.2.1 = some v) (h3 : k ((unpack .bool) v)) : callK (lf_proc_there vs) k := by
  rw [lq_proc_there]; exact callK_lift h1 h2 h3
def tt_proc_there : List (Nat × Ty) := [(3, .int .i64), (4, .bool), (25, .sl (.pair (.int .i64) (.pair .bool (.pair (.int .i64) (.pair (.pair (.int .i64) (.pair .bool (.pair (.arr 8 (.int .i64)) (.pair (.arr 16 (.int .i64)) (.pair (.int .i64) (.pair (.arr 8 (.int .i64)) .unit)))))) (.pair (.int .i64) (.pair (.int .i64) (.pair (.int .i64) (.pair (.sl (.pair (.int .i64) (.pair (.int .i64) (.pair (.int .i64) (.pair (.int .i64) (.pair (.int .i64) .unit)))))) .unit))))))))), (69, .pair (.int .i64) (.pair .bool (.pair (.int .i64) (.pair (.pair (.int .i64) (.pair .bool (.pair (.arr 8 (.int .i64)) (.pair (.arr 16 (.int .i64)) (.pair (.int .i64) (.pair (.arr 8 (.int .i64)) .unit)))))) (.pair (.int .i64) (.pair (.int .i64) (.pair (.int .i64) (.pair (.sl (.pair (.int .i64) (.pair (.int .i64) (.pair (.int .i64) (.pair (.int .i64) (.pair (.int .i64) .unit)))))) .unit))))))))]
def et_proc_there : List (Nat × Nat) := [(25, 69)]
theorem tt_proc_there_ok : subT tt tt_proc_there = true := by kernel_rfl
theorem et_proc_there_ok : subE et et_proc_there = true := by kernel_rfl
noncomputable def fns_proc_there : List (Nat × (List AV → Option AV)) := []
theorem fns_proc_there_ok : FnsOk Go.Proofs.Try.prog fns_proc_there := FnsOk.nil _
def kp_proc_there : List (Nat × List Nat) := [(0, [0, 1]), (1, [4]), (4000000, []), (4000001, [])]
def od_proc_there : List (Nat × Ord) := []
noncomputable def E_proc_there : Env := ⟨0, 0, et_proc_there, tt_proc_there, fns_proc_there, [], od_proc_there, kp_proc_there, none, []⟩
set_option maxRecDepth 100000 in
set_option maxHeartbeats 40000000 in
theorem c_proc_there : PCon Go.Proofs.Try.prog 35 lf_proc_there := by
  rw [lq_proc_there]
  refine lift_conR (E := E_proc_there) (c := bodyOf Try.f35) (nt := 20) (rs := [.tmp 4]) (ts := [4]) (EnvC.sub (off := 0) (nt := 0) (ords := od_proc_there) (keep := kp_proc_there) (yl := none) tt_ok et_ok fns_proc_there_ok (PrsOk.nil _) (ItsOk.nil _) tt_proc_there_ok et_proc_there_ok) (PrOk.of mixed_ok) Go.Proofs.Try.func35 rfl (by decide) rfl rfl rfl (pureR_one (e := .bool) rfl) ?_
  intro x r hw hs
  repeat'
    (try (conv => whnf)
     first
       | (with_reducible have hs := letv_out hs)
       | (refine draw_and (by kernel_rfl) ?_)
       | (refine both_mk ?_ ?_)
       | (refine br_bool (fun h => ?_) (fun h => ?_) <;> first | have hs := cT h hs | have hs := cF h hs)
       | refine chk_elim hs fun hs => ?_
       | (have hs := letv_out hs)
       | exact fin_some hs rfl
       | (intro b hb; first | have hs := nilq_elim hs b hb | have hs := nilqn_elim hs b hb)
       | (have hs := cT rfl hs)
       | (have hs := cF rfl hs)
       | exact (none_ne hs).elim)
theorem cq_proc_there : PCon Go.Proofs.Try.prog 35 (liftF (.pair (.sl (.pair (.int .i64) (.pair .bool (.pair (.int .i64) (.pair (.pair (.int .i64) (.pair .bool (.pair (.arr 8 (.int .i64)) (.pair (.arr 16 (.int .i64)) (.pair (.int .i64) (.pair (.arr 8 (.int .i64)) .unit)))))) (.pair (.int .i64) (.pair (.int .i64) (.pair (.int .i64) (.pair (.sl (.pair (.int .i64) (.pair (.int .i64) (.pair (.int .i64) (.pair (.int .i64) (.pair (.int .i64) .unit)))))) .unit))))))))) (.pair (.int .i64) .unit)) (unpack .bool) (fun x => proc_there x.1 x.2.1)) := lq_proc_there ▸ c_proc_there
noncomputable def lf_proc_Handle : List AV → Option AV := liftF (.pair (.sl (.pair (.int .i64) (.pair .bool (.pair (.int .i64) (.pair (.pair (.int .i64) (.pair .bool (.pair (.arr 8 (.int .i64)) (.pair (.arr 16 (.int .i64)) (.pair (.int .i64) (.pair (.arr 8 (.int .i64)) .unit)))))) (.pair (.int .i64) (.pair (.int .i64) (.pair (.int .i64) (.pair (.sl (.pair (.int .i64) (.pair (.int .i64) (.pair (.int .i64) (.pair (.int .i64) (.pair (.int .i64) .unit)))))) .unit))))))))) (.pair (.int .i64) .unit)) (unpack (.int .i64)) (fun x => proc_Handle x.1 x.2.1)
theorem lq_proc_Handle : lf_proc_Handle = liftF (.pair (.sl (.pair (.int .i64) (.pair .bool (.pair (.int .i64) (.pair (.pair (.int .i64) (.pair .bool (.pair (.arr 8 (.int .i64)) (.pair (.arr 16 (.int .i64)) (.pair (.int .i64) (.pair (.arr 8 (.int .i64)) .unit)))))) (.pair (.int .i64) (.pair (.int .i64) (.pair (.int .i64) (.pair (.sl (.pair (.int .i64) (.pair (.int .i64) (.pair (.int .i64) (.pair (.int .i64) (.pair (.int .i64) .unit)))))) .unit))))))))) (.pair (.int .i64) .unit)) (unpack (.int .i64)) (fun x => proc_Handle x.1 x.2.1) := rfl
attribute [irreducible] lf_proc_Handle
theorem ck_proc_Handle {vs : List AV} {k : AV → Prop} {x : ((.pair (.sl (.pair (.int .i64) (.pair .bool (.pair (.int .i64) (.pair (.pair (.int .i64) (.pair .bool (.pair (.arr 8 (.int .i64)) (.pair (.arr 16 (.int .i64)) (.pair (.int .i64) (.pair (.arr 8 (.int .i64)) .unit)))))) (.pair (.int .i64) (.pair (.int .i64) (.pair (.int .i64) (.pair (.sl (.pair (.int .i64) (.pair (.int .i64) (.pair (.int .i64) (.pair (.int .i64) (.pair (.int .i64) .unit)))))) .unit))))))))) (.pair (.int .i64) .unit)) : Ty).den} {v : Int} (h1 : pks (.pair (.sl (.pair (.int .i64) (.pair .bool (.pair (.int .i64) (.pair (.pair (.int .i64) (.pair .bool (.pair (.arr 8 (.int .i64)) (.pair (.arr 16 (.int .i64)) (.pair (.int .i64) (.pair (.arr 8 (.int .i64)) .unit)))))) (.pair (.int .i64) (.pair (.int .i64) (.pair (.int .i64) (.pair (.sl (.pair (.int .i64) (.pair (.int .i64) (.pair (.int .i64) (.pair (.int .i64) (.pair (.int .i64) .unit)))))) .unit))))))))) (.pair (.int .i64) .unit)) vs = some x) (h2 : proc_Handle x.1 x.2.1 = some v) (h3 : k ((unpack (.int .i64)) v)) : callK (lf_proc_Handle vs) k := by
  rw [lq_proc_Handle]; exact callK_lift h1 h2 h3
def tt_proc_Handle : List (Nat × Ty) := [(3, .int .i64), (4, .bool), (25, .sl (.pair (.int .i64) (.pair .bool (.pair (.int .i64) (.pair (.pair (.int .i64) (.pair .bool (.pair (.arr 8 (.int .i64)) (.pair (.arr 16 (.int .i64)) (.pair (.int .i64) (.pair (.arr 8 (.int .i64)) .unit)))))) (.pair (.int .i64) (.pair (.int .i64) (.pair (.int .i64) (.pair (.sl (.pair (.int .i64) (.pair (.int .i64) (.pair (.int .i64) (.pair (.int .i64) (.pair (.int .i64) .unit)))))) .unit))))))))), (69, .pair (.int .i64) (.pair .bool (.pair (.int .i64) (.pair (.pair (.int .i64) (.pair .bool (.pair (.arr 8 (.int .i64)) (.pair (.arr 16 (.int .i64)) (.pair (.int .i64) (.pair (.arr 8 (.int .i64)) .unit)))))) (.pair (.int .i64) (.pair (.int .i64) (.pair (.int .i64) (.pair (.sl (.pair (.int .i64) (.pair (.int .i64) (.pair (.int .i64) (.pair (.int .i64) (.pair (.int .i64) .unit)))))) .unit))))))))]
def et_proc_Handle : List (Nat × Nat) := [(25, 69)]
theorem tt_proc_Handle_ok : subT tt tt_proc_Handle = true := by kernel_rfl
theorem et_proc_Handle_ok : subE et et_proc_Handle = true := by kernel_rfl
noncomputable def fns_proc_Handle : List (Nat × (List AV → Option AV)) := [(11, lf_proc_Fine), (35, lf_proc_there), (36, lf_handle_Make)]
theorem fns_proc_Handle_ok : FnsOk Go.Proofs.Try.prog fns_proc_Handle := FnsOk.cons c_proc_Fine (FnsOk.cons c_proc_there (FnsOk.cons c_handle_Make (FnsOk.nil _)))
def kp_proc_Handle : List (Nat × List Nat) := [(0, [0, 1]), (1, [0, 1, 15]), (2, [4]), (3, [5]), (4, [4]), (4000000, []), (4000001, []), (4000002, []), (4000003, []), (4000004, [])]
def od_proc_Handle : List (Nat × Ord) := []
noncomputable def E_proc_Handle : Env := ⟨0, 0, et_proc_Handle, tt_proc_Handle, fns_proc_Handle, [], od_proc_Handle, kp_proc_Handle, none, []⟩
set_option maxRecDepth 100000 in
set_option maxHeartbeats 40000000 in
theorem c_proc_Handle : PCon Go.Proofs.Try.prog 13 lf_proc_Handle := by
  rw [lq_proc_Handle]
  refine lift_conR (E := E_proc_Handle) (c := bodyOf Try.f13) (nt := 27) (rs := [.tmp 4]) (ts := [3]) (EnvC.sub (off := 0) (nt := 0) (ords := od_proc_Handle) (keep := kp_proc_Handle) (yl := none) tt_ok et_ok fns_proc_Handle_ok (PrsOk.nil _) (ItsOk.nil _) tt_proc_Handle_ok et_proc_Handle_ok) (PrOk.of mixed_ok) Go.Proofs.Try.func13 rfl (by decide) rfl rfl rfl (pureR_one (e := (.int .i64)) rfl) ?_
  intro x r hw hs
  repeat'
    (try (conv => whnf)
     first
       | (with_reducible have hs := letv_out hs)
       | (refine draw_and (by kernel_rfl) ?_)
       | (refine both_mk ?_ ?_)
       | (refine br_bool (fun h => ?_) (fun h => ?_) <;> first | have hs := cT h hs | have hs := cF h hs)
       | (refine bind_elim hs fun v hb hs => ?_; first | refine ck_proc_Fine rfl hb ?_ | refine ck_proc_there rfl hb ?_ | refine ck_handle_Make rfl hb ?_)
       | refine chk_elim hs fun hs => ?_
       | (have hs := letv_out hs)
       | exact fin_some hs rfl
       | (intro b hb; first | have hs := nilq_elim hs b hb | have hs := nilqn_elim hs b hb)
       | (have hs := cT rfl hs)
       | (have hs := cF rfl hs)
       | exact (none_ne hs).elim)
theorem cq_proc_Handle : PCon Go.Proofs.Try.prog 13 (liftF (.pair (.sl (.pair (.int .i64) (.pair .bool (.pair (.int .i64) (.pair (.pair (.int .i64) (.pair .bool (.pair (.arr 8 (.int .i64)) (.pair (.arr 16 (.int .i64)) (.pair (.int .i64) (.pair (.arr 8 (.int .i64)) .unit)))))) (.pair (.int .i64) (.pair (.int .i64) (.pair (.int .i64) (.pair (.sl (.pair (.int .i64) (.pair (.int .i64) (.pair (.int .i64) (.pair (.int .i64) (.pair (.int .i64) .unit)))))) .unit))))))))) (.pair (.int .i64) .unit)) (unpack (.int .i64)) (fun x => proc_Handle x.1 x.2.1)) := lq_proc_Handle ▸ c_proc_Handle
noncomputable def lf_proc_In : List AV → Option AV := liftF (.pair (.sl (.pair (.int .i64) (.pair .bool (.pair (.int .i64) (.pair (.pair (.int .i64) (.pair .bool (.pair (.arr 8 (.int .i64)) (.pair (.arr 16 (.int .i64)) (.pair (.int .i64) (.pair (.arr 8 (.int .i64)) .unit)))))) (.pair (.int .i64) (.pair (.int .i64) (.pair (.int .i64) (.pair (.sl (.pair (.int .i64) (.pair (.int .i64) (.pair (.int .i64) (.pair (.int .i64) (.pair (.int .i64) .unit)))))) .unit))))))))) (.pair (.int .i64) .unit)) (unpack (.sl (.int .i64))) (fun x => proc_In x.1 x.2.1)
theorem lq_proc_In : lf_proc_In = liftF (.pair (.sl (.pair (.int .i64) (.pair .bool (.pair (.int .i64) (.pair (.pair (.int .i64) (.pair .bool (.pair (.arr 8 (.int .i64)) (.pair (.arr 16 (.int .i64)) (.pair (.int .i64) (.pair (.arr 8 (.int .i64)) .unit)))))) (.pair (.int .i64) (.pair (.int .i64) (.pair (.int .i64) (.pair (.sl (.pair (.int .i64) (.pair (.int .i64) (.pair (.int .i64) (.pair (.int .i64) (.pair (.int .i64) .unit)))))) .unit))))))))) (.pair (.int .i64) .unit)) (unpack (.sl (.int .i64))) (fun x => proc_In x.1 x.2.1) := rfl
attribute [irreducible] lf_proc_In
theorem ck_proc_In {vs : List AV} {k : AV → Prop} {x : ((.pair (.sl (.pair (.int .i64) (.pair .bool (.pair (.int .i64) (.pair (.pair (.int .i64) (.pair .bool (.pair (.arr 8 (.int .i64)) (.pair (.arr 16 (.int .i64)) (.pair (.int .i64) (.pair (.arr 8 (.int .i64)) .unit)))))) (.pair (.int .i64) (.pair (.int .i64) (.pair (.int .i64) (.pair (.sl (.pair (.int .i64) (.pair (.int .i64) (.pair (.int .i64) (.pair (.int .i64) (.pair (.int .i64) .unit)))))) .unit))))))))) (.pair (.int .i64) .unit)) : Ty).den} {v : List Int} (h1 : pks (.pair (.sl (.pair (.int .i64) (.pair .bool (.pair (.int .i64) (.pair (.pair (.int .i64) (.pair .bool (.pair (.arr 8 (.int .i64)) (.pair (.arr 16 (.int .i64)) (.pair (.int .i64) (.pair (.arr 8 (.int .i64)) .unit)))))) (.pair (.int .i64) (.pair (.int .i64) (.pair (.int .i64) (.pair (.sl (.pair (.int .i64) (.pair (.int .i64) (.pair (.int .i64) (.pair (.int .i64) (.pair (.int .i64) .unit)))))) .unit))))))))) (.pair (.int .i64) .unit)) vs = some x) (h2 : proc_In x.1 x.2.1 = some v) (h3 : k ((unpack (.sl (.int .i64))) v)) : callK (lf_proc_In vs) k := by
  rw [lq_proc_In]; exact callK_lift h1 h2 h3
def tt_proc_In : List (Nat × Ty) := [(3, .int .i64), (4, .bool), (25, .sl (.pair (.int .i64) (.pair .bool (.pair (.int .i64) (.pair (.pair (.int .i64) (.pair .bool (.pair (.arr 8 (.int .i64)) (.pair (.arr 16 (.int .i64)) (.pair (.int .i64) (.pair (.arr 8 (.int .i64)) .unit)))))) (.pair (.int .i64) (.pair (.int .i64) (.pair (.int .i64) (.pair (.sl (.pair (.int .i64) (.pair (.int .i64) (.pair (.int .i64) (.pair (.int .i64) (.pair (.int .i64) .unit)))))) .unit))))))))), (36, .sl (.int .i64)), (69, .pair (.int .i64) (.pair .bool (.pair (.int .i64) (.pair (.pair (.int .i64) (.pair .bool (.pair (.arr 8 (.int .i64)) (.pair (.arr 16 (.int .i64)) (.pair (.int .i64) (.pair (.arr 8 (.int .i64)) .unit)))))) (.pair (.int .i64) (.pair (.int .i64) (.pair (.int .i64) (.pair (.sl (.pair (.int .i64) (.pair (.int .i64) (.pair (.int .i64) (.pair (.int .i64) (.pair (.int .i64) .unit)))))) .unit)))))))), (71, .opq 1)]
def et_proc_In : List (Nat × Nat) := [(25, 69), (36, 3)]
theorem tt_proc_In_ok : subT tt tt_proc_In = true := by kernel_rfl
theorem et_proc_In_ok : subE et et_proc_In = true := by kernel_rfl
noncomputable def fns_proc_In : List (Nat × (List AV → Option AV)) := [(11, lf_proc_Fine)]
theorem fns_proc_In_ok : FnsOk Go.Proofs.Try.prog fns_proc_In := FnsOk.cons c_proc_Fine (FnsOk.nil _)
def kp_proc_In_39 : List (Nat × List Nat) := [(0, [1, 2]), (1, [3])]
def od_proc_In_39 : List (Nat × Ord) := []
noncomputable def E_proc_In_39 : Env := ⟨0, 0, et_proc_In, tt_proc_In, fns_proc_In, [], od_proc_In_39, kp_proc_In_39, none, []⟩
noncomputable def pr_proc_In_39 : List (Nat × Proc) := (39, procR E_proc_In_39 8 [.tmp 3] (bodyOf Try.f39)) :: []
theorem pr_proc_In_39_ok : PrsOk Go.Proofs.Try.prog pr_proc_In_39 :=
  PrsOk.cons (proc_conR (E := E_proc_In_39) (EnvC.sub (off := 0) (nt := 0) (ords := od_proc_In_39) (keep := kp_proc_In_39) (yl := none) tt_ok et_ok fns_proc_In_ok (PrsOk.nil _) (ItsOk.nil _) tt_proc_In_ok et_proc_In_ok) (PrOk.of mixed_ok) Go.Proofs.Try.func39 rfl (by decide) rfl rfl) (PrsOk.nil _)
def kp_proc_In_38 : List (Nat × List Nat) := [(0, [0, 1]), (1, [0, 1, 5]), (2, [0, 1, 5, 10]), (3, [4]), (4, [1, 5, 11, 12, 13]), (5, [1, 5, 11, 12, 13, 14]), (6, [1, 5, 6, 7, 11, 12, 13]), (7, [1, 5, 6, 11, 12, 13, 24]), (8, [1, 5, 11, 12, 13]), (9, [1, 5, 11, 12, 13]), (10, [4]), (12000001, []), (7000001, [1, 5, 11, 12, 13]), (819211000001, [3, 8220]), (819213000001, [8199, 8413186, 8219, 8220])]
def od_proc_In_38 : List (Nat × Ord) := []
noncomputable def E_proc_In_38 : Env := ⟨0, 0, et_proc_In, tt_proc_In, fns_proc_In, pr_proc_In_39, od_proc_In_38, kp_proc_In_38, none, []⟩
noncomputable def pr_proc_In_38 : List (Nat × Proc) := (38, procR E_proc_In_38 31 [.tmp 4] (bodyOf Try.f38)) :: pr_proc_In_39
theorem pr_proc_In_38_ok : PrsOk Go.Proofs.Try.prog pr_proc_In_38 :=
  PrsOk.cons (proc_conR (E := E_proc_In_38) (EnvC.sub (off := 0) (nt := 0) (ords := od_proc_In_38) (keep := kp_proc_In_38) (yl := none) tt_ok et_ok fns_proc_In_ok (pr_proc_In_39_ok) (ItsOk.nil _) tt_proc_In_ok et_proc_In_ok) (PrOk.of mixed_ok) Go.Proofs.Try.func38 rfl (by decide) rfl rfl) (pr_proc_In_39_ok)
def proc_In_S1 (u0 : AV) (u1 : AV) (x1 : (List (Int × Bool × Int × (Int × Bool × (List Int) × (List Int) × Int × (List Int) × Unit) × Int × Int × Int × (List (Int × Int × Int × Int × Int × Unit)) × Unit)) × Int × Int × Int × List Int) : St :=
  ⟨[(1, u0), (5, u1), (11, .ro (.pair (.int .i64) (.pair .bool (.pair (.int .i64) (.pair (.pair (.int .i64) (.pair .bool (.pair (.arr 8 (.int .i64)) (.pair (.arr 16 (.int .i64)) (.pair (.int .i64) (.pair (.arr 8 (.int .i64)) .unit)))))) (.pair (.int .i64) (.pair (.int .i64) (.pair (.int .i64) (.pair (.sl (.pair (.int .i64) (.pair (.int .i64) (.pair (.int .i64) (.pair (.int .i64) (.pair (.int .i64) .unit)))))) .unit)))))))) x1.1), (12, .int .i64 x1.2.1), (13, .int .i64 x1.2.2.1)], [(3, .var (.int .i64) (.int .i64 x1.2.2.2.1) false), (8220, .row 3 (.int .i64) x1.2.2.2.2 false)], (some ([8199, 8413186, 8219, 8220], 0))⟩
def proc_In_M1 : Msk := ⟨[1, 5, 11, 12, 13], [3, 8220], [(5, 8220, 36)], [], [8199, 8413186, 8219, 8220], [], [], [], [], [], []⟩
def proc_In_Q1 (x2 : (List (Int × Bool × Int × (Int × Bool × (List Int) × (List Int) × Int × (List Int) × Unit) × Int × Int × Int × (List (Int × Int × Int × Int × Int × Unit)) × Unit)) × Int × Int × Int × List Int) : St :=
  ⟨[(1, .fn (.func 39) [] [.ptr 3 []]), (5, .own 8220), (11, .ro (.pair (.int .i64) (.pair .bool (.pair (.int .i64) (.pair (.pair (.int .i64) (.pair .bool (.pair (.arr 8 (.int .i64)) (.pair (.arr 16 (.int .i64)) (.pair (.int .i64) (.pair (.arr 8 (.int .i64)) .unit)))))) (.pair (.int .i64) (.pair (.int .i64) (.pair (.int .i64) (.pair (.sl (.pair (.int .i64) (.pair (.int .i64) (.pair (.int .i64) (.pair (.int .i64) (.pair (.int .i64) .unit)))))) .unit)))))))) x2.1), (12, .int .i64 x2.2.1), (13, .int .i64 x2.2.2.1)], [(3, .var (.int .i64) (.int .i64 x2.2.2.2.1) false), (8220, .row 3 (.int .i64) x2.2.2.2.2 false)], (some ([8199, 8413186, 8219, 8220], 0))⟩
def kp_proc_In : List (Nat × List Nat) := [(0, [0, 3]), (1, [4]), (4000000, [3]), (4000001, [8220])]
def od_proc_In : List (Nat × Ord) := []
noncomputable def E_proc_In : Env := ⟨0, 0, et_proc_In, tt_proc_In, fns_proc_In, pr_proc_In_38, od_proc_In, kp_proc_In, none, []⟩
set_option maxRecDepth 100000 in
set_option maxHeartbeats 40000000 in
theorem c_proc_In : PCon Go.Proofs.Try.prog 16 lf_proc_In := by
  rw [lq_proc_In]
  refine lift_conR (E := E_proc_In) (c := bodyOf Try.f16) (nt := 8) (rs := [.tmp 4]) (ts := [36]) (EnvC.sub (off := 0) (nt := 0) (ords := od_proc_In) (keep := kp_proc_In) (yl := none) tt_ok et_ok fns_proc_In_ok (pr_proc_In_38_ok) (ItsOk.nil _) tt_proc_In_ok et_proc_In_ok) (PrOk.of mixed_ok) Go.Proofs.Try.func16 rfl (by decide) rfl rfl rfl (pureR_one (e := (.sl (.int .i64))) rfl) ?_
  intro x r hw hs
  repeat'
    (try (conv => whnf)
     first
       | (with_reducible have hs := letv_out hs)
       | (refine draw_and (by kernel_rfl) ?_)
       | (refine both_mk ?_ ?_)
       | (refine br_bool (fun h => ?_) (fun h => ?_) <;> first | have hs := cT h hs | have hs := cF h hs)
       | (refine bind_elim hs fun v hb hs => ?_; first | refine ck_proc_Fine rfl hb ?_)
       | refine chk_elim hs fun hs => ?_
       | (have hs := letv_out hs)
       | exact fin_some hs rfl
       | (intro b hb; first | have hs := nilq_elim hs b hb | have hs := nilqn_elim hs b hb)
       | exact hJ1 _ hs
       | exact hC1 _ hs
       | (refine cut_out 1 proc_In_Q1 hs (fun Jc1 kc1 hC1 hs => ?_) (fun xc1 hs => ?_))
       | (have hs := cT rfl hs)
       | (have hs := cF rfl hs)
       | ((with_reducible have hs : loop proc_In_L1 _ = some _ := hs); refine vc_loopR (proc_In_S1 _ _) proc_In_M1 hs rfl ?_; intro J1 k1 x1 hJ1 hs)
       | (refine vc_loopR (proc_In_S1 _ _) proc_In_M1 hs rfl ?_; intro J1 k1 x1 hJ1 hs)
       | exact (none_ne hs).elim)
theorem cq_proc_In : PCon Go.Proofs.Try.prog 16 (liftF (.pair (.sl (.pair (.int .i64) (.pair .bool (.pair (.int .i64) (.pair (.pair (.int .i64) (.pair .bool (.pair (.arr 8 (.int .i64)) (.pair (.arr 16 (.int .i64)) (.pair (.int .i64) (.pair (.arr 8 (.int .i64)) .unit)))))) (.pair (.int .i64) (.pair (.int .i64) (.pair (.int .i64) (.pair (.sl (.pair (.int .i64) (.pair (.int .i64) (.pair (.int .i64) (.pair (.int .i64) (.pair (.int .i64) .unit)))))) .unit))))))))) (.pair (.int .i64) .unit)) (unpack (.sl (.int .i64))) (fun x => proc_In x.1 x.2.1)) := lq_proc_In ▸ c_proc_In
noncomputable def lf_proc_Handles_1 : List AV → Option AV := liftF (.pair (.pair (.int .i64) (.pair .bool (.pair (.int .i64) (.pair (.pair (.int .i64) (.pair .bool (.pair (.arr 8 (.int .i64)) (.pair (.arr 16 (.int .i64)) (.pair (.int .i64) (.pair (.arr 8 (.int .i64)) .unit)))))) (.pair (.int .i64) (.pair (.int .i64) (.pair (.int .i64) (.pair (.sl (.pair (.int .i64) (.pair (.int .i64) (.pair (.int .i64) (.pair (.int .i64) (.pair (.int .i64) .unit)))))) .unit)))))))) .unit) (unpack .bool) (fun x => proc_Handles_1 x.1)
theorem lq_proc_Handles_1 : lf_proc_Handles_1 = liftF (.pair (.pair (.int .i64) (.pair .bool (.pair (.int .i64) (.pair (.pair (.int .i64) (.pair .bool (.pair (.arr 8 (.int .i64)) (.pair (.arr 16 (.int .i64)) (.pair (.int .i64) (.pair (.arr 8 (.int .i64)) .unit)))))) (.pair (.int .i64) (.pair (.int .i64) (.pair (.int .i64) (.pair (.sl (.pair (.int .i64) (.pair (.int .i64) (.pair (.int .i64) (.pair (.int .i64) (.pair (.int .i64) .unit)))))) .unit)))))))) .unit) (unpack .bool) (fun x => proc_Handles_1 x.1) := rfl
attribute [irreducible] lf_proc_Handles_1
theorem ck_proc_Handles_1 {vs : List AV} {k : AV → Prop} {x : ((.pair (.pair (.int .i64) (.pair .bool (.pair (.int .i64) (.pair (.pair (.int .i64) (.pair .bool (.pair (.arr 8 (.int .i64)) (.pair (.arr 16 (.int .i64)) (.pair (.int .i64) (.pair (.arr 8 (.int .i64)) .unit)))))) (.pair (.int .i64) (.pair (.int .i64) (.pair (.int .i64) (.pair (.sl (.pair (.int .i64) (.pair (.int .i64) (.pair (.int .i64) (.pair (.int .i64) (.pair (.int .i64) .unit)))))) .unit)))))))) .unit) : Ty).den} {v : Bool} (h1 : pks (.pair (.pair (.int .i64) (.pair .bool (.pair (.int .i64) (.pair (.pair (.int .i64) (.pair .bool (.pair (.arr 8 (.int .i64)) (.pair (.arr 16 (.int .i64)) (.pair (.int .i64) (.pair (.arr 8 (.int .i64)) .unit)))))) (.pair (.int .i64) (.pair (.int .i64) (.pair (.int .i64) (.pair (.sl (.pair (.int .i64) (.pair (.int .i64) (.pair (.int .i64) (.pair (.int .i64) (.pair (.int .i64) .unit)))))) .unit)))))))) .unit) vs = some x) (h2 : proc_Handles_1 x.1 = some v) (h3 : k ((unpack .bool) v)) : callK (lf_proc_Handles_1 vs) k := by
  rw [lq_proc_Handles_1]; exact callK_lift h1 h2 h3
def tt_proc_Handles_1 : List (Nat × Ty) := [(3, .int .i64), (4, .bool), (69, .pair (.int .i64) (.pair .bool (.pair (.int .i64) (.pair (.pair (.int .i64) (.pair .bool (.pair (.arr 8 (.int .i64)) (.pair (.arr 16 (.int .i64)) (.pair (.int .i64) (.pair (.arr 8 (.int .i64)) .unit)))))) (.pair (.int .i64) (.pair (.int .i64) (.pair (.int .i64) (.pair (.sl (.pair (.int .i64) (.pair (.int .i64) (.pair (.int .i64) (.pair (.int .i64) (.pair (.int .i64) .unit)))))) .unit))))))))]
def et_proc_Handles_1 : List (Nat × Nat) := []
theorem tt_proc_Handles_1_ok : subT tt tt_proc_Handles_1 = true := by kernel_rfl
theorem et_proc_Handles_1_ok : subE et et_proc_Handles_1 = true := by kernel_rfl
noncomputable def fns_proc_Handles_1 : List (Nat × (List AV → Option AV)) := []
theorem fns_proc_Handles_1_ok : FnsOk Go.Proofs.Try.prog fns_proc_Handles_1 := FnsOk.nil _
def kp_proc_Handles_1 : List (Nat × List Nat) := [(0, [1]), (1, [2]), (4000000, [1]), (4000001, [])]
def od_proc_Handles_1 : List (Nat × Ord) := []
noncomputable def E_proc_Handles_1 : Env := ⟨0, 0, et_proc_Handles_1, tt_proc_Handles_1, fns_proc_Handles_1, [], od_proc_Handles_1, kp_proc_Handles_1, none, []⟩
set_option maxRecDepth 100000 in
set_option maxHeartbeats 40000000 in
theorem c_proc_Handles_1 : PCon Go.Proofs.Try.prog 40 lf_proc_Handles_1 := by
  rw [lq_proc_Handles_1]
  refine lift_conR (E := E_proc_Handles_1) (c := bodyOf Try.f40) (nt := 6) (rs := [.tmp 2]) (ts := [4]) (EnvC.sub (off := 0) (nt := 0) (ords := od_proc_Handles_1) (keep := kp_proc_Handles_1) (yl := none) tt_ok et_ok fns_proc_Handles_1_ok (PrsOk.nil _) (ItsOk.nil _) tt_proc_Handles_1_ok et_proc_Handles_1_ok) (PrOk.of mixed_ok) Go.Proofs.Try.func40 rfl (by decide) rfl rfl rfl (pureR_one (e := .bool) rfl) ?_
  intro x r hw hs
  repeat'
    (try (conv => whnf)
     first
       | (with_reducible have hs := letv_out hs)
       | (refine draw_and (by kernel_rfl) ?_)
       | (refine both_mk ?_ ?_)
       | (refine br_bool (fun h => ?_) (fun h => ?_) <;> first | have hs := cT h hs | have hs := cF h hs)
       | refine chk_elim hs fun hs => ?_
       | (have hs := letv_out hs)
       | exact fin_some hs rfl
       | (intro b hb; first | have hs := nilq_elim hs b hb | have hs := nilqn_elim hs b hb)
       | (have hs := cT rfl hs)
       | (have hs := cF rfl hs)
       | exact (none_ne hs).elim)
theorem cq_proc_Handles_1 : PCon Go.Proofs.Try.prog 40 (liftF (.pair (.pair (.int .i64) (.pair .bool (.pair (.int .i64) (.pair (.pair (.int .i64) (.pair .bool (.pair (.arr 8 (.int .i64)) (.pair (.arr 16 (.int .i64)) (.pair (.int .i64) (.pair (.arr 8 (.int .i64)) .unit)))))) (.pair (.int .i64) (.pair (.int .i64) (.pair (.int .i64) (.pair (.sl (.pair (.int .i64) (.pair (.int .i64) (.pair (.int .i64) (.pair (.int .i64) (.pair (.int .i64) .unit)))))) .unit)))))))) .unit) (unpack .bool) (fun x => proc_Handles_1 x.1)) := lq_proc_Handles_1 ▸ c_proc_Handles_1
noncomputable def lf_proc_Handles : List AV → Option AV := liftF (.pair (.sl (.pair (.int .i64) (.pair .bool (.pair (.int .i64) (.pair (.pair (.int .i64) (.pair .bool (.pair (.arr 8 (.int .i64)) (.pair (.arr 16 (.int .i64)) (.pair (.int .i64) (.pair (.arr 8 (.int .i64)) .unit)))))) (.pair (.int .i64) (.pair (.int .i64) (.pair (.int .i64) (.pair (.sl (.pair (.int .i64) (.pair (.int .i64) (.pair (.int .i64) (.pair (.int .i64) (.pair (.int .i64) .unit)))))) .unit))))))))) .unit) (unpack (.sl (.int .i64))) (fun x => proc_Handles x.1)
theorem lq_proc_Handles : lf_proc_Handles = liftF (.pair (.sl (.pair (.int .i64) (.pair .bool (.pair (.int .i64) (.pair (.pair (.int .i64) (.pair .bool (.pair (.arr 8 (.int .i64)) (.pair (.arr 16 (.int .i64)) (.pair (.int .i64) (.pair (.arr 8 (.int .i64)) .unit)))))) (.pair (.int .i64) (.pair (.int .i64) (.pair (.int .i64) (.pair (.sl (.pair (.int .i64) (.pair (.int .i64) (.pair (.int .i64) (.pair (.int .i64) (.pair (.int .i64) .unit)))))) .unit))))))))) .unit) (unpack (.sl (.int .i64))) (fun x => proc_Handles x.1) := rfl
attribute [irreducible] lf_proc_Handles
theorem ck_proc_Handles {vs : List AV} {k : AV → Prop} {x : ((.pair (.sl (.pair (.int .i64) (.pair .bool (.pair (.int .i64) (.pair (.pair (.int .i64) (.pair .bool (.pair (.arr 8 (.int .i64)) (.pair (.arr 16 (.int .i64)) (.pair (.int .i64) (.pair (.arr 8 (.int .i64)) .unit)))))) (.pair (.int .i64) (.pair (.int .i64) (.pair (.int .i64) (.pair (.sl (.pair (.int .i64) (.pair (.int .i64) (.pair (.int .i64) (.pair (.int .i64) (.pair (.int .i64) .unit)))))) .unit))))))))) .unit) : Ty).den} {v : List Int} (h1 : pks (.pair (.sl (.pair (.int .i64) (.pair .bool (.pair (.int .i64) (.pair (.pair (.int .i64) (.pair .bool (.pair (.arr 8 (.int .i64)) (.pair (.arr 16 (.int .i64)) (.pair (.int .i64) (.pair (.arr 8 (.int .i64)) .unit)))))) (.pair (.int .i64) (.pair (.int .i64) (.pair (.int .i64) (.pair (.sl (.pair (.int .i64) (.pair (.int .i64) (.pair (.int .i64) (.pair (.int .i64) (.pair (.int .i64) .unit)))))) .unit))))))))) .unit) vs = some x) (h2 : proc_Handles x.1 = some v) (h3 : k ((unpack (.sl (.int .i64))) v)) : callK (lf_proc_Handles vs) k := by
  rw [lq_proc_Handles]; exact callK_lift h1 h2 h3
def tt_proc_Handles : List (Nat × Ty) := [(3, .int .i64), (4, .bool), (25, .sl (.pair (.int .i64) (.pair .bool (.pair (.int .i64) (.pair (.pair (.int .i64) (.pair .bool (.pair (.arr 8 (.int .i64)) (.pair (.arr 16 (.int .i64)) (.pair (.int .i64) (.pair (.arr 8 (.int .i64)) .unit)))))) (.pair (.int .i64) (.pair (.int .i64) (.pair (.int .i64) (.pair (.sl (.pair (.int .i64) (.pair (.int .i64) (.pair (.int .i64) (.pair (.int .i64) (.pair (.int .i64) .unit)))))) .unit))))))))), (36, .sl (.int .i64)), (69, .pair (.int .i64) (.pair .bool (.pair (.int .i64) (.pair (.pair (.int .i64) (.pair .bool (.pair (.arr 8 (.int .i64)) (.pair (.arr 16 (.int .i64)) (.pair (.int .i64) (.pair (.arr 8 (.int .i64)) .unit)))))) (.pair (.int .i64) (.pair (.int .i64) (.pair (.int .i64) (.pair (.sl (.pair (.int .i64) (.pair (.int .i64) (.pair (.int .i64) (.pair (.int .i64) (.pair (.int .i64) .unit)))))) .unit)))))))), (71, .opq 1)]
def et_proc_Handles : List (Nat × Nat) := [(25, 69), (36, 3)]
theorem tt_proc_Handles_ok : subT tt tt_proc_Handles = true := by kernel_rfl
theorem et_proc_Handles_ok : subE et et_proc_Handles = true := by kernel_rfl
noncomputable def fns_proc_Handles : List (Nat × (List AV → Option AV)) := [(11, lf_proc_Fine), (13, lf_proc_Handle), (40, lf_proc_Handles_1)]
theorem fns_proc_Handles_ok : FnsOk Go.Proofs.Try.prog fns_proc_Handles := FnsOk.cons c_proc_Fine (FnsOk.cons c_proc_Handle (FnsOk.cons c_proc_Handles_1 (FnsOk.nil _)))
def kp_proc_Handles_38 : List (Nat × List Nat) := [(0, [0, 1]), (1, [0, 1, 5]), (2, [0, 1, 5, 10]), (3, [4]), (4, [1, 5, 11, 12, 13]), (5, [1, 5, 11, 12, 13, 14]), (6, [1, 5, 6, 7, 11, 12, 13]), (7, [1, 5, 6, 11, 12, 13, 24]), (8, [1, 5, 11, 12, 13]), (9, [1, 5, 11, 12, 13]), (10, [4]), (12000001, []), (7000001, [1, 5, 11, 12, 13]), (819211000001, [8220]), (819213000001, [8199, 8219, 8220])]
def od_proc_Handles_38 : List (Nat × Ord) := []
noncomputable def E_proc_Handles_38 : Env := ⟨0, 0, et_proc_Handles, tt_proc_Handles, fns_proc_Handles, [], od_proc_Handles_38, kp_proc_Handles_38, none, []⟩
noncomputable def pr_proc_Handles_38 : List (Nat × Proc) := (38, procR E_proc_Handles_38 31 [.tmp 4] (bodyOf Try.f38)) :: []
theorem pr_proc_Handles_38_ok : PrsOk Go.Proofs.Try.prog pr_proc_Handles_38 :=
  PrsOk.cons (proc_conR (E := E_proc_Handles_38) (EnvC.sub (off := 0) (nt := 0) (ords := od_proc_Handles_38) (keep := kp_proc_Handles_38) (yl := none) tt_ok et_ok fns_proc_Handles_ok (PrsOk.nil _) (ItsOk.nil _) tt_proc_Handles_ok et_proc_Handles_ok) (PrOk.of mixed_ok) Go.Proofs.Try.func38 rfl (by decide) rfl rfl) (PrsOk.nil _)
def proc_Handles_S1 (u0 : AV) (u1 : AV) (u2 : AV) (u3 : AV) (u4 : AV) (x1 : Unit) : St :=
  ⟨[(0, u0), (3, u1), (8, u2), (9, u3), (10, u4)], [], none⟩
def proc_Handles_M1 : Msk := ⟨[0, 3, 8, 9, 10], [], [], [], [], [], [], [], [], [], []⟩
def proc_Handles_S2 (u0 : AV) (u1 : AV) (u2 : AV) (u3 : AV) (x2 : Int × List Int) : St :=
  ⟨[(0, u0), (3, u1), (8, u2), (9, u3), (10, .int .i64 x2.1)], [(8220, .row 3 (.int .i64) x2.2 false)], none⟩
def proc_Handles_M2 : Msk := ⟨[0, 3, 8, 9, 10], [8220], [], [], [], [], [], [], [], [], []⟩
def proc_Handles_S3 (u0 : AV) (u1 : AV) (x3 : (List (Int × Bool × Int × (Int × Bool × (List Int) × (List Int) × Int × (List Int) × Unit) × Int × Int × Int × (List (Int × Int × Int × Int × Int × Unit)) × Unit)) × Int × Int × List Int) : St :=
  ⟨[(1, u0), (5, u1), (11, .ro (.pair (.int .i64) (.pair .bool (.pair (.int .i64) (.pair (.pair (.int .i64) (.pair .bool (.pair (.arr 8 (.int .i64)) (.pair (.arr 16 (.int .i64)) (.pair (.int .i64) (.pair (.arr 8 (.int .i64)) .unit)))))) (.pair (.int .i64) (.pair (.int .i64) (.pair (.int .i64) (.pair (.sl (.pair (.int .i64) (.pair (.int .i64) (.pair (.int .i64) (.pair (.int .i64) (.pair (.int .i64) .unit)))))) .unit)))))))) x3.1), (12, .int .i64 x3.2.1), (13, .int .i64 x3.2.2.1)], [(8220, .row 3 (.int .i64) x3.2.2.2 false)], (some ([8199, 8219, 8220], 0))⟩
def proc_Handles_M3 : Msk := ⟨[1, 5, 11, 12, 13], [8220], [(5, 8220, 36)], [], [8199, 8219, 8220], [], [], [], [], [], []⟩
def proc_Handles_Q1 (x4 : (List (Int × Bool × Int × (Int × Bool × (List Int) × (List Int) × Int × (List Int) × Unit) × Int × Int × Int × (List (Int × Int × Int × Int × Int × Unit)) × Unit)) × Int × Int × List Int) : St :=
  ⟨[(1, .fn (.func 40) [] []), (5, .own 8220), (11, .ro (.pair (.int .i64) (.pair .bool (.pair (.int .i64) (.pair (.pair (.int .i64) (.pair .bool (.pair (.arr 8 (.int .i64)) (.pair (.arr 16 (.int .i64)) (.pair (.int .i64) (.pair (.arr 8 (.int .i64)) .unit)))))) (.pair (.int .i64) (.pair (.int .i64) (.pair (.int .i64) (.pair (.sl (.pair (.int .i64) (.pair (.int .i64) (.pair (.int .i64) (.pair (.int .i64) (.pair (.int .i64) .unit)))))) .unit)))))))) x4.1), (12, .int .i64 x4.2.1), (13, .int .i64 x4.2.2.1)], [(8220, .row 3 (.int .i64) x4.2.2.2 false)], (some ([8199, 8219, 8220], 0))⟩
def kp_proc_Handles : List (Nat × List Nat) := [(0, [0]), (1, [0, 3]), (2, [0, 3, 8, 9, 10]), (3, [0, 3, 8, 9, 10, 11]), (4, [0, 3, 4, 5, 8, 9, 10]), (5, [0, 3, 8, 9, 10]), (6, [0, 3, 8, 9, 10]), (7, [2]), (4000000, []), (4000001, [8220]), (4000002, [8220]), (4000003, [8220]), (4000004, [8220]), (4000005, [8220]), (4000006, [8220]), (4000007, [8220])]
def od_proc_Handles : List (Nat × Ord) := []
noncomputable def E_proc_Handles : Env := ⟨0, 0, et_proc_Handles, tt_proc_Handles, fns_proc_Handles, pr_proc_Handles_38, od_proc_Handles, kp_proc_Handles, none, []⟩
set_option maxRecDepth 100000 in
set_option maxHeartbeats 40000000 in
theorem c_proc_Handles : PCon Go.Proofs.Try.prog 18 lf_proc_Handles := by
  rw [lq_proc_Handles]
  refine lift_conR (E := E_proc_Handles) (c := bodyOf Try.f18) (nt := 23) (rs := [.tmp 2]) (ts := [36]) (EnvC.sub (off := 0) (nt := 0) (ords := od_proc_Handles) (keep := kp_proc_Handles) (yl := none) tt_ok et_ok fns_proc_Handles_ok (pr_proc_Handles_38_ok) (ItsOk.nil _) tt_proc_Handles_ok et_proc_Handles_ok) (PrOk.of mixed_ok) Go.Proofs.Try.func18 rfl (by decide) rfl rfl rfl (pureR_one (e := (.sl (.int .i64))) rfl) ?_
  intro x r hw hs
  repeat'
    (try (conv => whnf)
     first
       | (with_reducible have hs := letv_out hs)
       | (refine draw_and (by kernel_rfl) ?_)
       | (refine both_mk ?_ ?_)
       | (refine br_bool (fun h => ?_) (fun h => ?_) <;> first | have hs := cT h hs | have hs := cF h hs)
       | (refine bind_elim hs fun v hb hs => ?_; first | refine ck_proc_Fine rfl hb ?_ | refine ck_proc_Handle rfl hb ?_ | refine ck_proc_Handles_1 rfl hb ?_)
       | refine chk_elim hs fun hs => ?_
       | (have hs := letv_out hs)
       | exact fin_some hs rfl
       | (intro b hb; first | have hs := nilq_elim hs b hb | have hs := nilqn_elim hs b hb)
       | exact hJ1 _ hs
       | exact hJ2 _ hs
       | exact hJ3 _ hs
       | exact hC1 _ hs
       | (refine cut_out 1 proc_Handles_Q1 hs (fun Jc1 kc1 hC1 hs => ?_) (fun xc1 hs => ?_))
       | (have hs := cT rfl hs)
       | (have hs := cF rfl hs)
       | ((with_reducible have hs : proc_Handles_J3 _ _ = some _ := hs); unfold proc_Handles_J3 at hs)
       | ((with_reducible have hs : loop proc_Handles_L1 _ = some _ := hs); refine vc_loopR (proc_Handles_S1 _ _ _ _ _) proc_Handles_M1 hs rfl ?_; intro J1 k1 x1 hJ1 hs)
       | ((with_reducible have hs : loop (proc_Handles_L2 _ _) _ = some _ := hs); refine vc_loopR (proc_Handles_S2 _ _ _ _) proc_Handles_M2 hs rfl ?_; intro J2 k2 x2 hJ2 hs)
       | ((with_reducible have hs : loop (proc_Handles_L3 _) _ = some _ := hs); refine vc_loopR (proc_Handles_S3 _ _) proc_Handles_M3 hs rfl ?_; intro J3 k3 x3 hJ3 hs)
       | (refine vc_loopR (proc_Handles_S1 _ _ _ _ _) proc_Handles_M1 hs rfl ?_; intro J1 k1 x1 hJ1 hs)
       | (refine vc_loopR (proc_Handles_S2 _ _ _ _) proc_Handles_M2 hs rfl ?_; intro J2 k2 x2 hJ2 hs)
       | (refine vc_loopR (proc_Handles_S3 _ _) proc_Handles_M3 hs rfl ?_; intro J3 k3 x3 hJ3 hs)
       | exact (none_ne hs).elim)
theorem cq_proc_Handles : PCon Go.Proofs.Try.prog 18 (liftF (.pair (.sl (.pair (.int .i64) (.pair .bool (.pair (.int .i64) (.pair (.pair (.int .i64) (.pair .bool (.pair (.arr 8 (.int .i64)) (.pair (.arr 16 (.int .i64)) (.pair (.int .i64) (.pair (.arr 8 (.int .i64)) .unit)))))) (.pair (.int .i64) (.pair (.int .i64) (.pair (.int .i64) (.pair (.sl (.pair (.int .i64) (.pair (.int .i64) (.pair (.int .i64) (.pair (.int .i64) (.pair (.int .i64) .unit)))))) .unit))))))))) .unit) (unpack (.sl (.int .i64))) (fun x => proc_Handles x.1)) := lq_proc_Handles ▸ c_proc_Handles
noncomputable def lf_proc_with : List AV → Option AV := liftF (.pair (.sl (.pair (.int .i64) (.pair .bool (.pair (.int .i64) (.pair (.pair (.int .i64) (.pair .bool (.pair (.arr 8 (.int .i64)) (.pair (.arr 16 (.int .i64)) (.pair (.int .i64) (.pair (.arr 8 (.int .i64)) .unit)))))) (.pair (.int .i64) (.pair (.int .i64) (.pair (.int .i64) (.pair (.sl (.pair (.int .i64) (.pair (.int .i64) (.pair (.int .i64) (.pair (.int .i64) (.pair (.int .i64) .unit)))))) .unit))))))))) (.pair (.int .i64) (.pair (.pair (.int .i64) (.pair .bool (.pair (.int .i64) (.pair (.pair (.int .i64) (.pair .bool (.pair (.arr 8 (.int .i64)) (.pair (.arr 16 (.int .i64)) (.pair (.int .i64) (.pair (.arr 8 (.int .i64)) .unit)))))) (.pair (.int .i64) (.pair (.int .i64) (.pair (.int .i64) (.pair (.sl (.pair (.int .i64) (.pair (.int .i64) (.pair (.int .i64) (.pair (.int .i64) (.pair (.int .i64) .unit)))))) .unit)))))))) .unit))) (unpack (.sl (.pair (.int .i64) (.pair .bool (.pair (.int .i64) (.pair (.pair (.int .i64) (.pair .bool (.pair (.arr 8 (.int .i64)) (.pair (.arr 16 (.int .i64)) (.pair (.int .i64) (.pair (.arr 8 (.int .i64)) .unit)))))) (.pair (.int .i64) (.pair (.int .i64) (.pair (.int .i64) (.pair (.sl (.pair (.int .i64) (.pair (.int .i64) (.pair (.int .i64) (.pair (.int .i64) (.pair (.int .i64) .unit)))))) .unit)))))))))) (fun x => proc_with x.1 x.2.1 x.2.2.1)
theorem lq_proc_with : lf_proc_with = liftF (.pair (.sl (.pair (.int .i64) (.pair .bool (.pair (.int .i64) (.pair (.pair (.int .i64) (.pair .bool (.pair (.arr 8 (.int .i64)) (.pair (.arr 16 (.int .i64)) (.pair (.int .i64) (.pair (.arr 8 (.int .i64)) .unit)))))) (.pair (.int .i64) (.pair (.int .i64) (.pair (.int .i64) (.pair (.sl (.pair (.int .i64) (.pair (.int .i64) (.pair (.int .i64) (.pair (.int .i64) (.pair (.int .i64) .unit)))))) .unit))))))))) (.pair (.int .i64) (.pair (.pair (.int .i64) (.pair .bool (.pair (.int .i64) (.pair (.pair (.int .i64) (.pair .bool (.pair (.arr 8 (.int .i64)) (.pair (.arr 16 (.int .i64)) (.pair (.int .i64) (.pair (.arr 8 (.int .i64)) .unit)))))) (.pair (.int .i64) (.pair (.int .i64) (.pair (.int .i64) (.pair (.sl (.pair (.int .i64) (.pair (.int .i64) (.pair (.int .i64) (.pair (.int .i64) (.pair (.int .i64) .unit)))))) .unit)))))))) .unit))) (unpack (.sl (.pair (.int .i64) (.pair .bool (.pair (.int .i64) (.pair (.pair (.int .i64) (.pair .bool (.pair (.arr 8 (.int .i64)) (.pair (.arr 16 (.int .i64)) (.pair (.int .i64) (.pair (.arr 8 (.int .i64)) .unit)))))) (.pair (.int .i64) (.pair (.int .i64) (.pair (.int .i64) (.pair (.sl (.pair (.int .i64) (.pair (.int .i64) (.pair (.int .i64) (.pair (.int .i64) (.pair (.int .i64) .unit)))))) .unit)))))))))) (fun x => proc_with x.1 x.2.1 x.2.2.1) := rfl
attribute [irreducible] lf_proc_with
theorem ck_proc_with {vs : List AV} {k : AV → Prop} {x : ((.pair (.sl (.pair (.int .i64) (.pair .bool (.pair (.int .i64) (.pair (.pair (.int .i64) (.pair .bool (.pair (.arr 8 (.int .i64)) (.pair (.arr 16 (.int .i64)) (.pair (.int .i64) (.pair (.arr 8 (.int .i64)) .unit)))))) (.pair (.int .i64) (.pair (.int .i64) (.pair (.int .i64) (.pair (.sl (.pair (.int .i64) (.pair (.int .i64) (.pair (.int .i64) (.pair (.int .i64) (.pair (.int .i64) .unit)))))) .unit))))))))) (.pair (.int .i64) (.pair (.pair (.int .i64) (.pair .bool (.pair (.int .i64) (.pair (.pair (.int .i64) (.pair .bool (.pair (.arr 8 (.int .i64)) (.pair (.arr 16 (.int .i64)) (.pair (.int .i64) (.pair (.arr 8 (.int .i64)) .unit)))))) (.pair (.int .i64) (.pair (.int .i64) (.pair (.int .i64) (.pair (.sl (.pair (.int .i64) (.pair (.int .i64) (.pair (.int .i64) (.pair (.int .i64) (.pair (.int .i64) .unit)))))) .unit)))))))) .unit))) : Ty).den} {v : List (Int × Bool × Int × (Int × Bool × (List Int) × (List Int) × Int × (List Int) × Unit) × Int × Int × Int × (List (Int × Int × Int × Int × Int × Unit)) × Unit)} (h1 : pks (.pair (.sl (.pair (.int .i64) (.pair .bool (.pair (.int .i64) (.pair (.pair (.int .i64) (.pair .bool (.pair (.arr 8 (.int .i64)) (.pair (.arr 16 (.int .i64)) (.pair (.int .i64) (.pair (.arr 8 (.int .i64)) .unit)))))) (.pair (.int .i64) (.pair (.int .i64) (.pair (.int .i64) (.pair (.sl (.pair (.int .i64) (.pair (.int .i64) (.pair (.int .i64) (.pair (.int .i64) (.pair (.int .i64) .unit)))))) .unit))))))))) (.pair (.int .i64) (.pair (.pair (.int .i64) (.pair .bool (.pair (.int .i64) (.pair (.pair (.int .i64) (.pair .bool (.pair (.arr 8 (.int .i64)) (.pair (.arr 16 (.int .i64)) (.pair (.int .i64) (.pair (.arr 8 (.int .i64)) .unit)))))) (.pair (.int .i64) (.pair (.int .i64) (.pair (.int .i64) (.pair (.sl (.pair (.int .i64) (.pair (.int .i64) (.pair (.int .i64) (.pair (.int .i64) (.pair (.int .i64) .unit)))))) .unit)))))))) .unit))) vs = some x) (h2 : proc_with x.1 x.2.1 x.2.2.1 = some v) (h3 : k ((unpack (.sl (.pair (.int .i64) (.pair .bool (.pair (.int .i64) (.pair (.pair (.int .i64) (.pair .bool (.pair (.arr 8 (.int .i64)) (.pair (.arr 16 (.int .i64)) (.pair (.int .i64) (.pair (.arr 8 (.int .i64)) .unit)))))) (.pair (.int .i64) (.pair (.int .i64) (.pair (.int .i64) (.pair (.sl (.pair (.int .i64) (.pair (.int .i64) (.pair (.int .i64) (.pair (.int .i64) (.pair (.int .i64) .unit)))))) .unit)))))))))) v)) : callK (lf_proc_with vs) k := by
  rw [lq_proc_with]; exact callK_lift h1 h2 h3
def tt_proc_with : List (Nat × Ty) := [(25, .sl (.pair (.int .i64) (.pair .bool (.pair (.int .i64) (.pair (.pair (.int .i64) (.pair .bool (.pair (.arr 8 (.int .i64)) (.pair (.arr 16 (.int .i64)) (.pair (.int .i64) (.pair (.arr 8 (.int .i64)) .unit)))))) (.pair (.int .i64) (.pair (.int .i64) (.pair (.int .i64) (.pair (.sl (.pair (.int .i64) (.pair (.int .i64) (.pair (.int .i64) (.pair (.int .i64) (.pair (.int .i64) .unit)))))) .unit))))))))), (69, .pair (.int .i64) (.pair .bool (.pair (.int .i64) (.pair (.pair (.int .i64) (.pair .bool (.pair (.arr 8 (.int .i64)) (.pair (.arr 16 (.int .i64)) (.pair (.int .i64) (.pair (.arr 8 (.int .i64)) .unit)))))) (.pair (.int .i64) (.pair (.int .i64) (.pair (.int .i64) (.pair (.sl (.pair (.int .i64) (.pair (.int .i64) (.pair (.int .i64) (.pair (.int .i64) (.pair (.int .i64) .unit)))))) .unit))))))))]
def et_proc_with : List (Nat × Nat) := [(25, 69)]
theorem tt_proc_with_ok : subT tt tt_proc_with = true := by kernel_rfl
theorem et_proc_with_ok : subE et et_proc_with = true := by kernel_rfl
noncomputable def fns_proc_with : List (Nat × (List AV → Option AV)) := []
theorem fns_proc_with_ok : FnsOk Go.Proofs.Try.prog fns_proc_with := FnsOk.nil _
def kp_proc_with : List (Nat × List Nat) := [(0, [0, 1, 5]), (1, [0, 1, 5, 7]), (2, [1, 5, 7]), (3, [7]), (4, [6]), (4000000, [5]), (4000001, [5, 10]), (4000002, [5, 10]), (4000003, [10]), (4000004, [10])]
def od_proc_with : List (Nat × Ord) := []
noncomputable def E_proc_with : Env := ⟨0, 0, et_proc_with, tt_proc_with, fns_proc_with, [], od_proc_with, kp_proc_with, none, []⟩
set_option maxRecDepth 100000 in
set_option maxHeartbeats 40000000 in
theorem c_proc_with : PCon Go.Proofs.Try.prog 43 lf_proc_with := by
  rw [lq_proc_with]
  refine lift_conR (E := E_proc_with) (c := bodyOf Try.f43) (nt := 19) (rs := [.tmp 6]) (ts := [25]) (EnvC.sub (off := 0) (nt := 0) (ords := od_proc_with) (keep := kp_proc_with) (yl := none) tt_ok et_ok fns_proc_with_ok (PrsOk.nil _) (ItsOk.nil _) tt_proc_with_ok et_proc_with_ok) (PrOk.of mixed_ok) Go.Proofs.Try.func43 rfl (by decide) rfl rfl rfl (pureR_one (e := (.sl (.pair (.int .i64) (.pair .bool (.pair (.int .i64) (.pair (.pair (.int .i64) (.pair .bool (.pair (.arr 8 (.int .i64)) (.pair (.arr 16 (.int .i64)) (.pair (.int .i64) (.pair (.arr 8 (.int .i64)) .unit)))))) (.pair (.int .i64) (.pair (.int .i64) (.pair (.int .i64) (.pair (.sl (.pair (.int .i64) (.pair (.int .i64) (.pair (.int .i64) (.pair (.int .i64) (.pair (.int .i64) .unit)))))) .unit)))))))))) rfl) ?_
  intro x r hw hs
  repeat'
    (try (conv => whnf)
     first
       | (with_reducible have hs := letv_out hs)
       | (refine draw_and (by kernel_rfl) ?_)
       | (refine both_mk ?_ ?_)
       | (refine br_bool (fun h => ?_) (fun h => ?_) <;> first | have hs := cT h hs | have hs := cF h hs)
       | refine chk_elim hs fun hs => ?_
       | (have hs := letv_out hs)
       | exact fin_some hs rfl
       | (intro b hb; first | have hs := nilq_elim hs b hb | have hs := nilqn_elim hs b hb)
       | (have hs := cT rfl hs)
       | (have hs := cF rfl hs)
       | exact (none_ne hs).elim)
theorem cq_proc_with : PCon Go.Proofs.Try.prog 43 (liftF (.pair (.sl (.pair (.int .i64) (.pair .bool (.pair (.int .i64) (.pair (.pair (.int .i64) (.pair .bool (.pair (.arr 8 (.int .i64)) (.pair (.arr 16 (.int .i64)) (.pair (.int .i64) (.pair (.arr 8 (.int .i64)) .unit)))))) (.pair (.int .i64) (.pair (.int .i64) (.pair (.int .i64) (.pair (.sl (.pair (.int .i64) (.pair (.int .i64) (.pair (.int .i64) (.pair (.int .i64) (.pair (.int .i64) .unit)))))) .unit))))))))) (.pair (.int .i64) (.pair (.pair (.int .i64) (.pair .bool (.pair (.int .i64) (.pair (.pair (.int .i64) (.pair .bool (.pair (.arr 8 (.int .i64)) (.pair (.arr 16 (.int .i64)) (.pair (.int .i64) (.pair (.arr 8 (.int .i64)) .unit)))))) (.pair (.int .i64) (.pair (.int .i64) (.pair (.int .i64) (.pair (.sl (.pair (.int .i64) (.pair (.int .i64) (.pair (.int .i64) (.pair (.int .i64) (.pair (.int .i64) .unit)))))) .unit)))))))) .unit))) (unpack (.sl (.pair (.int .i64) (.pair .bool (.pair (.int .i64) (.pair (.pair (.int .i64) (.pair .bool (.pair (.arr 8 (.int .i64)) (.pair (.arr 16 (.int .i64)) (.pair (.int .i64) (.pair (.arr 8 (.int .i64)) .unit)))))) (.pair (.int .i64) (.pair (.int .i64) (.pair (.int .i64) (.pair (.sl (.pair (.int .i64) (.pair (.int .i64) (.pair (.int .i64) (.pair (.int .i64) (.pair (.int .i64) .unit)))))) .unit)))))))))) (fun x => proc_with x.1 x.2.1 x.2.2.1)) := lq_proc_with ▸ c_proc_with
noncomputable def lf_proc_Spawn : List AV → Option AV := liftF (.pair (.sl (.pair (.int .i64) (.pair .bool (.pair (.int .i64) (.pair (.pair (.int .i64) (.pair .bool (.pair (.arr 8 (.int .i64)) (.pair (.arr 16 (.int .i64)) (.pair (.int .i64) (.pair (.arr 8 (.int .i64)) .unit)))))) (.pair (.int .i64) (.pair (.int .i64) (.pair (.int .i64) (.pair (.sl (.pair (.int .i64) (.pair (.int .i64) (.pair (.int .i64) (.pair (.int .i64) (.pair (.int .i64) .unit)))))) .unit))))))))) (.pair (.int .i64) (.pair (.int .i64) .unit))) (unpR (.pair (.sl (.pair (.int .i64) (.pair .bool (.pair (.int .i64) (.pair (.pair (.int .i64) (.pair .bool (.pair (.arr 8 (.int .i64)) (.pair (.arr 16 (.int .i64)) (.pair (.int .i64) (.pair (.arr 8 (.int .i64)) .unit)))))) (.pair (.int .i64) (.pair (.int .i64) (.pair (.int .i64) (.pair (.sl (.pair (.int .i64) (.pair (.int .i64) (.pair (.int .i64) (.pair (.int .i64) (.pair (.int .i64) .unit)))))) .unit))))))))) (.pair (.int .i64) (.pair (.int .i64) .unit)))) (fun x => proc_Spawn x.1 x.2.1 x.2.2.1)
theorem lq_proc_Spawn : lf_proc_Spawn = liftF (.pair (.sl (.pair (.int .i64) (.pair .bool (.pair (.int .i64) (.pair (.pair (.int .i64) (.pair .bool (.pair (.arr 8 (.int .i64)) (.pair (.arr 16 (.int .i64)) (.pair (.int .i64) (.pair (.arr 8 (.int .i64)) .unit)))))) (.pair (.int .i64) (.pair (.int .i64) (.pair (.int .i64) (.pair (.sl (.pair (.int .i64) (.pair (.int .i64) (.pair (.int .i64) (.pair (.int .i64) (.pair (.int .i64) .unit)))))) .unit))))))))) (.pair (.int .i64) (.pair (.int .i64) .unit))) (unpR (.pair (.sl (.pair (.int .i64) (.pair .bool (.pair (.int .i64) (.pair (.pair (.int .i64) (.pair .bool (.pair (.arr 8 (.int .i64)) (.pair (.arr 16 (.int .i64)) (.pair (.int .i64) (.pair (.arr 8 (.int .i64)) .unit)))))) (.pair (.int .i64) (.pair (.int .i64) (.pair (.int .i64) (.pair (.sl (.pair (.int .i64) (.pair (.int .i64) (.pair (.int .i64) (.pair (.int .i64) (.pair (.int .i64) .unit)))))) .unit))))))))) (.pair (.int .i64) (.pair (.int .i64) .unit)))) (fun x => proc_Spawn x.1 x.2.1 x.2.2.1) := rfl
attribute [irreducible] lf_proc_Spawn
theorem ck_proc_Spawn {vs : List AV} {k : AV → Prop} {x : ((.pair (.sl (.pair (.int .i64) (.pair .bool (.pair (.int .i64) (.pair (.pair (.int .i64) (.pair .bool (.pair (.arr 8 (.int .i64)) (.pair (.arr 16 (.int .i64)) (.pair (.int .i64) (.pair (.arr 8 (.int .i64)) .unit)))))) (.pair (.int .i64) (.pair (.int .i64) (.pair (.int .i64) (.pair (.sl (.pair (.int .i64) (.pair (.int .i64) (.pair (.int .i64) (.pair (.int .i64) (.pair (.int .i64) .unit)))))) .unit))))))))) (.pair (.int .i64) (.pair (.int .i64) .unit))) : Ty).den} {v : (List (Int × Bool × Int × (Int × Bool × (List Int) × (List Int) × Int × (List Int) × Unit) × Int × Int × Int × (List (Int × Int × Int × Int × Int × Unit)) × Unit)) × Int × Int × Unit} (h1 : pks (.pair (.sl (.pair (.int .i64) (.pair .bool (.pair (.int .i64) (.pair (.pair (.int .i64) (.pair .bool (.pair (.arr 8 (.int .i64)) (.pair (.arr 16 (.int .i64)) (.pair (.int .i64) (.pair (.arr 8 (.int .i64)) .unit)))))) (.pair (.int .i64) (.pair (.int .i64) (.pair (.int .i64) (.pair (.sl (.pair (.int .i64) (.pair (.int .i64) (.pair (.int .i64) (.pair (.int .i64) (.pair (.int .i64) .unit)))))) .unit))))))))) (.pair (.int .i64) (.pair (.int .i64) .unit))) vs = some x) (h2 : proc_Spawn x.1 x.2.1 x.2.2.1 = some v) (h3 : k ((unpR (.pair (.sl (.pair (.int .i64) (.pair .bool (.pair (.int .i64) (.pair (.pair (.int .i64) (.pair .bool (.pair (.arr 8 (.int .i64)) (.pair (.arr 16 (.int .i64)) (.pair (.int .i64) (.pair (.arr 8 (.int .i64)) .unit)))))) (.pair (.int .i64) (.pair (.int .i64) (.pair (.int .i64) (.pair (.sl (.pair (.int .i64) (.pair (.int .i64) (.pair (.int .i64) (.pair (.int .i64) (.pair (.int .i64) .unit)))))) .unit))))))))) (.pair (.int .i64) (.pair (.int .i64) .unit)))) v)) : callK (lf_proc_Spawn vs) k := by
  rw [lq_proc_Spawn]; exact callK_lift h1 h2 h3
def tt_proc_Spawn : List (Nat × Ty) := [(3, .int .i64), (4, .bool), (25, .sl (.pair (.int .i64) (.pair .bool (.pair (.int .i64) (.pair (.pair (.int .i64) (.pair .bool (.pair (.arr 8 (.int .i64)) (.pair (.arr 16 (.int .i64)) (.pair (.int .i64) (.pair (.arr 8 (.int .i64)) .unit)))))) (.pair (.int .i64) (.pair (.int .i64) (.pair (.int .i64) (.pair (.sl (.pair (.int .i64) (.pair (.int .i64) (.pair (.int .i64) (.pair (.int .i64) (.pair (.int .i64) .unit)))))) .unit))))))))), (27, .int .i64), (67, .pair (.int .i64) (.pair .bool (.pair (.arr 8 (.int .i64)) (.pair (.arr 16 (.int .i64)) (.pair (.int .i64) (.pair (.arr 8 (.int .i64)) .unit)))))), (69, .pair (.int .i64) (.pair .bool (.pair (.int .i64) (.pair (.pair (.int .i64) (.pair .bool (.pair (.arr 8 (.int .i64)) (.pair (.arr 16 (.int .i64)) (.pair (.int .i64) (.pair (.arr 8 (.int .i64)) .unit)))))) (.pair (.int .i64) (.pair (.int .i64) (.pair (.int .i64) (.pair (.sl (.pair (.int .i64) (.pair (.int .i64) (.pair (.int .i64) (.pair (.int .i64) (.pair (.int .i64) .unit)))))) .unit))))))))]
def et_proc_Spawn : List (Nat × Nat) := [(25, 69)]
theorem tt_proc_Spawn_ok : subT tt tt_proc_Spawn = true := by kernel_rfl
theorem et_proc_Spawn_ok : subE et et_proc_Spawn = true := by kernel_rfl
noncomputable def fns_proc_Spawn : List (Nat × (List AV → Option AV)) := [(11, lf_proc_Fine), (36, lf_handle_Make), (41, lf_word_Fine), (42, lf_frame_New), (43, lf_proc_with)]
theorem fns_proc_Spawn_ok : FnsOk Go.Proofs.Try.prog fns_proc_Spawn := FnsOk.cons c_proc_Fine (FnsOk.cons c_handle_Make (FnsOk.cons c_word_Fine (FnsOk.cons c_frame_New (FnsOk.cons c_proc_with (FnsOk.nil _)))))
def proc_Spawn_S1 (u0 : AV) (u1 : AV) (u2 : AV) (u3 : AV) (u4 : AV) (x1 : Int) : St :=
  ⟨[(0, u0), (1, u1), (2, u2), (24, u3), (25, u4), (26, .int .i64 x1)], [], none⟩
def proc_Spawn_M1 : Msk := ⟨[0, 1, 2, 24, 25, 26], [], [], [], [], [], [], [], [], [], []⟩
def kp_proc_Spawn : List (Nat × List Nat) := [(0, [0, 1, 2]), (1, [0, 1, 2, 14]), (2, [6, 7, 8]), (3, [0, 1, 2, 19]), (4, [6, 7, 8]), (5, [0, 1, 2, 24, 25, 26]), (6, [0, 1, 2, 24, 25, 26, 27]), (7, [0, 1, 2, 9, 10, 24, 25, 26]), (8, [0, 1, 2, 9, 10, 24, 25, 26, 37]), (9, [0, 1, 9, 10, 11, 12]), (10, [0, 1, 9, 10, 11, 12, 44]), (11, [6, 7, 8]), (12, [0, 1, 9, 10, 11, 12, 13]), (13, [6, 7, 8]), (14, [0, 1, 2, 24, 25, 26]), (15, [6, 7, 8]), (4000000, []), (4000001, []), (4000002, []), (4000003, []), (4000004, []), (4000005, []), (4000006, []), (4000007, [10]), (4000008, [10]), (4000009, [10, 11]), (4000010, [10, 11]), (4000011, []), (4000012, [10, 11]), (4000013, []), (4000014, []), (4000015, [])]
def od_proc_Spawn : List (Nat × Ord) := []
noncomputable def E_proc_Spawn : Env := ⟨0, 0, et_proc_Spawn, tt_proc_Spawn, fns_proc_Spawn, [], od_proc_Spawn, kp_proc_Spawn, none, []⟩
set_option maxRecDepth 100000 in
set_option maxHeartbeats 40000000 in
theorem c_proc_Spawn : PCon Go.Proofs.Try.prog 20 lf_proc_Spawn := by
  rw [lq_proc_Spawn]
  refine lift_conR (E := E_proc_Spawn) (c := bodyOf Try.f20) (nt := 68) (rs := [.tmp 6, .tmp 7, .tmp 8]) (ts := [25, 3, 27]) (EnvC.sub (off := 0) (nt := 0) (ords := od_proc_Spawn) (keep := kp_proc_Spawn) (yl := none) tt_ok et_ok fns_proc_Spawn_ok (PrsOk.nil _) (ItsOk.nil _) tt_proc_Spawn_ok et_proc_Spawn_ok) (PrOk.of mixed_ok) Go.Proofs.Try.func20 rfl (by decide) rfl rfl rfl (pureR_many (e := (.pair (.sl (.pair (.int .i64) (.pair .bool (.pair (.int .i64) (.pair (.pair (.int .i64) (.pair .bool (.pair (.arr 8 (.int .i64)) (.pair (.arr 16 (.int .i64)) (.pair (.int .i64) (.pair (.arr 8 (.int .i64)) .unit)))))) (.pair (.int .i64) (.pair (.int .i64) (.pair (.int .i64) (.pair (.sl (.pair (.int .i64) (.pair (.int .i64) (.pair (.int .i64) (.pair (.int .i64) (.pair (.int .i64) .unit)))))) .unit))))))))) (.pair (.int .i64) (.pair (.int .i64) .unit)))) rfl) ?_
  intro x r hw hs
  repeat'
    (try (conv => whnf)
     first
       | (with_reducible have hs := letv_out hs)
       | (refine draw_and (by kernel_rfl) ?_)
       | (refine both_mk ?_ ?_)
       | (refine br_bool (fun h => ?_) (fun h => ?_) <;> first | have hs := cT h hs | have hs := cF h hs)
       | (refine bind_elim hs fun v hb hs => ?_; first | refine ck_proc_Fine rfl hb ?_ | refine ck_handle_Make rfl hb ?_ | refine ck_word_Fine rfl hb ?_ | refine ck_frame_New rfl hb ?_ | refine ck_proc_with rfl hb ?_)
       | refine chk_elim hs fun hs => ?_
       | (have hs := letv_out hs)
       | exact fin_some hs rfl
       | (intro b hb; first | have hs := nilq_elim hs b hb | have hs := nilqn_elim hs b hb)
       | exact hJ1 _ hs
       | (have hs := cT rfl hs)
       | (have hs := cF rfl hs)
       | ((with_reducible have hs : loop (proc_Spawn_L1 _ _ _ _) _ = some _ := hs); refine vc_loopR (proc_Spawn_S1 _ _ _ _ _) proc_Spawn_M1 hs rfl ?_; intro J1 k1 x1 hJ1 hs)
       | (refine vc_loopR (proc_Spawn_S1 _ _ _ _ _) proc_Spawn_M1 hs rfl ?_; intro J1 k1 x1 hJ1 hs)
       | exact (none_ne hs).elim)
theorem cq_proc_Spawn : PCon Go.Proofs.Try.prog 20 (liftF (.pair (.sl (.pair (.int .i64) (.pair .bool (.pair (.int .i64) (.pair (.pair (.int .i64) (.pair .bool (.pair (.arr 8 (.int .i64)) (.pair (.arr 16 (.int .i64)) (.pair (.int .i64) (.pair (.arr 8 (.int .i64)) .unit)))))) (.pair (.int .i64) (.pair (.int .i64) (.pair (.int .i64) (.pair (.sl (.pair (.int .i64) (.pair (.int .i64) (.pair (.int .i64) (.pair (.int .i64) (.pair (.int .i64) .unit)))))) .unit))))))))) (.pair (.int .i64) (.pair (.int .i64) .unit))) (unpR (.pair (.sl (.pair (.int .i64) (.pair .bool (.pair (.int .i64) (.pair (.pair (.int .i64) (.pair .bool (.pair (.arr 8 (.int .i64)) (.pair (.arr 16 (.int .i64)) (.pair (.int .i64) (.pair (.arr 8 (.int .i64)) .unit)))))) (.pair (.int .i64) (.pair (.int .i64) (.pair (.int .i64) (.pair (.sl (.pair (.int .i64) (.pair (.int .i64) (.pair (.int .i64) (.pair (.int .i64) (.pair (.int .i64) .unit)))))) .unit))))))))) (.pair (.int .i64) (.pair (.int .i64) .unit)))) (fun x => proc_Spawn x.1 x.2.1 x.2.2.1)) := lq_proc_Spawn ▸ c_proc_Spawn
noncomputable def lf_proc_End : List AV → Option AV := liftF (.pair (.sl (.pair (.int .i64) (.pair .bool (.pair (.int .i64) (.pair (.pair (.int .i64) (.pair .bool (.pair (.arr 8 (.int .i64)) (.pair (.arr 16 (.int .i64)) (.pair (.int .i64) (.pair (.arr 8 (.int .i64)) .unit)))))) (.pair (.int .i64) (.pair (.int .i64) (.pair (.int .i64) (.pair (.sl (.pair (.int .i64) (.pair (.int .i64) (.pair (.int .i64) (.pair (.int .i64) (.pair (.int .i64) .unit)))))) .unit))))))))) (.pair (.int .i64) (.pair (.int .i64) .unit))) (unpR (.pair (.sl (.pair (.int .i64) (.pair .bool (.pair (.int .i64) (.pair (.pair (.int .i64) (.pair .bool (.pair (.arr 8 (.int .i64)) (.pair (.arr 16 (.int .i64)) (.pair (.int .i64) (.pair (.arr 8 (.int .i64)) .unit)))))) (.pair (.int .i64) (.pair (.int .i64) (.pair (.int .i64) (.pair (.sl (.pair (.int .i64) (.pair (.int .i64) (.pair (.int .i64) (.pair (.int .i64) (.pair (.int .i64) .unit)))))) .unit))))))))) (.pair (.int .i64) .unit))) (fun x => proc_End x.1 x.2.1 x.2.2.1)
theorem lq_proc_End : lf_proc_End = liftF (.pair (.sl (.pair (.int .i64) (.pair .bool (.pair (.int .i64) (.pair (.pair (.int .i64) (.pair .bool (.pair (.arr 8 (.int .i64)) (.pair (.arr 16 (.int .i64)) (.pair (.int .i64) (.pair (.arr 8 (.int .i64)) .unit)))))) (.pair (.int .i64) (.pair (.int .i64) (.pair (.int .i64) (.pair (.sl (.pair (.int .i64) (.pair (.int .i64) (.pair (.int .i64) (.pair (.int .i64) (.pair (.int .i64) .unit)))))) .unit))))))))) (.pair (.int .i64) (.pair (.int .i64) .unit))) (unpR (.pair (.sl (.pair (.int .i64) (.pair .bool (.pair (.int .i64) (.pair (.pair (.int .i64) (.pair .bool (.pair (.arr 8 (.int .i64)) (.pair (.arr 16 (.int .i64)) (.pair (.int .i64) (.pair (.arr 8 (.int .i64)) .unit)))))) (.pair (.int .i64) (.pair (.int .i64) (.pair (.int .i64) (.pair (.sl (.pair (.int .i64) (.pair (.int .i64) (.pair (.int .i64) (.pair (.int .i64) (.pair (.int .i64) .unit)))))) .unit))))))))) (.pair (.int .i64) .unit))) (fun x => proc_End x.1 x.2.1 x.2.2.1) := rfl
attribute [irreducible] lf_proc_End
theorem ck_proc_End {vs : List AV} {k : AV → Prop} {x : ((.pair (.sl (.pair (.int .i64) (.pair .bool (.pair (.int .i64) (.pair (.pair (.int .i64) (.pair .bool (.pair (.arr 8 (.int .i64)) (.pair (.arr 16 (.int .i64)) (.pair (.int .i64) (.pair (.arr 8 (.int .i64)) .unit)))))) (.pair (.int .i64) (.pair (.int .i64) (.pair (.int .i64) (.pair (.sl (.pair (.int .i64) (.pair (.int .i64) (.pair (.int .i64) (.pair (.int .i64) (.pair (.int .i64) .unit)))))) .unit))))))))) (.pair (.int .i64) (.pair (.int .i64) .unit))) : Ty).den} {v : (List (Int × Bool × Int × (Int × Bool × (List Int) × (List Int) × Int × (List Int) × Unit) × Int × Int × Int × (List (Int × Int × Int × Int × Int × Unit)) × Unit)) × Int × Unit} (h1 : pks (.pair (.sl (.pair (.int .i64) (.pair .bool (.pair (.int .i64) (.pair (.pair (.int .i64) (.pair .bool (.pair (.arr 8 (.int .i64)) (.pair (.arr 16 (.int .i64)) (.pair (.int .i64) (.pair (.arr 8 (.int .i64)) .unit)))))) (.pair (.int .i64) (.pair (.int .i64) (.pair (.int .i64) (.pair (.sl (.pair (.int .i64) (.pair (.int .i64) (.pair (.int .i64) (.pair (.int .i64) (.pair (.int .i64) .unit)))))) .unit))))))))) (.pair (.int .i64) (.pair (.int .i64) .unit))) vs = some x) (h2 : proc_End x.1 x.2.1 x.2.2.1 = some v) (h3 : k ((unpR (.pair (.sl (.pair (.int .i64) (.pair .bool (.pair (.int .i64) (.pair (.pair (.int .i64) (.pair .bool (.pair (.arr 8 (.int .i64)) (.pair (.arr 16 (.int .i64)) (.pair (.int .i64) (.pair (.arr 8 (.int .i64)) .unit)))))) (.pair (.int .i64) (.pair (.int .i64) (.pair (.int .i64) (.pair (.sl (.pair (.int .i64) (.pair (.int .i64) (.pair (.int .i64) (.pair (.int .i64) (.pair (.int .i64) .unit)))))) .unit))))))))) (.pair (.int .i64) .unit))) v)) : callK (lf_proc_End vs) k := by
  rw [lq_proc_End]; exact callK_lift h1 h2 h3
def tt_proc_End : List (Nat × Ty) := [(3, .int .i64), (4, .bool), (25, .sl (.pair (.int .i64) (.pair .bool (.pair (.int .i64) (.pair (.pair (.int .i64) (.pair .bool (.pair (.arr 8 (.int .i64)) (.pair (.arr 16 (.int .i64)) (.pair (.int .i64) (.pair (.arr 8 (.int .i64)) .unit)))))) (.pair (.int .i64) (.pair (.int .i64) (.pair (.int .i64) (.pair (.sl (.pair (.int .i64) (.pair (.int .i64) (.pair (.int .i64) (.pair (.int .i64) (.pair (.int .i64) .unit)))))) .unit))))))))), (27, .int .i64), (69, .pair (.int .i64) (.pair .bool (.pair (.int .i64) (.pair (.pair (.int .i64) (.pair .bool (.pair (.arr 8 (.int .i64)) (.pair (.arr 16 (.int .i64)) (.pair (.int .i64) (.pair (.arr 8 (.int .i64)) .unit)))))) (.pair (.int .i64) (.pair (.int .i64) (.pair (.int .i64) (.pair (.sl (.pair (.int .i64) (.pair (.int .i64) (.pair (.int .i64) (.pair (.int .i64) (.pair (.int .i64) .unit)))))) .unit))))))))]
def et_proc_End : List (Nat × Nat) := [(25, 69)]
theorem tt_proc_End_ok : subT tt tt_proc_End = true := by kernel_rfl
theorem et_proc_End_ok : subE et et_proc_End = true := by kernel_rfl
noncomputable def fns_proc_End : List (Nat × (List AV → Option AV)) := [(11, lf_proc_Fine), (35, lf_proc_there), (43, lf_proc_with)]
theorem fns_proc_End_ok : FnsOk Go.Proofs.Try.prog fns_proc_End := FnsOk.cons c_proc_Fine (FnsOk.cons c_proc_there (FnsOk.cons c_proc_with (FnsOk.nil _)))
def kp_proc_End : List (Nat × List Nat) := [(0, [0, 1, 2]), (1, [0, 1, 2, 9]), (2, [6, 7]), (3, [0, 1, 2, 14]), (4, [6, 7]), (5, [0, 1, 2, 20]), (6, [6, 7]), (7, [0, 1, 2, 8]), (8, [0, 1, 8]), (9, [6, 7]), (4000000, []), (4000001, []), (4000002, []), (4000003, []), (4000004, []), (4000005, []), (4000006, []), (4000007, [8]), (4000008, [8]), (4000009, [])]
def od_proc_End : List (Nat × Ord) := []
noncomputable def E_proc_End : Env := ⟨0, 0, et_proc_End, tt_proc_End, fns_proc_End, [], od_proc_End, kp_proc_End, none, []⟩
set_option maxRecDepth 100000 in
set_option maxHeartbeats 40000000 in
theorem c_proc_End : PCon Go.Proofs.Try.prog 22 lf_proc_End := by
  rw [lq_proc_End]
  refine lift_conR (E := E_proc_End) (c := bodyOf Try.f22) (nt := 39) (rs := [.tmp 6, .tmp 7]) (ts := [25, 27]) (EnvC.sub (off := 0) (nt := 0) (ords := od_proc_End) (keep := kp_proc_End) (yl := none) tt_ok et_ok fns_proc_End_ok (PrsOk.nil _) (ItsOk.nil _) tt_proc_End_ok et_proc_End_ok) (PrOk.of mixed_ok) Go.Proofs.Try.func22 rfl (by decide) rfl rfl rfl (pureR_many (e := (.pair (.sl (.pair (.int .i64) (.pair .bool (.pair (.int .i64) (.pair (.pair (.int .i64) (.pair .bool (.pair (.arr 8 (.int .i64)) (.pair (.arr 16 (.int .i64)) (.pair (.int .i64) (.pair (.arr 8 (.int .i64)) .unit)))))) (.pair (.int .i64) (.pair (.int .i64) (.pair (.int .i64) (.pair (.sl (.pair (.int .i64) (.pair (.int .i64) (.pair (.int .i64) (.pair (.int .i64) (.pair (.int .i64) .unit)))))) .unit))))))))) (.pair (.int .i64) .unit))) rfl) ?_
  intro x r hw hs
  repeat'
    (try (conv => whnf)
     first
       | (with_reducible have hs := letv_out hs)
       | (refine draw_and (by kernel_rfl) ?_)
       | (refine both_mk ?_ ?_)
       | (refine br_bool (fun h => ?_) (fun h => ?_) <;> first | have hs := cT h hs | have hs := cF h hs)
       | (refine bind_elim hs fun v hb hs => ?_; first | refine ck_proc_Fine rfl hb ?_ | refine ck_proc_there rfl hb ?_ | refine ck_proc_with rfl hb ?_)
       | refine chk_elim hs fun hs => ?_
       | (have hs := letv_out hs)
       | exact fin_some hs rfl
       | (intro b hb; first | have hs := nilq_elim hs b hb | have hs := nilqn_elim hs b hb)
       | (have hs := cT rfl hs)
       | (have hs := cF rfl hs)
       | exact (none_ne hs).elim)
theorem cq_proc_End : PCon Go.Proofs.Try.prog 22 (liftF (.pair (.sl (.pair (.int .i64) (.pair .bool (.pair (.int .i64) (.pair (.pair (.int .i64) (.pair .bool (.pair (.arr 8 (.int .i64)) (.pair (.arr 16 (.int .i64)) (.pair (.int .i64) (.pair (.arr 8 (.int .i64)) .unit)))))) (.pair (.int .i64) (.pair (.int .i64) (.pair (.int .i64) (.pair (.sl (.pair (.int .i64) (.pair (.int .i64) (.pair (.int .i64) (.pair (.int .i64) (.pair (.int .i64) .unit)))))) .unit))))))))) (.pair (.int .i64) (.pair (.int .i64) .unit))) (unpR (.pair (.sl (.pair (.int .i64) (.pair .bool (.pair (.int .i64) (.pair (.pair (.int .i64) (.pair .bool (.pair (.arr 8 (.int .i64)) (.pair (.arr 16 (.int .i64)) (.pair (.int .i64) (.pair (.arr 8 (.int .i64)) .unit)))))) (.pair (.int .i64) (.pair (.int .i64) (.pair (.int .i64) (.pair (.sl (.pair (.int .i64) (.pair (.int .i64) (.pair (.int .i64) (.pair (.int .i64) (.pair (.int .i64) .unit)))))) .unit))))))))) (.pair (.int .i64) .unit))) (fun x => proc_End x.1 x.2.1 x.2.2.1)) := lq_proc_End ▸ c_proc_End
noncomputable def lf_proc_Reap : List AV → Option AV := liftF (.pair (.sl (.pair (.int .i64) (.pair .bool (.pair (.int .i64) (.pair (.pair (.int .i64) (.pair .bool (.pair (.arr 8 (.int .i64)) (.pair (.arr 16 (.int .i64)) (.pair (.int .i64) (.pair (.arr 8 (.int .i64)) .unit)))))) (.pair (.int .i64) (.pair (.int .i64) (.pair (.int .i64) (.pair (.sl (.pair (.int .i64) (.pair (.int .i64) (.pair (.int .i64) (.pair (.int .i64) (.pair (.int .i64) .unit)))))) .unit))))))))) (.pair (.int .i64) .unit)) (unpR (.pair (.sl (.pair (.int .i64) (.pair .bool (.pair (.int .i64) (.pair (.pair (.int .i64) (.pair .bool (.pair (.arr 8 (.int .i64)) (.pair (.arr 16 (.int .i64)) (.pair (.int .i64) (.pair (.arr 8 (.int .i64)) .unit)))))) (.pair (.int .i64) (.pair (.int .i64) (.pair (.int .i64) (.pair (.sl (.pair (.int .i64) (.pair (.int .i64) (.pair (.int .i64) (.pair (.int .i64) (.pair (.int .i64) .unit)))))) .unit))))))))) (.pair (.int .i64) (.pair (.int .i64) .unit)))) (fun x => proc_Reap x.1 x.2.1)
theorem lq_proc_Reap : lf_proc_Reap = liftF (.pair (.sl (.pair (.int .i64) (.pair .bool (.pair (.int .i64) (.pair (.pair (.int .i64) (.pair .bool (.pair (.arr 8 (.int .i64)) (.pair (.arr 16 (.int .i64)) (.pair (.int .i64) (.pair (.arr 8 (.int .i64)) .unit)))))) (.pair (.int .i64) (.pair (.int .i64) (.pair (.int .i64) (.pair (.sl (.pair (.int .i64) (.pair (.int .i64) (.pair (.int .i64) (.pair (.int .i64) (.pair (.int .i64) .unit)))))) .unit))))))))) (.pair (.int .i64) .unit)) (unpR (.pair (.sl (.pair (.int .i64) (.pair .bool (.pair (.int .i64) (.pair (.pair (.int .i64) (.pair .bool (.pair (.arr 8 (.int .i64)) (.pair (.arr 16 (.int .i64)) (.pair (.int .i64) (.pair (.arr 8 (.int .i64)) .unit)))))) (.pair (.int .i64) (.pair (.int .i64) (.pair (.int .i64) (.pair (.sl (.pair (.int .i64) (.pair (.int .i64) (.pair (.int .i64) (.pair (.int .i64) (.pair (.int .i64) .unit)))))) .unit))))))))) (.pair (.int .i64) (.pair (.int .i64) .unit)))) (fun x => proc_Reap x.1 x.2.1) := rfl
attribute [irreducible] lf_proc_Reap
theorem ck_proc_Reap {vs : List AV} {k : AV → Prop} {x : ((.pair (.sl (.pair (.int .i64) (.pair .bool (.pair (.int .i64) (.pair (.pair (.int .i64) (.pair .bool (.pair (.arr 8 (.int .i64)) (.pair (.arr 16 (.int .i64)) (.pair (.int .i64) (.pair (.arr 8 (.int .i64)) .unit)))))) (.pair (.int .i64) (.pair (.int .i64) (.pair (.int .i64) (.pair (.sl (.pair (.int .i64) (.pair (.int .i64) (.pair (.int .i64) (.pair (.int .i64) (.pair (.int .i64) .unit)))))) .unit))))))))) (.pair (.int .i64) .unit)) : Ty).den} {v : (List (Int × Bool × Int × (Int × Bool × (List Int) × (List Int) × Int × (List Int) × Unit) × Int × Int × Int × (List (Int × Int × Int × Int × Int × Unit)) × Unit)) × Int × Int × Unit} (h1 : pks (.pair (.sl (.pair (.int .i64) (.pair .bool (.pair (.int .i64) (.pair (.pair (.int .i64) (.pair .bool (.pair (.arr 8 (.int .i64)) (.pair (.arr 16 (.int .i64)) (.pair (.int .i64) (.pair (.arr 8 (.int .i64)) .unit)))))) (.pair (.int .i64) (.pair (.int .i64) (.pair (.int .i64) (.pair (.sl (.pair (.int .i64) (.pair (.int .i64) (.pair (.int .i64) (.pair (.int .i64) (.pair (.int .i64) .unit)))))) .unit))))))))) (.pair (.int .i64) .unit)) vs = some x) (h2 : proc_Reap x.1 x.2.1 = some v) (h3 : k ((unpR (.pair (.sl (.pair (.int .i64) (.pair .bool (.pair (.int .i64) (.pair (.pair (.int .i64) (.pair .bool (.pair (.arr 8 (.int .i64)) (.pair (.arr 16 (.int .i64)) (.pair (.int .i64) (.pair (.arr 8 (.int .i64)) .unit)))))) (.pair (.int .i64) (.pair (.int .i64) (.pair (.int .i64) (.pair (.sl (.pair (.int .i64) (.pair (.int .i64) (.pair (.int .i64) (.pair (.int .i64) (.pair (.int .i64) .unit)))))) .unit))))))))) (.pair (.int .i64) (.pair (.int .i64) .unit)))) v)) : callK (lf_proc_Reap vs) k := by
  rw [lq_proc_Reap]; exact callK_lift h1 h2 h3
def tt_proc_Reap : List (Nat × Ty) := [(3, .int .i64), (25, .sl (.pair (.int .i64) (.pair .bool (.pair (.int .i64) (.pair (.pair (.int .i64) (.pair .bool (.pair (.arr 8 (.int .i64)) (.pair (.arr 16 (.int .i64)) (.pair (.int .i64) (.pair (.arr 8 (.int .i64)) .unit)))))) (.pair (.int .i64) (.pair (.int .i64) (.pair (.int .i64) (.pair (.sl (.pair (.int .i64) (.pair (.int .i64) (.pair (.int .i64) (.pair (.int .i64) (.pair (.int .i64) .unit)))))) .unit))))))))), (27, .int .i64), (69, .pair (.int .i64) (.pair .bool (.pair (.int .i64) (.pair (.pair (.int .i64) (.pair .bool (.pair (.arr 8 (.int .i64)) (.pair (.arr 16 (.int .i64)) (.pair (.int .i64) (.pair (.arr 8 (.int .i64)) .unit)))))) (.pair (.int .i64) (.pair (.int .i64) (.pair (.int .i64) (.pair (.sl (.pair (.int .i64) (.pair (.int .i64) (.pair (.int .i64) (.pair (.int .i64) (.pair (.int .i64) .unit)))))) .unit))))))))]
def et_proc_Reap : List (Nat × Nat) := [(25, 69)]
theorem tt_proc_Reap_ok : subT tt tt_proc_Reap = true := by kernel_rfl
theorem et_proc_Reap_ok : subE et et_proc_Reap = true := by kernel_rfl
noncomputable def fns_proc_Reap : List (Nat × (List AV → Option AV)) := [(9, lf_proc_Find), (43, lf_proc_with)]
theorem fns_proc_Reap_ok : FnsOk Go.Proofs.Try.prog fns_proc_Reap := FnsOk.cons c_proc_Find (FnsOk.cons c_proc_with (FnsOk.nil _))
def kp_proc_Reap : List (Nat × List Nat) := [(0, [0, 1]), (1, [0, 7, 8]), (2, [0, 7, 8, 15]), (3, [4, 5, 6]), (4, [0, 7, 20]), (5, [4, 5, 6]), (6, [4, 5, 6]), (4000000, []), (4000001, []), (4000002, []), (4000003, []), (4000004, []), (4000005, []), (4000006, [])]
def od_proc_Reap : List (Nat × Ord) := [(6, (.one 0 (.one 1 (.one 2 (.one 3 (.one 4 (.one 5 (.one 6 (.one 7 (.one 9 (.one 10 (.one 11 (.one 12 (.one 13 (.one 8 (.one 14 (.one 15 (.one 16 .nil))))))))))))))))))]
noncomputable def E_proc_Reap : Env := ⟨0, 0, et_proc_Reap, tt_proc_Reap, fns_proc_Reap, [], od_proc_Reap, kp_proc_Reap, none, []⟩
set_option maxRecDepth 100000 in
set_option maxHeartbeats 40000000 in
theorem c_proc_Reap : PCon Go.Proofs.Try.prog 24 lf_proc_Reap := by
  rw [lq_proc_Reap]
  refine lift_conR (E := E_proc_Reap) (c := bodyOf Try.f24) (nt := 42) (rs := [.tmp 4, .tmp 5, .tmp 6]) (ts := [25, 3, 27]) (EnvC.sub (off := 0) (nt := 0) (ords := od_proc_Reap) (keep := kp_proc_Reap) (yl := none) tt_ok et_ok fns_proc_Reap_ok (PrsOk.nil _) (ItsOk.nil _) tt_proc_Reap_ok et_proc_Reap_ok) (PrOk.of mixed_ok) Go.Proofs.Try.func24 rfl (by decide) rfl rfl rfl (pureR_many (e := (.pair (.sl (.pair (.int .i64) (.pair .bool (.pair (.int .i64) (.pair (.pair (.int .i64) (.pair .bool (.pair (.arr 8 (.int .i64)) (.pair (.arr 16 (.int .i64)) (.pair (.int .i64) (.pair (.arr 8 (.int .i64)) .unit)))))) (.pair (.int .i64) (.pair (.int .i64) (.pair (.int .i64) (.pair (.sl (.pair (.int .i64) (.pair (.int .i64) (.pair (.int .i64) (.pair (.int .i64) (.pair (.int .i64) .unit)))))) .unit))))))))) (.pair (.int .i64) (.pair (.int .i64) .unit)))) rfl) ?_
  intro x r hw hs
  repeat'
    (try (conv => whnf)
     first
       | (with_reducible have hs := letv_out hs)
       | (refine draw_and (by kernel_rfl) ?_)
       | (refine both_mk ?_ ?_)
       | (refine br_bool (fun h => ?_) (fun h => ?_) <;> first | have hs := cT h hs | have hs := cF h hs)
       | (refine bind_elim hs fun v hb hs => ?_; first | refine ck_proc_Find rfl hb ?_ | refine ck_proc_with rfl hb ?_)
       | refine chk_elim hs fun hs => ?_
       | (have hs := letv_out hs)
       | exact fin_some hs rfl
       | (intro b hb; first | have hs := nilq_elim hs b hb | have hs := nilqn_elim hs b hb)
       | (have hs := cT rfl hs)
       | (have hs := cF rfl hs)
       | exact (none_ne hs).elim)
theorem cq_proc_Reap : PCon Go.Proofs.Try.prog 24 (liftF (.pair (.sl (.pair (.int .i64) (.pair .bool (.pair (.int .i64) (.pair (.pair (.int .i64) (.pair .bool (.pair (.arr 8 (.int .i64)) (.pair (.arr 16 (.int .i64)) (.pair (.int .i64) (.pair (.arr 8 (.int .i64)) .unit)))))) (.pair (.int .i64) (.pair (.int .i64) (.pair (.int .i64) (.pair (.sl (.pair (.int .i64) (.pair (.int .i64) (.pair (.int .i64) (.pair (.int .i64) (.pair (.int .i64) .unit)))))) .unit))))))))) (.pair (.int .i64) .unit)) (unpR (.pair (.sl (.pair (.int .i64) (.pair .bool (.pair (.int .i64) (.pair (.pair (.int .i64) (.pair .bool (.pair (.arr 8 (.int .i64)) (.pair (.arr 16 (.int .i64)) (.pair (.int .i64) (.pair (.arr 8 (.int .i64)) .unit)))))) (.pair (.int .i64) (.pair (.int .i64) (.pair (.int .i64) (.pair (.sl (.pair (.int .i64) (.pair (.int .i64) (.pair (.int .i64) (.pair (.int .i64) (.pair (.int .i64) .unit)))))) .unit))))))))) (.pair (.int .i64) (.pair (.int .i64) .unit)))) (fun x => proc_Reap x.1 x.2.1)) := lq_proc_Reap ▸ c_proc_Reap
noncomputable def lf_proc_New : List AV → Option AV := liftF .unit (unpack (.sl (.pair (.int .i64) (.pair .bool (.pair (.int .i64) (.pair (.pair (.int .i64) (.pair .bool (.pair (.arr 8 (.int .i64)) (.pair (.arr 16 (.int .i64)) (.pair (.int .i64) (.pair (.arr 8 (.int .i64)) .unit)))))) (.pair (.int .i64) (.pair (.int .i64) (.pair (.int .i64) (.pair (.sl (.pair (.int .i64) (.pair (.int .i64) (.pair (.int .i64) (.pair (.int .i64) (.pair (.int .i64) .unit)))))) .unit)))))))))) (fun x => proc_New)
theorem lq_proc_New : lf_proc_New = liftF .unit (unpack (.sl (.pair (.int .i64) (.pair .bool (.pair (.int .i64) (.pair (.pair (.int .i64) (.pair .bool (.pair (.arr 8 (.int .i64)) (.pair (.arr 16 (.int .i64)) (.pair (.int .i64) (.pair (.arr 8 (.int .i64)) .unit)))))) (.pair (.int .i64) (.pair (.int .i64) (.pair (.int .i64) (.pair (.sl (.pair (.int .i64) (.pair (.int .i64) (.pair (.int .i64) (.pair (.int .i64) (.pair (.int .i64) .unit)))))) .unit)))))))))) (fun x => proc_New) := rfl
attribute [irreducible] lf_proc_New
theorem ck_proc_New {vs : List AV} {k : AV → Prop} {x : (.unit : Ty).den} {v : List (Int × Bool × Int × (Int × Bool × (List Int) × (List Int) × Int × (List Int) × Unit) × Int × Int × Int × (List (Int × Int × Int × Int × Int × Unit)) × Unit)} (h1 : pks .unit vs = some x) (h2 : proc_New = some v) (h3 : k ((unpack (.sl (.pair (.int .i64) (.pair .bool (.pair (.int .i64) (.pair (.pair (.int .i64) (.pair .bool (.pair (.arr 8 (.int .i64)) (.pair (.arr 16 (.int .i64)) (.pair (.int .i64) (.pair (.arr 8 (.int .i64)) .unit)))))) (.pair (.int .i64) (.pair (.int .i64) (.pair (.int .i64) (.pair (.sl (.pair (.int .i64) (.pair (.int .i64) (.pair (.int .i64) (.pair (.int .i64) (.pair (.int .i64) .unit)))))) .unit)))))))))) v)) : callK (lf_proc_New vs) k := by
  rw [lq_proc_New]; exact callK_lift h1 h2 h3
def tt_proc_New : List (Nat × Ty) := [(25, .sl (.pair (.int .i64) (.pair .bool (.pair (.int .i64) (.pair (.pair (.int .i64) (.pair .bool (.pair (.arr 8 (.int .i64)) (.pair (.arr 16 (.int .i64)) (.pair (.int .i64) (.pair (.arr 8 (.int .i64)) .unit)))))) (.pair (.int .i64) (.pair (.int .i64) (.pair (.int .i64) (.pair (.sl (.pair (.int .i64) (.pair (.int .i64) (.pair (.int .i64) (.pair (.int .i64) (.pair (.int .i64) .unit)))))) .unit)))))))))]
def et_proc_New : List (Nat × Nat) := [(25, 69)]
theorem tt_proc_New_ok : subT tt tt_proc_New = true := by kernel_rfl
theorem et_proc_New_ok : subE et et_proc_New = true := by kernel_rfl
noncomputable def fns_proc_New : List (Nat × (List AV → Option AV)) := []
theorem fns_proc_New_ok : FnsOk Go.Proofs.Try.prog fns_proc_New := FnsOk.nil _
def kp_proc_New : List (Nat × List Nat) := [(0, []), (1, [0]), (4000000, []), (4000001, [1])]
def od_proc_New : List (Nat × Ord) := []
noncomputable def E_proc_New : Env := ⟨0, 0, et_proc_New, tt_proc_New, fns_proc_New, [], od_proc_New, kp_proc_New, none, []⟩
set_option maxRecDepth 100000 in
set_option maxHeartbeats 40000000 in
theorem c_proc_New : PCon Go.Proofs.Try.prog 28 lf_proc_New := by
  rw [lq_proc_New]
  refine lift_conR (E := E_proc_New) (c := bodyOf Try.f28) (nt := 2) (rs := [.tmp 0]) (ts := [25]) (EnvC.sub (off := 0) (nt := 0) (ords := od_proc_New) (keep := kp_proc_New) (yl := none) tt_ok et_ok fns_proc_New_ok (PrsOk.nil _) (ItsOk.nil _) tt_proc_New_ok et_proc_New_ok) (PrOk.of mixed_ok) Go.Proofs.Try.func28 rfl (by decide) rfl rfl rfl (pureR_one (e := (.sl (.pair (.int .i64) (.pair .bool (.pair (.int .i64) (.pair (.pair (.int .i64) (.pair .bool (.pair (.arr 8 (.int .i64)) (.pair (.arr 16 (.int .i64)) (.pair (.int .i64) (.pair (.arr 8 (.int .i64)) .unit)))))) (.pair (.int .i64) (.pair (.int .i64) (.pair (.int .i64) (.pair (.sl (.pair (.int .i64) (.pair (.int .i64) (.pair (.int .i64) (.pair (.int .i64) (.pair (.int .i64) .unit)))))) .unit)))))))))) rfl) ?_
  intro x r hw hs
  repeat'
    (try (conv => whnf)
     first
       | (with_reducible have hs := letv_out hs)
       | (refine draw_and (by kernel_rfl) ?_)
       | (refine both_mk ?_ ?_)
       | (refine br_bool (fun h => ?_) (fun h => ?_) <;> first | have hs := cT h hs | have hs := cF h hs)
       | refine chk_elim hs fun hs => ?_
       | (have hs := letv_out hs)
       | exact fin_some hs rfl
       | (intro b hb; first | have hs := nilq_elim hs b hb | have hs := nilqn_elim hs b hb)
       | (have hs := cT rfl hs)
       | (have hs := cF rfl hs)
       | exact (none_ne hs).elim)
theorem cq_proc_New : PCon Go.Proofs.Try.prog 28 (liftF .unit (unpack (.sl (.pair (.int .i64) (.pair .bool (.pair (.int .i64) (.pair (.pair (.int .i64) (.pair .bool (.pair (.arr 8 (.int .i64)) (.pair (.arr 16 (.int .i64)) (.pair (.int .i64) (.pair (.arr 8 (.int .i64)) .unit)))))) (.pair (.int .i64) (.pair (.int .i64) (.pair (.int .i64) (.pair (.sl (.pair (.int .i64) (.pair (.int .i64) (.pair (.int .i64) (.pair (.int .i64) (.pair (.int .i64) .unit)))))) .unit)))))))))) (fun x => proc_New)) := lq_proc_New ▸ c_proc_New
end Go.Proofs.YtejedlpnejjnbaaSV
