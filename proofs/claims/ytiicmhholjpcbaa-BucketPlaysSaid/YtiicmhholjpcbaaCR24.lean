import Derived.Test.YtiicmhholjpcbaaVcTab
import Derived.Test.YtiicmhholjpcbaaDR24
namespace Go.Proofs.YtiicmhholjpcbaaV
open Go.Proofs
set_option linter.unusedVariables false
noncomputable def lf_R24_New : List AV → Option AV := liftF (.pair (.int .i64) .unit) (unpR (.pair (.sl (.sl (.int .i64))) (.pair (.int .i64) .unit))) (fun x => R24_New x.1)
theorem lq_R24_New : lf_R24_New = liftF (.pair (.int .i64) .unit) (unpR (.pair (.sl (.sl (.int .i64))) (.pair (.int .i64) .unit))) (fun x => R24_New x.1) := rfl
attribute [irreducible] lf_R24_New
theorem ck_R24_New {vs : List AV} {k : AV → Prop} {x : ((.pair (.int .i64) .unit) : Ty).den} {v : (List (List Int)) × Int × Unit} (h1 : pks (.pair (.int .i64) .unit) vs = some x) (h2 : R24_New x.1 = some v) (h3 : k ((unpR (.pair (.sl (.sl (.int .i64))) (.pair (.int .i64) .unit))) v)) : callK (lf_R24_New vs) k := by
  rw [lq_R24_New]; exact callK_lift h1 h2 h3
def tt_R24_New : List (Nat × Ty) := [(3, .int .i64), (59, .sl (.sl (.int .i64)))]
def et_R24_New : List (Nat × Nat) := [(59, 36)]
theorem tt_R24_New_ok : subT tt tt_R24_New = true := by kernel_rfl
theorem et_R24_New_ok : subE et et_R24_New = true := by kernel_rfl
noncomputable def fns_R24_New : List (Nat × (List AV → Option AV)) := []
theorem fns_R24_New_ok : FnsOk Go.Proofs.Try.prog fns_R24_New := FnsOk.nil _
def kp_R24_New : List (Nat × List Nat) := [(0, [0]), (1, [0, 9]), (2, [2, 3]), (3, [2, 3]), (4000000, []), (4000001, []), (4000002, []), (4000003, [11])]
def od_R24_New : List (Nat × Ord) := []
noncomputable def E_R24_New : Env := ⟨0, 0, et_R24_New, tt_R24_New, fns_R24_New, [], od_R24_New, kp_R24_New, none, []⟩
set_option maxRecDepth 100000 in
set_option maxHeartbeats 40000000 in
theorem c_R24_New : PCon Go.Proofs.Try.prog 45 lf_R24_New := by
  rw [lq_R24_New]
  refine lift_conR (E := E_R24_New) (c := bodyOf Try.f45) (nt := 12) (rs := [.tmp 2, .tmp 3]) (ts := [59, 3]) (EnvC.sub (off := 0) (nt := 0) (ords := od_R24_New) (keep := kp_R24_New) (yl := none) tt_ok et_ok fns_R24_New_ok (PrsOk.nil _) (ItsOk.nil _) tt_R24_New_ok et_R24_New_ok) (PrOk.of mixed_ok) Go.Proofs.Try.func45 rfl (by decide) rfl rfl rfl (pureR_many (e := (.pair (.sl (.sl (.int .i64))) (.pair (.int .i64) .unit))) rfl) ?_
  intro x r hw hs
  repeat'
    (try (conv => whnf)
     first
       | (with_reducible have hs := letv_out hs)
       | (refine draw_and (by kernel_rfl) ?_)
       | (refine both_mk ?_ ?_)
       | (refine br_bool (fun h => ?_) (fun h => ?_) <;> first | have hs := cT h hs | have hs := cF h hs)
       | refine chk_elim hs fun hs => ?_
       | (have hs := letv_out hs)
       | exact fin_some hs rfl
       | (intro b hb; first | have hs := nilq_elim hs b hb | have hs := nilqn_elim hs b hb)
       | (have hs := cT rfl hs)
       | (have hs := cF rfl hs)
       | exact (none_ne hs).elim)
theorem cq_R24_New : PCon Go.Proofs.Try.prog 45 (liftF (.pair (.int .i64) .unit) (unpR (.pair (.sl (.sl (.int .i64))) (.pair (.int .i64) .unit))) (fun x => R24_New x.1)) := lq_R24_New ▸ c_R24_New
noncomputable def lf_R24_put : List AV → Option AV := liftF (.pair (.sl (.sl (.int .i64))) (.pair (.int .i64) (.pair (.sl (.int .i64)) .unit))) (unpack (.sl (.sl (.int .i64)))) (fun x => R24_put x.1 x.2.1 x.2.2.1)
theorem lq_R24_put : lf_R24_put = liftF (.pair (.sl (.sl (.int .i64))) (.pair (.int .i64) (.pair (.sl (.int .i64)) .unit))) (unpack (.sl (.sl (.int .i64)))) (fun x => R24_put x.1 x.2.1 x.2.2.1) := rfl
attribute [irreducible] lf_R24_put
theorem ck_R24_put {vs : List AV} {k : AV → Prop} {x : ((.pair (.sl (.sl (.int .i64))) (.pair (.int .i64) (.pair (.sl (.int .i64)) .unit))) : Ty).den} {v : List (List Int)} (h1 : pks (.pair (.sl (.sl (.int .i64))) (.pair (.int .i64) (.pair (.sl (.int .i64)) .unit))) vs = some x) (h2 : R24_put x.1 x.2.1 x.2.2.1 = some v) (h3 : k ((unpack (.sl (.sl (.int .i64)))) v)) : callK (lf_R24_put vs) k := by
  rw [lq_R24_put]; exact callK_lift h1 h2 h3
def tt_R24_put : List (Nat × Ty) := [(36, .sl (.int .i64)), (59, .sl (.sl (.int .i64)))]
def et_R24_put : List (Nat × Nat) := [(36, 3), (59, 36)]
theorem tt_R24_put_ok : subT tt tt_R24_put = true := by kernel_rfl
theorem et_R24_put_ok : subE et et_R24_put = true := by kernel_rfl
noncomputable def fns_R24_put : List (Nat × (List AV → Option AV)) := []
theorem fns_R24_put_ok : FnsOk Go.Proofs.Try.prog fns_R24_put := FnsOk.nil _
def kp_R24_put : List (Nat × List Nat) := [(0, [0, 1, 2]), (1, [1, 2, 7]), (2, [7]), (3, [6]), (4000000, []), (4000001, [9]), (4000002, [9]), (4000003, [9])]
def od_R24_put : List (Nat × Ord) := []
noncomputable def E_R24_put : Env := ⟨0, 0, et_R24_put, tt_R24_put, fns_R24_put, [], od_R24_put, kp_R24_put, none, []⟩
set_option maxRecDepth 100000 in
set_option maxHeartbeats 40000000 in
theorem c_R24_put : PCon Go.Proofs.Try.prog 95 lf_R24_put := by
  rw [lq_R24_put]
  refine lift_conR (E := E_R24_put) (c := bodyOf Try.f95) (nt := 15) (rs := [.tmp 6]) (ts := [59]) (EnvC.sub (off := 0) (nt := 0) (ords := od_R24_put) (keep := kp_R24_put) (yl := none) tt_ok et_ok fns_R24_put_ok (PrsOk.nil _) (ItsOk.nil _) tt_R24_put_ok et_R24_put_ok) (PrOk.of mixed_ok) Go.Proofs.Try.func95 rfl (by decide) rfl rfl rfl (pureR_one (e := (.sl (.sl (.int .i64)))) rfl) ?_
  intro x r hw hs
  repeat'
    (try (conv => whnf)
     first
       | (with_reducible have hs := letv_out hs)
       | (refine draw_and (by kernel_rfl) ?_)
       | (refine both_mk ?_ ?_)
       | (refine br_bool (fun h => ?_) (fun h => ?_) <;> first | have hs := cT h hs | have hs := cF h hs)
       | refine chk_elim hs fun hs => ?_
       | (have hs := letv_out hs)
       | exact fin_some hs rfl
       | (intro b hb; first | have hs := nilq_elim hs b hb | have hs := nilqn_elim hs b hb)
       | (have hs := cT rfl hs)
       | (have hs := cF rfl hs)
       | exact (none_ne hs).elim)
theorem cq_R24_put : PCon Go.Proofs.Try.prog 95 (liftF (.pair (.sl (.sl (.int .i64))) (.pair (.int .i64) (.pair (.sl (.int .i64)) .unit))) (unpack (.sl (.sl (.int .i64)))) (fun x => R24_put x.1 x.2.1 x.2.2.1)) := lq_R24_put ▸ c_R24_put
noncomputable def lf_R24_Flush : List AV → Option AV := liftF (.pair (.sl (.sl (.int .i64))) (.pair (.int .i64) .unit)) (unpR (.pair (.sl (.sl (.int .i64))) (.pair (.sl (.int .i64)) (.pair (.int .i64) .unit)))) (fun x => R24_Flush x.1 x.2.1)
theorem lq_R24_Flush : lf_R24_Flush = liftF (.pair (.sl (.sl (.int .i64))) (.pair (.int .i64) .unit)) (unpR (.pair (.sl (.sl (.int .i64))) (.pair (.sl (.int .i64)) (.pair (.int .i64) .unit)))) (fun x => R24_Flush x.1 x.2.1) := rfl
attribute [irreducible] lf_R24_Flush
theorem ck_R24_Flush {vs : List AV} {k : AV → Prop} {x : ((.pair (.sl (.sl (.int .i64))) (.pair (.int .i64) .unit)) : Ty).den} {v : (List (List Int)) × (List Int) × Int × Unit} (h1 : pks (.pair (.sl (.sl (.int .i64))) (.pair (.int .i64) .unit)) vs = some x) (h2 : R24_Flush x.1 x.2.1 = some v) (h3 : k ((unpR (.pair (.sl (.sl (.int .i64))) (.pair (.sl (.int .i64)) (.pair (.int .i64) .unit)))) v)) : callK (lf_R24_Flush vs) k := by
  rw [lq_R24_Flush]; exact callK_lift h1 h2 h3
def tt_R24_Flush : List (Nat × Ty) := [(3, .int .i64), (36, .sl (.int .i64)), (59, .sl (.sl (.int .i64)))]
def et_R24_Flush : List (Nat × Nat) := [(36, 3), (59, 36)]
theorem tt_R24_Flush_ok : subT tt tt_R24_Flush = true := by kernel_rfl
theorem et_R24_Flush_ok : subE et et_R24_Flush = true := by kernel_rfl
noncomputable def fns_R24_Flush : List (Nat × (List AV → Option AV)) := [(95, lf_R24_put)]
theorem fns_R24_Flush_ok : FnsOk Go.Proofs.Try.prog fns_R24_Flush := FnsOk.cons c_R24_put (FnsOk.nil _)
def kp_R24_Flush : List (Nat × List Nat) := [(0, [0, 1]), (1, [0, 1, 14]), (2, [4, 5, 6]), (3, [4, 5, 6]), (4000000, []), (4000001, []), (4000002, []), (4000003, [])]
def od_R24_Flush : List (Nat × Ord) := [(3, (.one 0 (.one 1 (.one 3 (.one 4 (.one 5 (.one 6 (.one 2 (.one 7 (.one 8 (.one 9 .nil)))))))))))]
noncomputable def E_R24_Flush : Env := ⟨0, 0, et_R24_Flush, tt_R24_Flush, fns_R24_Flush, [], od_R24_Flush, kp_R24_Flush, none, []⟩
set_option maxRecDepth 100000 in
set_option maxHeartbeats 40000000 in
theorem c_R24_Flush : PCon Go.Proofs.Try.prog 47 lf_R24_Flush := by
  rw [lq_R24_Flush]
  refine lift_conR (E := E_R24_Flush) (c := bodyOf Try.f47) (nt := 23) (rs := [.tmp 4, .tmp 5, .tmp 6]) (ts := [59, 36, 3]) (EnvC.sub (off := 0) (nt := 0) (ords := od_R24_Flush) (keep := kp_R24_Flush) (yl := none) tt_ok et_ok fns_R24_Flush_ok (PrsOk.nil _) (ItsOk.nil _) tt_R24_Flush_ok et_R24_Flush_ok) (PrOk.of mixed_ok) Go.Proofs.Try.func47 rfl (by decide) rfl rfl rfl (pureR_many (e := (.pair (.sl (.sl (.int .i64))) (.pair (.sl (.int .i64)) (.pair (.int .i64) .unit)))) rfl) ?_
  intro x r hw hs
  repeat'
    (try (conv => whnf)
     first
       | (with_reducible have hs := letv_out hs)
       | (refine draw_and (by kernel_rfl) ?_)
       | (refine both_mk ?_ ?_)
       | (refine br_bool (fun h => ?_) (fun h => ?_) <;> first | have hs := cT h hs | have hs := cF h hs)
       | (refine bind_elim hs fun v hb hs => ?_; first | refine ck_R24_put rfl hb ?_)
       | refine chk_elim hs fun hs => ?_
       | (have hs := letv_out hs)
       | exact fin_some hs rfl
       | (intro b hb; first | have hs := nilq_elim hs b hb | have hs := nilqn_elim hs b hb)
       | (have hs := cT rfl hs)
       | (have hs := cF rfl hs)
       | exact (none_ne hs).elim)
theorem cq_R24_Flush : PCon Go.Proofs.Try.prog 47 (liftF (.pair (.sl (.sl (.int .i64))) (.pair (.int .i64) .unit)) (unpR (.pair (.sl (.sl (.int .i64))) (.pair (.sl (.int .i64)) (.pair (.int .i64) .unit)))) (fun x => R24_Flush x.1 x.2.1)) := lq_R24_Flush ▸ c_R24_Flush
noncomputable def lf_R24_Where : List AV → Option AV := liftF (.pair (.sl (.sl (.int .i64))) (.pair (.int .i64) .unit)) (unpR (.pair (.int .i64) (.pair .bool .unit))) (fun x => R24_Where x.1 x.2.1)
theorem lq_R24_Where : lf_R24_Where = liftF (.pair (.sl (.sl (.int .i64))) (.pair (.int .i64) .unit)) (unpR (.pair (.int .i64) (.pair .bool .unit))) (fun x => R24_Where x.1 x.2.1) := rfl
attribute [irreducible] lf_R24_Where
theorem ck_R24_Where {vs : List AV} {k : AV → Prop} {x : ((.pair (.sl (.sl (.int .i64))) (.pair (.int .i64) .unit)) : Ty).den} {v : Int × Bool × Unit} (h1 : pks (.pair (.sl (.sl (.int .i64))) (.pair (.int .i64) .unit)) vs = some x) (h2 : R24_Where x.1 x.2.1 = some v) (h3 : k ((unpR (.pair (.int .i64) (.pair .bool .unit))) v)) : callK (lf_R24_Where vs) k := by
  rw [lq_R24_Where]; exact callK_lift h1 h2 h3
def tt_R24_Where : List (Nat × Ty) := [(3, .int .i64), (4, .bool), (36, .sl (.int .i64)), (59, .sl (.sl (.int .i64)))]
def et_R24_Where : List (Nat × Nat) := [(36, 3), (59, 36)]
theorem tt_R24_Where_ok : subT tt tt_R24_Where = true := by kernel_rfl
theorem et_R24_Where_ok : subE et et_R24_Where = true := by kernel_rfl
noncomputable def fns_R24_Where : List (Nat × (List AV → Option AV)) := []
theorem fns_R24_Where_ok : FnsOk Go.Proofs.Try.prog fns_R24_Where := FnsOk.nil _
def R24_Where_S1 (u0 : AV) (u1 : AV) (u2 : AV) (x2 : Int) : St :=
  ⟨[(0, u0), (1, u1), (6, u2), (7, .int .i64 x2)], [], none⟩
def R24_Where_M1 : Msk := ⟨[0, 1, 6, 7], [], [], [], [], [], [], [], []⟩
def R24_Where_S2 (u0 : AV) (u1 : AV) (x1 : Int) : St :=
  ⟨[(0, u0), (1, u1), (6, .int .i64 x1)], [], none⟩
def R24_Where_M2 : Msk := ⟨[0, 1, 6], [], [], [], [], [], [], [], []⟩
def kp_R24_Where : List (Nat × List Nat) := [(0, [0, 1]), (1, [0, 1, 6]), (2, [0, 1, 6, 11]), (3, [0, 1, 6]), (4, [0, 1, 6, 7]), (5, [0, 1, 6, 7, 20]), (6, [0, 1, 6, 7]), (7, [0, 1, 6, 7, 31]), (8, [4, 5]), (9, [4, 5]), (4000000, []), (4000001, []), (4000002, []), (4000003, []), (4000004, []), (4000005, []), (4000006, []), (4000007, []), (4000008, []), (4000009, [])]
def od_R24_Where : List (Nat × Ord) := []
noncomputable def E_R24_Where : Env := ⟨0, 0, et_R24_Where, tt_R24_Where, fns_R24_Where, [], od_R24_Where, kp_R24_Where, none, []⟩
set_option maxRecDepth 100000 in
set_option maxHeartbeats 40000000 in
theorem c_R24_Where : PCon Go.Proofs.Try.prog 52 lf_R24_Where := by
  rw [lq_R24_Where]
  refine lift_conR (E := E_R24_Where) (c := bodyOf Try.f52) (nt := 33) (rs := [.tmp 4, .tmp 5]) (ts := [3, 4]) (EnvC.sub (off := 0) (nt := 0) (ords := od_R24_Where) (keep := kp_R24_Where) (yl := none) tt_ok et_ok fns_R24_Where_ok (PrsOk.nil _) (ItsOk.nil _) tt_R24_Where_ok et_R24_Where_ok) (PrOk.of mixed_ok) Go.Proofs.Try.func52 rfl (by decide) rfl rfl rfl (pureR_many (e := (.pair (.int .i64) (.pair .bool .unit))) rfl) ?_
  intro x r hw hs
  repeat'
    (try (conv => whnf)
     first
       | (with_reducible have hs := letv_out hs)
       | (refine draw_and (by kernel_rfl) ?_)
       | (refine both_mk ?_ ?_)
       | (refine br_bool (fun h => ?_) (fun h => ?_) <;> first | have hs := cT h hs | have hs := cF h hs)
       | refine chk_elim hs fun hs => ?_
       | (have hs := letv_out hs)
       | exact fin_some hs rfl
       | (intro b hb; first | have hs := nilq_elim hs b hb | have hs := nilqn_elim hs b hb)
       | exact hJ1 _ hs
       | exact hJ2 _ hs
       | (have hs := cT rfl hs)
       | (have hs := cF rfl hs)
       | ((with_reducible have hs : R24_Where _ _ = some _ := hs); unfold R24_Where at hs)
       | ((with_reducible have hs : loop (R24_Where_L1 _ _ _ _) _ = some _ := hs); refine vc_loopR (R24_Where_S1 _ _ _) R24_Where_M1 hs rfl ?_; intro J1 k1 x1 hJ1 hs)
       | ((with_reducible have hs : loop (R24_Where_L2 _ _) _ = some _ := hs); refine vc_loopR (R24_Where_S2 _ _) R24_Where_M2 hs rfl ?_; intro J2 k2 x2 hJ2 hs)
       | (refine vc_loopR (R24_Where_S1 _ _ _) R24_Where_M1 hs rfl ?_; intro J1 k1 x1 hJ1 hs)
       | (refine vc_loopR (R24_Where_S2 _ _) R24_Where_M2 hs rfl ?_; intro J2 k2 x2 hJ2 hs)
       | exact (none_ne hs).elim)
theorem cq_R24_Where : PCon Go.Proofs.Try.prog 52 (liftF (.pair (.sl (.sl (.int .i64))) (.pair (.int .i64) .unit)) (unpR (.pair (.int .i64) (.pair .bool .unit))) (fun x => R24_Where x.1 x.2.1)) := lq_R24_Where ▸ c_R24_Where
noncomputable def lf_R24_Fall : List AV → Option AV := liftF (.pair (.sl (.sl (.int .i64))) (.pair (.int .i64) (.pair (.int .i64) .unit))) (unpR (.pair (.sl (.sl (.int .i64))) (.pair (.int .i64) .unit))) (fun x => R24_Fall x.1 x.2.1 x.2.2.1)
theorem lq_R24_Fall : lf_R24_Fall = liftF (.pair (.sl (.sl (.int .i64))) (.pair (.int .i64) (.pair (.int .i64) .unit))) (unpR (.pair (.sl (.sl (.int .i64))) (.pair (.int .i64) .unit))) (fun x => R24_Fall x.1 x.2.1 x.2.2.1) := rfl
attribute [irreducible] lf_R24_Fall
theorem ck_R24_Fall {vs : List AV} {k : AV → Prop} {x : ((.pair (.sl (.sl (.int .i64))) (.pair (.int .i64) (.pair (.int .i64) .unit))) : Ty).den} {v : (List (List Int)) × Int × Unit} (h1 : pks (.pair (.sl (.sl (.int .i64))) (.pair (.int .i64) (.pair (.int .i64) .unit))) vs = some x) (h2 : R24_Fall x.1 x.2.1 x.2.2.1 = some v) (h3 : k ((unpR (.pair (.sl (.sl (.int .i64))) (.pair (.int .i64) .unit))) v)) : callK (lf_R24_Fall vs) k := by
  rw [lq_R24_Fall]; exact callK_lift h1 h2 h3
def tt_R24_Fall : List (Nat × Ty) := [(3, .int .i64), (36, .sl (.int .i64)), (59, .sl (.sl (.int .i64)))]
def et_R24_Fall : List (Nat × Nat) := [(36, 3), (59, 36)]
theorem tt_R24_Fall_ok : subT tt tt_R24_Fall = true := by kernel_rfl
theorem et_R24_Fall_ok : subE et et_R24_Fall = true := by kernel_rfl
noncomputable def fns_R24_Fall : List (Nat × (List AV → Option AV)) := [(52, lf_R24_Where), (95, lf_R24_put)]
theorem fns_R24_Fall_ok : FnsOk Go.Proofs.Try.prog fns_R24_Fall := FnsOk.cons c_R24_Where (FnsOk.cons c_R24_put (FnsOk.nil _))
def kp_R24_Fall : List (Nat × List Nat) := [(0, [0, 1, 2]), (1, [0, 1, 2, 25]), (2, [6, 7]), (3, [0, 1, 2, 9]), (4, [0, 1, 2, 33]), (5, [6, 7]), (6, [6, 7]), (4000000, []), (4000001, []), (4000002, []), (4000003, []), (4000004, []), (4000005, []), (4000006, [])]
def od_R24_Fall : List (Nat × Ord) := [(1000095, .nil)]
noncomputable def E_R24_Fall : Env := ⟨0, 0, et_R24_Fall, tt_R24_Fall, fns_R24_Fall, [], od_R24_Fall, kp_R24_Fall, none, []⟩
set_option maxRecDepth 100000 in
set_option maxHeartbeats 40000000 in
theorem c_R24_Fall : PCon Go.Proofs.Try.prog 50 lf_R24_Fall := by
  rw [lq_R24_Fall]
  refine lift_conR (E := E_R24_Fall) (c := bodyOf Try.f50) (nt := 46) (rs := [.tmp 6, .tmp 7]) (ts := [59, 3]) (EnvC.sub (off := 0) (nt := 0) (ords := od_R24_Fall) (keep := kp_R24_Fall) (yl := none) tt_ok et_ok fns_R24_Fall_ok (PrsOk.nil _) (ItsOk.nil _) tt_R24_Fall_ok et_R24_Fall_ok) (PrOk.of mixed_ok) Go.Proofs.Try.func50 rfl (by decide) rfl rfl rfl (pureR_many (e := (.pair (.sl (.sl (.int .i64))) (.pair (.int .i64) .unit))) rfl) ?_
  intro x r hw hs
  repeat'
    (try (conv => whnf)
     first
       | (with_reducible have hs := letv_out hs)
       | (refine draw_and (by kernel_rfl) ?_)
       | (refine both_mk ?_ ?_)
       | (refine br_bool (fun h => ?_) (fun h => ?_) <;> first | have hs := cT h hs | have hs := cF h hs)
       | (refine bind_elim hs fun v hb hs => ?_; first | refine ck_R24_Where rfl hb ?_ | refine ck_R24_put rfl hb ?_)
       | refine chk_elim hs fun hs => ?_
       | (have hs := letv_out hs)
       | exact fin_some hs rfl
       | (intro b hb; first | have hs := nilq_elim hs b hb | have hs := nilqn_elim hs b hb)
       | (have hs := cT rfl hs)
       | (have hs := cF rfl hs)
       | exact (none_ne hs).elim)
theorem cq_R24_Fall : PCon Go.Proofs.Try.prog 50 (liftF (.pair (.sl (.sl (.int .i64))) (.pair (.int .i64) (.pair (.int .i64) .unit))) (unpR (.pair (.sl (.sl (.int .i64))) (.pair (.int .i64) .unit))) (fun x => R24_Fall x.1 x.2.1 x.2.2.1)) := lq_R24_Fall ▸ c_R24_Fall
noncomputable def lf_R24_List : List AV → Option AV := liftF (.pair (.sl (.sl (.int .i64))) (.pair (.int .i64) .unit)) (unpack (.sl (.int .i64))) (fun x => R24_List x.1 x.2.1)
theorem lq_R24_List : lf_R24_List = liftF (.pair (.sl (.sl (.int .i64))) (.pair (.int .i64) .unit)) (unpack (.sl (.int .i64))) (fun x => R24_List x.1 x.2.1) := rfl
attribute [irreducible] lf_R24_List
theorem ck_R24_List {vs : List AV} {k : AV → Prop} {x : ((.pair (.sl (.sl (.int .i64))) (.pair (.int .i64) .unit)) : Ty).den} {v : List Int} (h1 : pks (.pair (.sl (.sl (.int .i64))) (.pair (.int .i64) .unit)) vs = some x) (h2 : R24_List x.1 x.2.1 = some v) (h3 : k ((unpack (.sl (.int .i64))) v)) : callK (lf_R24_List vs) k := by
  rw [lq_R24_List]; exact callK_lift h1 h2 h3
def tt_R24_List : List (Nat × Ty) := [(3, .int .i64), (36, .sl (.int .i64)), (59, .sl (.sl (.int .i64)))]
def et_R24_List : List (Nat × Nat) := [(36, 3), (59, 36)]
theorem tt_R24_List_ok : subT tt tt_R24_List = true := by kernel_rfl
theorem et_R24_List_ok : subE et et_R24_List = true := by kernel_rfl
noncomputable def fns_R24_List : List (Nat × (List AV → Option AV)) := []
theorem fns_R24_List_ok : FnsOk Go.Proofs.Try.prog fns_R24_List := FnsOk.nil _
def kp_R24_List : List (Nat × List Nat) := [(0, [0, 1]), (1, [0, 1, 12]), (2, [4]), (3, [4]), (4000000, []), (4000001, []), (4000002, []), (4000003, [])]
def od_R24_List : List (Nat × Ord) := []
noncomputable def E_R24_List : Env := ⟨0, 0, et_R24_List, tt_R24_List, fns_R24_List, [], od_R24_List, kp_R24_List, none, []⟩
set_option maxRecDepth 100000 in
set_option maxHeartbeats 40000000 in
theorem c_R24_List : PCon Go.Proofs.Try.prog 54 lf_R24_List := by
  rw [lq_R24_List]
  refine lift_conR (E := E_R24_List) (c := bodyOf Try.f54) (nt := 17) (rs := [.tmp 4]) (ts := [36]) (EnvC.sub (off := 0) (nt := 0) (ords := od_R24_List) (keep := kp_R24_List) (yl := none) tt_ok et_ok fns_R24_List_ok (PrsOk.nil _) (ItsOk.nil _) tt_R24_List_ok et_R24_List_ok) (PrOk.of mixed_ok) Go.Proofs.Try.func54 rfl (by decide) rfl rfl rfl (pureR_one (e := (.sl (.int .i64))) rfl) ?_
  intro x r hw hs
  repeat'
    (try (conv => whnf)
     first
       | (with_reducible have hs := letv_out hs)
       | (refine draw_and (by kernel_rfl) ?_)
       | (refine both_mk ?_ ?_)
       | (refine br_bool (fun h => ?_) (fun h => ?_) <;> first | have hs := cT h hs | have hs := cF h hs)
       | refine chk_elim hs fun hs => ?_
       | (have hs := letv_out hs)
       | exact fin_some hs rfl
       | (intro b hb; first | have hs := nilq_elim hs b hb | have hs := nilqn_elim hs b hb)
       | (have hs := cT rfl hs)
       | (have hs := cF rfl hs)
       | exact (none_ne hs).elim)
theorem cq_R24_List : PCon Go.Proofs.Try.prog 54 (liftF (.pair (.sl (.sl (.int .i64))) (.pair (.int .i64) .unit)) (unpack (.sl (.int .i64))) (fun x => R24_List x.1 x.2.1)) := lq_R24_List ▸ c_R24_List
end Go.Proofs.YtiicmhholjpcbaaV
