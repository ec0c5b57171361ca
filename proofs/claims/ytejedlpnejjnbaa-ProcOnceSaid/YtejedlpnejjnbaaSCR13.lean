import Derived.Test.YtejedlpnejjnbaaSVcTab
import Derived.Test.YtejedlpnejjnbaaSDR13
import Derived.Test.YtejedlpnejjnbaaSCbase
namespace Go.Proofs.YtejedlpnejjnbaaSV
open Go.Proofs
set_option linter.unusedVariables false
noncomputable def lf_R13_Place : List AV → Option AV := liftF (.pair (.int .i64) .unit) (unpack .bool) (fun x => R13_Place x.1)
theorem lq_R13_Place : lf_R13_Place = liftF (.pair (.int .i64) .unit) (unpack .bool) (fun x => R13_Place x.1) := rfl
attribute [irreducible] lf_R13_Place
theorem ck_R13_Place {vs : List AV} {k : AV → Prop} {x : ((.pair (.int .i64) .unit) : Ty).den} {v : Bool} (h1 : pks (.pair (.int .i64) .unit) vs = some x) (h2 : R13_Place x.1 = some v) (h3 : k ((unpack .bool) v)) : callK (lf_R13_Place vs) k := by
  rw [lq_R13_Place]; exact callK_lift h1 h2 h3
def tt_R13_Place : List (Nat × Ty) := [(3, .int .i64), (4, .bool)]
def et_R13_Place : List (Nat × Nat) := []
theorem tt_R13_Place_ok : subT tt tt_R13_Place = true := by kernel_rfl
theorem et_R13_Place_ok : subE et et_R13_Place = true := by kernel_rfl
noncomputable def fns_R13_Place : List (Nat × (List AV → Option AV)) := []
theorem fns_R13_Place_ok : FnsOk Go.Proofs.Try.prog fns_R13_Place := FnsOk.nil _
def kp_R13_Place : List (Nat × List Nat) := [(0, [0]), (1, [2]), (4000000, []), (4000001, [])]
def od_R13_Place : List (Nat × Ord) := []
noncomputable def E_R13_Place : Env := ⟨0, 0, et_R13_Place, tt_R13_Place, fns_R13_Place, [], od_R13_Place, kp_R13_Place, none, []⟩
set_option maxRecDepth 100000 in
set_option maxHeartbeats 40000000 in
theorem c_R13_Place : PCon Go.Proofs.Try.prog 52 lf_R13_Place := by
  rw [lq_R13_Place]
  refine lift_conR (E := E_R13_Place) (c := bodyOf Try.f52) (nt := 9) (rs := [.tmp 2]) (ts := [4]) (EnvC.sub (off := 0) (nt := 0) (ords := od_R13_Place) (keep := kp_R13_Place) (yl := none) tt_ok et_ok fns_R13_Place_ok (PrsOk.nil _) (ItsOk.nil _) tt_R13_Place_ok et_R13_Place_ok) (PrOk.of mixed_ok) Go.Proofs.Try.func52 rfl (by decide) rfl rfl rfl (pureR_one (e := .bool) rfl) ?_
  intro x r hw hs
  repeat'
    (try (conv => whnf)
     first
       | (with_reducible have hs := letv_out hs)
       | (refine draw_and (by kernel_rfl) ?_)
       | (refine both_mk ?_ ?_)
       | (refine br_bool (fun h => ?_) (fun h => ?_) <;> first | have hs := cT h hs | have hs := cF h hs)
       | refine chk_elim hs fun hs => ?_
       | (have hs := letv_out hs)
       | exact fin_some hs rfl
       | (intro b hb; first | have hs := nilq_elim hs b hb | have hs := nilqn_elim hs b hb)
       | (have hs := cT rfl hs)
       | (have hs := cF rfl hs)
       | exact (none_ne hs).elim)
theorem cq_R13_Place : PCon Go.Proofs.Try.prog 52 (liftF (.pair (.int .i64) .unit) (unpack .bool) (fun x => R13_Place x.1)) := lq_R13_Place ▸ c_R13_Place
noncomputable def lf_R13_Fine : List AV → Option AV := liftF (.pair (.pair (.int .i64) (.pair .bool (.pair (.arr 8 (.int .i64)) (.pair (.arr 16 (.int .i64)) (.pair (.int .i64) (.pair (.arr 8 (.int .i64)) .unit)))))) .unit) (unpack .bool) (fun x => R13_Fine x.1)
theorem lq_R13_Fine : lf_R13_Fine = liftF (.pair (.pair (.int .i64) (.pair .bool (.pair (.arr 8 (.int .i64)) (.pair (.arr 16 (.int .i64)) (.pair (.int .i64) (.pair (.arr 8 (.int .i64)) .unit)))))) .unit) (unpack .bool) (fun x => R13_Fine x.1) := rfl
attribute [irreducible] lf_R13_Fine
theorem ck_R13_Fine {vs : List AV} {k : AV → Prop} {x : ((.pair (.pair (.int .i64) (.pair .bool (.pair (.arr 8 (.int .i64)) (.pair (.arr 16 (.int .i64)) (.pair (.int .i64) (.pair (.arr 8 (.int .i64)) .unit)))))) .unit) : Ty).den} {v : Bool} (h1 : pks (.pair (.pair (.int .i64) (.pair .bool (.pair (.arr 8 (.int .i64)) (.pair (.arr 16 (.int .i64)) (.pair (.int .i64) (.pair (.arr 8 (.int .i64)) .unit)))))) .unit) vs = some x) (h2 : R13_Fine x.1 = some v) (h3 : k ((unpack .bool) v)) : callK (lf_R13_Fine vs) k := by
  rw [lq_R13_Fine]; exact callK_lift h1 h2 h3
def tt_R13_Fine : List (Nat × Ty) := [(3, .int .i64), (4, .bool), (60, .arr 8 (.int .i64)), (61, .arr 16 (.int .i64)), (63, .pair (.int .i64) (.pair .bool (.pair (.arr 8 (.int .i64)) (.pair (.arr 16 (.int .i64)) (.pair (.int .i64) (.pair (.arr 8 (.int .i64)) .unit))))))]
def et_R13_Fine : List (Nat × Nat) := []
theorem tt_R13_Fine_ok : subT tt tt_R13_Fine = true := by kernel_rfl
theorem et_R13_Fine_ok : subE et et_R13_Fine = true := by kernel_rfl
noncomputable def fns_R13_Fine : List (Nat × (List AV → Option AV)) := [(44, lf_R08_Fine), (52, lf_R13_Place)]
theorem fns_R13_Fine_ok : FnsOk Go.Proofs.Try.prog fns_R13_Fine := FnsOk.cons c_R08_Fine (FnsOk.cons c_R13_Place (FnsOk.nil _))
def R13_Fine_S1 (u0 : AV) (B2 : Blk) (x1 : Int) : St :=
  ⟨[(1, u0), (4, .int .i64 x1)], [(1, B2)], none⟩
def R13_Fine_M1 : Msk := ⟨[1, 4], [1], [], [], [], [], [], [], [], [], []⟩
def R13_Fine_S2 (u0 : AV) (x2 : Int × Int × Bool × List Int × List Int × Int × List Int) : St :=
  ⟨[(1, u0), (3, .int .i64 x2.1)], [(1, .var (.pair (.int .i64) (.pair .bool (.pair (.arr 8 (.int .i64)) (.pair (.arr 16 (.int .i64)) (.pair (.int .i64) (.pair (.arr 8 (.int .i64)) .unit)))))) (.agg [.int .i64 x2.2.1, .bool x2.2.2.1, .arr 8 (.int .i64) x2.2.2.2.1, .arr 16 (.int .i64) x2.2.2.2.2.1, .int .i64 x2.2.2.2.2.2.1, .arr 8 (.int .i64) x2.2.2.2.2.2.2]) false)], none⟩
def R13_Fine_M2 : Msk := ⟨[1, 3], [1], [], [], [], [], [], [], [], [], []⟩
def R13_Fine_Q1 (x3 : Int × Int × Bool × List Int × List Int × Int × List Int) : St :=
  ⟨[(1, .ptr 1 []), (3, .int .i64 x3.1)], [(1, .var (.pair (.int .i64) (.pair .bool (.pair (.arr 8 (.int .i64)) (.pair (.arr 16 (.int .i64)) (.pair (.int .i64) (.pair (.arr 8 (.int .i64)) .unit)))))) (.agg [.int .i64 x3.2.1, .bool x3.2.2.1, .arr 8 (.int .i64) x3.2.2.2.1, .arr 16 (.int .i64) x3.2.2.2.2.1, .int .i64 x3.2.2.2.2.2.1, .arr 8 (.int .i64) x3.2.2.2.2.2.2]) false)], none⟩
def kp_R13_Fine : List (Nat × List Nat) := [(0, [1]), (1, [1, 18]), (2, [2]), (3, [1, 3]), (4, [1, 3, 20]), (5, [1, 3]), (6, [1, 3, 55]), (7, [2]), (8, [1, 4]), (9, [1, 4, 57]), (10, [1, 4]), (11, [1, 4, 65]), (12, [2]), (13, [2]), (12000001, []), (7000001, [1, 3]), (11000001, [1]), (13000001, []), (4000000, [1]), (4000001, [1]), (4000002, []), (4000003, [1]), (4000004, [1]), (4000005, [1]), (4000006, [1]), (4000007, []), (4000008, [1]), (4000009, [1]), (4000010, [1]), (4000011, [1]), (4000012, []), (4000013, [])]
def od_R13_Fine : List (Nat × Ord) := []
noncomputable def E_R13_Fine : Env := ⟨0, 0, et_R13_Fine, tt_R13_Fine, fns_R13_Fine, [], od_R13_Fine, kp_R13_Fine, none, []⟩
set_option maxRecDepth 100000 in
set_option maxHeartbeats 40000000 in
theorem c_R13_Fine : PCon Go.Proofs.Try.prog 34 lf_R13_Fine := by
  rw [lq_R13_Fine]
  refine lift_conR (E := E_R13_Fine) (c := bodyOf Try.f34) (nt := 66) (rs := [.tmp 2]) (ts := [4]) (EnvC.sub (off := 0) (nt := 0) (ords := od_R13_Fine) (keep := kp_R13_Fine) (yl := none) tt_ok et_ok fns_R13_Fine_ok (PrsOk.nil _) (ItsOk.nil _) tt_R13_Fine_ok et_R13_Fine_ok) (PrOk.of mixed_ok) Go.Proofs.Try.func34 rfl (by decide) rfl rfl rfl (pureR_one (e := .bool) rfl) ?_
  intro x r hw hs
  repeat'
    (try (conv => whnf)
     first
       | (with_reducible have hs := letv_out hs)
       | (refine draw_and (by kernel_rfl) ?_)
       | (refine both_mk ?_ ?_)
       | (refine br_bool (fun h => ?_) (fun h => ?_) <;> first | have hs := cT h hs | have hs := cF h hs)
       | (refine bind_elim hs fun v hb hs => ?_; first | refine ck_R08_Fine rfl hb ?_ | refine ck_R13_Place rfl hb ?_)
       | refine chk_elim hs fun hs => ?_
       | (have hs := letv_out hs)
       | exact fin_some hs rfl
       | (intro b hb; first | have hs := nilq_elim hs b hb | have hs := nilqn_elim hs b hb)
       | exact hJ1 _ hs
       | exact hJ2 _ hs
       | exact hC1 _ hs
       | (refine cut_out 1 R13_Fine_Q1 hs (fun Jc1 kc1 hC1 hs => ?_) (fun xc1 hs => ?_))
       | (have hs := cT rfl hs)
       | (have hs := cF rfl hs)
       | ((with_reducible have hs : R13_Fine_J2 _ _ _ _ _ _ = some _ := hs); unfold R13_Fine_J2 at hs)
       | ((with_reducible have hs : loop (R13_Fine_L1 _) _ = some _ := hs); refine vc_loopR (R13_Fine_S1 _ _) R13_Fine_M1 hs rfl ?_; intro J1 k1 x1 hJ1 hs)
       | ((with_reducible have hs : loop R13_Fine_L2 _ = some _ := hs); refine vc_loopR (R13_Fine_S2 _) R13_Fine_M2 hs rfl ?_; intro J2 k2 x2 hJ2 hs)
       | (refine vc_loopR (R13_Fine_S1 _ _) R13_Fine_M1 hs rfl ?_; intro J1 k1 x1 hJ1 hs)
       | (refine vc_loopR (R13_Fine_S2 _) R13_Fine_M2 hs rfl ?_; intro J2 k2 x2 hJ2 hs)
       | exact (none_ne hs).elim)
theorem cq_R13_Fine : PCon Go.Proofs.Try.prog 34 (liftF (.pair (.pair (.int .i64) (.pair .bool (.pair (.arr 8 (.int .i64)) (.pair (.arr 16 (.int .i64)) (.pair (.int .i64) (.pair (.arr 8 (.int .i64)) .unit)))))) .unit) (unpack .bool) (fun x => R13_Fine x.1)) := lq_R13_Fine ▸ c_R13_Fine
noncomputable def lf_R13_New : List AV → Option AV := liftF (.pair (.int .i64) .unit) (unpR (.pair (.pair (.int .i64) (.pair .bool (.pair (.arr 8 (.int .i64)) (.pair (.arr 16 (.int .i64)) (.pair (.int .i64) (.pair (.arr 8 (.int .i64)) .unit)))))) (.pair (.int .i64) .unit))) (fun x => R13_New x.1)
theorem lq_R13_New : lf_R13_New = liftF (.pair (.int .i64) .unit) (unpR (.pair (.pair (.int .i64) (.pair .bool (.pair (.arr 8 (.int .i64)) (.pair (.arr 16 (.int .i64)) (.pair (.int .i64) (.pair (.arr 8 (.int .i64)) .unit)))))) (.pair (.int .i64) .unit))) (fun x => R13_New x.1) := rfl
attribute [irreducible] lf_R13_New
theorem ck_R13_New {vs : List AV} {k : AV → Prop} {x : ((.pair (.int .i64) .unit) : Ty).den} {v : (Int × Bool × (List Int) × (List Int) × Int × (List Int) × Unit) × Int × Unit} (h1 : pks (.pair (.int .i64) .unit) vs = some x) (h2 : R13_New x.1 = some v) (h3 : k ((unpR (.pair (.pair (.int .i64) (.pair .bool (.pair (.arr 8 (.int .i64)) (.pair (.arr 16 (.int .i64)) (.pair (.int .i64) (.pair (.arr 8 (.int .i64)) .unit)))))) (.pair (.int .i64) .unit))) v)) : callK (lf_R13_New vs) k := by
  rw [lq_R13_New]; exact callK_lift h1 h2 h3
def tt_R13_New : List (Nat × Ty) := [(3, .int .i64), (4, .bool), (60, .arr 8 (.int .i64)), (63, .pair (.int .i64) (.pair .bool (.pair (.arr 8 (.int .i64)) (.pair (.arr 16 (.int .i64)) (.pair (.int .i64) (.pair (.arr 8 (.int .i64)) .unit))))))]
def et_R13_New : List (Nat × Nat) := []
theorem tt_R13_New_ok : subT tt tt_R13_New = true := by kernel_rfl
theorem et_R13_New_ok : subE et et_R13_New = true := by kernel_rfl
noncomputable def fns_R13_New : List (Nat × (List AV → Option AV)) := [(44, lf_R08_Fine)]
theorem fns_R13_New_ok : FnsOk Go.Proofs.Try.prog fns_R13_New := FnsOk.cons c_R08_Fine (FnsOk.nil _)
def kp_R13_New : List (Nat × List Nat) := [(0, [0, 2]), (1, [0, 2, 7]), (2, [2, 3]), (3, [0, 2, 4]), (4, [2, 4]), (5, [2, 3]), (4000000, [2]), (4000001, [2]), (4000002, [2]), (4000003, [2, 4]), (4000004, [2, 4]), (4000005, [2])]
def od_R13_New : List (Nat × Ord) := []
noncomputable def E_R13_New : Env := ⟨0, 0, et_R13_New, tt_R13_New, fns_R13_New, [], od_R13_New, kp_R13_New, none, []⟩
set_option maxRecDepth 100000 in
set_option maxHeartbeats 40000000 in
theorem c_R13_New : PCon Go.Proofs.Try.prog 45 lf_R13_New := by
  rw [lq_R13_New]
  refine lift_conR (E := E_R13_New) (c := bodyOf Try.f45) (nt := 13) (rs := [.cell 2 63, .tmp 3]) (ts := [63, 3]) (EnvC.sub (off := 0) (nt := 0) (ords := od_R13_New) (keep := kp_R13_New) (yl := none) tt_ok et_ok fns_R13_New_ok (PrsOk.nil _) (ItsOk.nil _) tt_R13_New_ok et_R13_New_ok) (PrOk.of mixed_ok) Go.Proofs.Try.func45 rfl (by decide) rfl rfl rfl (pureR_many (e := (.pair (.pair (.int .i64) (.pair .bool (.pair (.arr 8 (.int .i64)) (.pair (.arr 16 (.int .i64)) (.pair (.int .i64) (.pair (.arr 8 (.int .i64)) .unit)))))) (.pair (.int .i64) .unit))) rfl) ?_
  intro x r hw hs
  repeat'
    (try (conv => whnf)
     first
       | (with_reducible have hs := letv_out hs)
       | (refine draw_and (by kernel_rfl) ?_)
       | (refine both_mk ?_ ?_)
       | (refine br_bool (fun h => ?_) (fun h => ?_) <;> first | have hs := cT h hs | have hs := cF h hs)
       | (refine bind_elim hs fun v hb hs => ?_; first | refine ck_R08_Fine rfl hb ?_)
       | refine chk_elim hs fun hs => ?_
       | (have hs := letv_out hs)
       | exact fin_some hs rfl
       | (intro b hb; first | have hs := nilq_elim hs b hb | have hs := nilqn_elim hs b hb)
       | (have hs := cT rfl hs)
       | (have hs := cF rfl hs)
       | exact (none_ne hs).elim)
theorem cq_R13_New : PCon Go.Proofs.Try.prog 45 (liftF (.pair (.int .i64) .unit) (unpR (.pair (.pair (.int .i64) (.pair .bool (.pair (.arr 8 (.int .i64)) (.pair (.arr 16 (.int .i64)) (.pair (.int .i64) (.pair (.arr 8 (.int .i64)) .unit)))))) (.pair (.int .i64) .unit))) (fun x => R13_New x.1)) := lq_R13_New ▸ c_R13_New
end Go.Proofs.YtejedlpnejjnbaaSV
