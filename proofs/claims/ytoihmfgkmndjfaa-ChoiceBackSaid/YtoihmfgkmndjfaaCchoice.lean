import Derived.Test.YtoihmfgkmndjfaaVcTab
import Derived.Test.YtoihmfgkmndjfaaVcLay
import Derived.Test.YtoihmfgkmndjfaaDchoice
namespace Go.Proofs.YtoihmfgkmndjfaaV
open Go.Proofs
set_option linter.unusedVariables false
noncomputable def lf_choice_Check : List AV → Option AV := liftF (.pair (.pair (.int .i64) (.pair (.int .i64) (.pair (.int .i64) .unit))) .unit) (unpack (.int .i64)) (fun x => choice_Check x.1)
theorem lq_choice_Check : lf_choice_Check = liftF (.pair (.pair (.int .i64) (.pair (.int .i64) (.pair (.int .i64) .unit))) .unit) (unpack (.int .i64)) (fun x => choice_Check x.1) := rfl
attribute [irreducible] lf_choice_Check
theorem ck_choice_Check {vs : List AV} {k : AV → Prop} {x : ((.pair (.pair (.int .i64) (.pair (.int .i64) (.pair (.int .i64) .unit))) .unit) : Ty).den} {v : Int} (h1 : pks (.pair (.pair (.int .i64) (.pair (.int .i64) (.pair (.int .i64) .unit))) .unit) vs = some x) (h2 : choice_Check x.1 = some v) (h3 : k ((unpack (.int .i64)) v)) : callK (lf_choice_Check vs) k := by
  rw [lq_choice_Check]; exact callK_lift h1 h2 h3
def tt_choice_Check : List (Nat × Ty) := [(3, .int .i64), (27, .int .i64), (112, .pair (.int .i64) (.pair (.int .i64) (.pair (.int .i64) .unit)))]
def et_choice_Check : List (Nat × Nat) := []
theorem tt_choice_Check_ok : subT tt tt_choice_Check = true := by kernel_rfl
theorem et_choice_Check_ok : subE et et_choice_Check = true := by kernel_rfl
noncomputable def fns_choice_Check : List (Nat × (List AV → Option AV)) := []
theorem fns_choice_Check_ok : FnsOk Go.Proofs.Try.prog fns_choice_Check := FnsOk.nil _
def kp_choice_Check : List (Nat × List Nat) := [(0, [1]), (1, [1, 3, 4]), (2, [1, 3, 4, 6]), (3, [2]), (4, [1, 3, 4, 6, 7]), (5, [1, 3, 4]), (6, [1, 3, 4, 9]), (7, [30]), (8, [2]), (9, [2]), (4000000, [1]), (4000001, [1]), (4000002, [1]), (4000003, []), (4000004, [1]), (4000005, [1]), (4000006, [1]), (4000007, []), (4000008, []), (4000009, [])]
def od_choice_Check : List (Nat × Ord) := []
noncomputable def E_choice_Check : Env := ⟨0, 0, et_choice_Check, tt_choice_Check, fns_choice_Check, [], od_choice_Check, kp_choice_Check, none, []⟩
set_option maxRecDepth 100000 in
set_option maxHeartbeats 40000000 in
theorem c_choice_Check : PCon Go.Proofs.Try.prog 62 lf_choice_Check := by
  rw [lq_choice_Check]
  refine lift_conR (E := E_choice_Check) (c := bodyOf Try.f62) (nt := 31) (rs := [.tmp 2]) (ts := [27]) (EnvC.sub (off := 0) (nt := 0) (ords := od_choice_Check) (keep := kp_choice_Check) (yl := none) tt_ok et_ok fns_choice_Check_ok (PrsOk.nil _) (ItsOk.nil _) tt_choice_Check_ok et_choice_Check_ok) (PrOk.of mixed_ok) Go.Proofs.Try.func62 rfl (by decide) rfl rfl rfl (pureR_one (e := (.int .i64)) rfl) ?_
  intro x r hw hs
  repeat'
    (try (conv => whnf)
     first
       | (with_reducible have hs := letv_out hs)
       | (refine draw_and (by kernel_rfl) ?_)
       | (refine both_mk ?_ ?_)
       | (refine br_bool (fun h => ?_) (fun h => ?_) <;> first | have hs := cT h hs | have hs := cF h hs)
       | refine chk_elim hs fun hs => ?_
       | (have hs := letv_out hs)
       | exact fin_some hs rfl
       | (intro b hb; first | have hs := nilq_elim hs b hb | have hs := nilqn_elim hs b hb)
       | (have hs := cT rfl hs)
       | (have hs := cF rfl hs)
       | exact (none_ne hs).elim)
theorem cq_choice_Check : PCon Go.Proofs.Try.prog 62 (liftF (.pair (.pair (.int .i64) (.pair (.int .i64) (.pair (.int .i64) .unit))) .unit) (unpack (.int .i64)) (fun x => choice_Check x.1)) := lq_choice_Check ▸ c_choice_Check
noncomputable def lf_choice_All : List AV → Option AV := liftF (.pair (.sl (.pair (.int .i64) (.pair (.int .i64) (.pair (.int .i64) .unit)))) .unit) (unpR (.pair (.int .i64) (.pair (.int .i64) .unit))) (fun x => choice_All x.1)
theorem lq_choice_All : lf_choice_All = liftF (.pair (.sl (.pair (.int .i64) (.pair (.int .i64) (.pair (.int .i64) .unit)))) .unit) (unpR (.pair (.int .i64) (.pair (.int .i64) .unit))) (fun x => choice_All x.1) := rfl
attribute [irreducible] lf_choice_All
theorem ck_choice_All {vs : List AV} {k : AV → Prop} {x : ((.pair (.sl (.pair (.int .i64) (.pair (.int .i64) (.pair (.int .i64) .unit)))) .unit) : Ty).den} {v : Int × Int × Unit} (h1 : pks (.pair (.sl (.pair (.int .i64) (.pair (.int .i64) (.pair (.int .i64) .unit)))) .unit) vs = some x) (h2 : choice_All x.1 = some v) (h3 : k ((unpR (.pair (.int .i64) (.pair (.int .i64) .unit))) v)) : callK (lf_choice_All vs) k := by
  rw [lq_choice_All]; exact callK_lift h1 h2 h3
def tt_choice_All : List (Nat × Ty) := [(3, .int .i64), (27, .int .i64), (106, .sl (.pair (.int .i64) (.pair (.int .i64) (.pair (.int .i64) .unit)))), (112, .pair (.int .i64) (.pair (.int .i64) (.pair (.int .i64) .unit)))]
def et_choice_All : List (Nat × Nat) := [(106, 112)]
theorem tt_choice_All_ok : subT tt tt_choice_All = true := by kernel_rfl
theorem et_choice_All_ok : subE et et_choice_All = true := by kernel_rfl
noncomputable def fns_choice_All : List (Nat × (List AV → Option AV)) := [(62, lf_choice_Check)]
theorem fns_choice_All_ok : FnsOk Go.Proofs.Try.prog fns_choice_All := FnsOk.cons c_choice_Check (FnsOk.nil _)
def choice_All_S1 (u0 : AV) (u1 : AV) (x1 : Int) : St :=
  ⟨[(10, u0), (11, u1), (12, .int .i64 x1)], [], none⟩
def choice_All_M1 : Msk := ⟨[10, 11, 12], [], [], [], [], [], [], [], [], [], []⟩
def kp_choice_All : List (Nat × List Nat) := [(0, [0]), (1, [0, 9]), (2, [2, 3]), (3, [10, 11, 12]), (4, [10, 11, 12, 13]), (5, [4, 5, 10, 11, 12]), (6, [4, 6, 10, 11, 12]), (7, [4, 6, 10, 11, 12, 20]), (8, [2, 3]), (9, [10, 11, 12]), (10, [2, 3]), (4000000, []), (4000001, []), (4000002, []), (4000003, []), (4000004, []), (4000005, [5]), (4000006, []), (4000007, []), (4000008, []), (4000009, []), (4000010, [])]
def od_choice_All : List (Nat × Ord) := []
noncomputable def E_choice_All : Env := ⟨0, 0, et_choice_All, tt_choice_All, fns_choice_All, [], od_choice_All, kp_choice_All, none, []⟩
set_option maxRecDepth 100000 in
set_option maxHeartbeats 40000000 in
theorem c_choice_All : PCon Go.Proofs.Try.prog 57 lf_choice_All := by
  rw [lq_choice_All]
  refine lift_conR (E := E_choice_All) (c := bodyOf Try.f57) (nt := 24) (rs := [.tmp 2, .tmp 3]) (ts := [3, 27]) (EnvC.sub (off := 0) (nt := 0) (ords := od_choice_All) (keep := kp_choice_All) (yl := none) tt_ok et_ok fns_choice_All_ok (PrsOk.nil _) (ItsOk.nil _) tt_choice_All_ok et_choice_All_ok) (PrOk.of mixed_ok) Go.Proofs.Try.func57 rfl (by decide) rfl rfl rfl (pureR_many (e := (.pair (.int .i64) (.pair (.int .i64) .unit))) rfl) ?_
  intro x r hw hs
  repeat'
    (try (conv => whnf)
     first
       | (with_reducible have hs := letv_out hs)
       | (refine draw_and (by kernel_rfl) ?_)
       | (refine both_mk ?_ ?_)
       | (refine br_bool (fun h => ?_) (fun h => ?_) <;> first | have hs := cT h hs | have hs := cF h hs)
       | (refine bind_elim hs fun v hb hs => ?_; first | ((with_reducible show callK (lf_choice_Check _) _); refine ck_choice_Check rfl hb ?_))
       | refine chk_elim hs fun hs => ?_
       | (have hs := letv_out hs)
       | exact fin_some hs rfl
       | (intro b hb; first | have hs := nilq_elim hs b hb | have hs := nilqn_elim hs b hb)
       | exact hJ1 _ hs
       | (have hs := cT rfl hs)
       | (have hs := cF rfl hs)
       | ((with_reducible have hs : loop (choice_All_L1 _ _) _ = some _ := hs); refine vc_loopR (choice_All_S1 _ _) choice_All_M1 hs rfl ?_; intro J1 k1 x1 hJ1 hs)
       | (refine vc_loopR (choice_All_S1 _ _) choice_All_M1 hs rfl ?_; intro J1 k1 x1 hJ1 hs)
       | exact (none_ne hs).elim)
theorem cq_choice_All : PCon Go.Proofs.Try.prog 57 (liftF (.pair (.sl (.pair (.int .i64) (.pair (.int .i64) (.pair (.int .i64) .unit)))) .unit) (unpR (.pair (.int .i64) (.pair (.int .i64) .unit))) (fun x => choice_All x.1)) := lq_choice_All ▸ c_choice_All
noncomputable def lf_choice_Bytes : List AV → Option AV := liftF (.pair (.sl (.pair (.int .i64) (.pair (.int .i64) (.pair (.int .i64) .unit)))) .unit) (unpack .str) (fun x => choice_Bytes x.1)
theorem lq_choice_Bytes : lf_choice_Bytes = liftF (.pair (.sl (.pair (.int .i64) (.pair (.int .i64) (.pair (.int .i64) .unit)))) .unit) (unpack .str) (fun x => choice_Bytes x.1) := rfl
attribute [irreducible] lf_choice_Bytes
theorem ck_choice_Bytes {vs : List AV} {k : AV → Prop} {x : ((.pair (.sl (.pair (.int .i64) (.pair (.int .i64) (.pair (.int .i64) .unit)))) .unit) : Ty).den} {v : ByteArray} (h1 : pks (.pair (.sl (.pair (.int .i64) (.pair (.int .i64) (.pair (.int .i64) .unit)))) .unit) vs = some x) (h2 : choice_Bytes x.1 = some v) (h3 : k ((unpack .str) v)) : callK (lf_choice_Bytes vs) k := by
  rw [lq_choice_Bytes]; exact callK_lift h1 h2 h3
def tt_choice_Bytes : List (Nat × Ty) := [(3, .int .i64), (5, .int .u8), (9, .str), (27, .int .i64), (37, .sl (.int .u8)), (106, .sl (.pair (.int .i64) (.pair (.int .i64) (.pair (.int .i64) .unit)))), (112, .pair (.int .i64) (.pair (.int .i64) (.pair (.int .i64) .unit))), (130, .opq 0), (132, .pair (.opq 3) (.pair (.sl (.int .u8)) .unit)), (134, .opq 2), (143, .opq 4)]
def et_choice_Bytes : List (Nat × Nat) := [(37, 5), (106, 112)]
theorem tt_choice_Bytes_ok : subT tt tt_choice_Bytes = true := by kernel_rfl
theorem et_choice_Bytes_ok : subE et et_choice_Bytes = true := by kernel_rfl
noncomputable def fns_choice_Bytes : List (Nat × (List AV → Option AV)) := [(57, lf_choice_All)]
theorem fns_choice_Bytes_ok : FnsOk Go.Proofs.Try.prog fns_choice_Bytes := FnsOk.cons c_choice_All (FnsOk.nil _)
noncomputable def pr_choice_Bytes_s : List (Nat × Proc) := [(84, copyT)]
def kp_choice_Bytes_79 : List (Nat × List Nat) := [(0, [0, 1]), (1, [0, 1]), (2, [1]), (3, [4, 5])]
def od_choice_Bytes_79 : List (Nat × Ord) := []
noncomputable def E_choice_Bytes_79 : Env := ⟨0, 0, et_choice_Bytes, tt_choice_Bytes, fns_choice_Bytes, pr_choice_Bytes_s, od_choice_Bytes_79, kp_choice_Bytes_79, none, []⟩
noncomputable def pr_choice_Bytes_79 : List (Nat × Proc) := (79, procR E_choice_Bytes_79 19 [.tmp 4, .tmp 5] (bodyOf Try.f79)) :: pr_choice_Bytes_s
theorem pr_choice_Bytes_79_ok : PrsOk Go.Proofs.Try.prog pr_choice_Bytes_79 :=
  PrsOk.cons (proc_conR (E := E_choice_Bytes_79) (EnvC.sub (off := 0) (nt := 0) (ords := od_choice_Bytes_79) (keep := kp_choice_Bytes_79) (yl := none) tt_ok et_ok fns_choice_Bytes_ok (PrsOk.cons (copy_con lays_cp x72_cp rfl Go.Proofs.Try.func84 rfl (by decide)) (PrsOk.nil _)) (ItsOk.nil _) tt_choice_Bytes_ok et_choice_Bytes_ok) (PrOk.of mixed_ok) Go.Proofs.Try.func79 rfl (by decide) rfl rfl) (PrsOk.cons (copy_con lays_cp x72_cp rfl Go.Proofs.Try.func84 rfl (by decide)) (PrsOk.nil _))
def kp_choice_Bytes_80 : List (Nat × List Nat) := [(0, [0]), (1, [2])]
def od_choice_Bytes_80 : List (Nat × Ord) := [(1, (.one 0 (.one 1 (.one 2 (.one 3 (.one 4 (.one 5 (.one 6 (.one 7 (.one 8 (.one 9 (.one 100010 (.one 11 .nil)))))))))))))]
noncomputable def E_choice_Bytes_80 : Env := ⟨0, 0, et_choice_Bytes, tt_choice_Bytes, fns_choice_Bytes, pr_choice_Bytes_79, od_choice_Bytes_80, kp_choice_Bytes_80, none, []⟩
noncomputable def pr_choice_Bytes_80 : List (Nat × Proc) := (80, procR E_choice_Bytes_80 14 [.tmp 2] (bodyOf Try.f80)) :: pr_choice_Bytes_79
theorem pr_choice_Bytes_80_ok : PrsOk Go.Proofs.Try.prog pr_choice_Bytes_80 :=
  PrsOk.cons (proc_conR (E := E_choice_Bytes_80) (EnvC.sub (off := 0) (nt := 0) (ords := od_choice_Bytes_80) (keep := kp_choice_Bytes_80) (yl := none) tt_ok et_ok fns_choice_Bytes_ok (pr_choice_Bytes_79_ok) (ItsOk.nil _) tt_choice_Bytes_ok et_choice_Bytes_ok) (PrOk.of mixed_ok) Go.Proofs.Try.func80 rfl (by decide) rfl rfl) (pr_choice_Bytes_79_ok)
def choice_Bytes_S1 (u0 : AV) (B2 : Blk) (x3 : (List (Int × Int × Int × Unit)) × Int × Int × List Int) : St :=
  ⟨[(5, u0), (24, .ro (.pair (.int .i64) (.pair (.int .i64) (.pair (.int .i64) .unit))) x3.1), (25, .int .i64 x3.2.1), (26, .int .i64 x3.2.2.1)], [(5, B2), (24590, .row 5 (.int .u8) x3.2.2.2 false)], none⟩
def choice_Bytes_M1 : Msk := ⟨[5, 24, 25, 26], [5, 24590], [], [], [], [], [], [], [], [], []⟩
def choice_Bytes_Q1 (x1 : (List (Int × Int × Int × Unit)) × Int × List Int) : St :=
  ⟨[(0, .ro (.pair (.int .i64) (.pair (.int .i64) (.pair (.int .i64) .unit))) x1.1), (5, .ptr 5 []), (23, .tup [.int .i64 x1.2.1, .con (.nilIface)])], [(5, .var (.pair (.opq 3) (.pair (.sl (.int .u8)) .unit)) (.agg [.ptr 5 [], .own 24590]) false), (24590, .row 5 (.int .u8) x1.2.2 false)], none⟩
def choice_Bytes_Q2 (x2 : ByteArray) : St :=
  ⟨[(2, .dead), (51, .str x2)], [], none⟩
def choice_Bytes_Q3 (x4 : (List (Int × Int × Int × Unit)) × Int × Int × Int × List Int) : St :=
  ⟨[(5, .ptr 5 []), (24, .ro (.pair (.int .i64) (.pair (.int .i64) (.pair (.int .i64) .unit))) x4.1), (25, .int .i64 x4.2.1), (26, .int .i64 x4.2.2.1), (41, .tup [.int .i64 x4.2.2.2.1, .con (.nilIface)])], [(5, .var (.pair (.opq 3) (.pair (.sl (.int .u8)) .unit)) (.agg [.ptr 5 [], .own 24590]) false), (24590, .row 5 (.int .u8) x4.2.2.2.2 false)], none⟩
def choice_Bytes_Q4 (x5 : (List (Int × Int × Int × Unit)) × Int × Int × Int × List Int) : St :=
  ⟨[(5, .ptr 5 []), (24, .ro (.pair (.int .i64) (.pair (.int .i64) (.pair (.int .i64) .unit))) x5.1), (25, .int .i64 x5.2.1), (26, .int .i64 x5.2.2.1), (49, .tup [.int .i64 x5.2.2.2.1, .con (.nilIface)])], [(5, .var (.pair (.opq 3) (.pair (.sl (.int .u8)) .unit)) (.agg [.ptr 5 [], .own 24590]) false), (24590, .row 5 (.int .u8) x5.2.2.2.2 false)], none⟩
def kp_choice_Bytes : List (Nat × List Nat) := [(0, [0]), (1, [0, 4]), (2, [0, 14]), (3, [2]), (4, [0, 5]), (5, [0, 5]), (6, [5, 24, 25, 26]), (7, [5, 24, 25, 26, 27]), (8, [5, 7, 24, 25, 26]), (9, [5, 7, 24, 25, 26, 32]), (10, [5, 24, 25, 26]), (11, [5, 24, 25, 26]), (12, [5, 24, 25, 26]), (13, [2]), (25000023, []), (20000023, [0, 5, 23]), (25000041, []), (20000041, [5, 24, 25, 26, 41]), (25000049, []), (20000049, [5, 24, 25, 26, 49]), (25000051, []), (20000051, [2, 51]), (24000023, [5, 24590]), (26000023, []), (24000041, [5, 24590]), (26000041, []), (24000049, [5, 24590]), (26000049, []), (24000051, []), (26000051, []), (4000000, []), (4000001, []), (4000002, []), (4000003, []), (4000004, [5]), (4000005, [5, 24590]), (4000006, [5, 24590]), (4000007, [5, 24590]), (4000008, [5, 7, 24590]), (4000009, [5, 7, 24590]), (4000010, [5, 24590]), (4000011, [5, 24590]), (4000012, [5, 24590]), (4000013, [])]
def od_choice_Bytes : List (Nat × Ord) := []
noncomputable def E_choice_Bytes : Env := ⟨0, 0, et_choice_Bytes, tt_choice_Bytes, fns_choice_Bytes, pr_choice_Bytes_80, od_choice_Bytes, kp_choice_Bytes, none, []⟩
set_option maxRecDepth 100000 in
set_option maxHeartbeats 40000000 in
theorem c_choice_Bytes : PCon Go.Proofs.Try.prog 60 lf_choice_Bytes := by
  rw [lq_choice_Bytes]
  refine lift_conR (E := E_choice_Bytes) (c := bodyOf Try.f60) (nt := 52) (rs := [.tmp 2]) (ts := [9]) (EnvC.sub (off := 0) (nt := 0) (ords := od_choice_Bytes) (keep := kp_choice_Bytes) (yl := none) tt_ok et_ok fns_choice_Bytes_ok (pr_choice_Bytes_80_ok) (ItsOk.nil _) tt_choice_Bytes_ok et_choice_Bytes_ok) (PrOk.of mixed_ok) Go.Proofs.Try.func60 rfl (by decide) rfl rfl rfl (pureR_one (e := .str) rfl) ?_
  intro x r hw hs
  repeat'
    (try (conv => whnf)
     first
       | (with_reducible have hs := letv_out hs)
       | (refine draw_and (by kernel_rfl) ?_)
       | (refine both_mk ?_ ?_)
       | (refine br_bool (fun h => ?_) (fun h => ?_) <;> first | have hs := cT h hs | have hs := cF h hs)
       | (refine bind_elim hs fun v hb hs => ?_; first | ((with_reducible show callK (lf_choice_All _) _); refine ck_choice_All rfl hb ?_))
       | refine chk_elim hs fun hs => ?_
       | (have hs := letv_out hs)
       | exact fin_some hs rfl
       | (intro b hb; first | have hs := nilq_elim hs b hb | have hs := nilqn_elim hs b hb)
       | exact hJ1 _ hs
       | exact hC1 _ hs
       | exact hC2 _ hs
       | exact hC3 _ hs
       | exact hC4 _ hs
       | (refine cut_out 1 choice_Bytes_Q1 hs (fun Jc1 kc1 hC1 hs => ?_) (fun xc1 hs => ?_))
       | (refine cut_out 2 choice_Bytes_Q2 hs (fun Jc2 kc2 hC2 hs => ?_) (fun xc2 hs => ?_))
       | (refine cut_out 3 choice_Bytes_Q3 hs (fun Jc3 kc3 hC3 hs => ?_) (fun xc3 hs => ?_))
       | (refine cut_out 4 choice_Bytes_Q4 hs (fun Jc4 kc4 hC4 hs => ?_) (fun xc4 hs => ?_))
       | (have hs := cT rfl hs)
       | (have hs := cF rfl hs)
       | ((with_reducible have hs : loop choice_Bytes_L1 _ = some _ := hs); refine vc_loopR (choice_Bytes_S1 _ _) choice_Bytes_M1 hs rfl ?_; intro J1 k1 x1 hJ1 hs)
       | (refine vc_loopR (choice_Bytes_S1 _ _) choice_Bytes_M1 hs rfl ?_; intro J1 k1 x1 hJ1 hs)
       | exact (none_ne hs).elim)
theorem cq_choice_Bytes : PCon Go.Proofs.Try.prog 60 (liftF (.pair (.sl (.pair (.int .i64) (.pair (.int .i64) (.pair (.int .i64) .unit)))) .unit) (unpack .str) (fun x => choice_Bytes x.1)) := lq_choice_Bytes ▸ c_choice_Bytes
noncomputable def lf_choice_one : List AV → Option AV := liftF (.pair .str .unit) (unpack (.pair (.int .i64) (.pair (.int .i64) (.pair (.int .i64) .unit)))) (fun x => choice_one x.1)
theorem lq_choice_one : lf_choice_one = liftF (.pair .str .unit) (unpack (.pair (.int .i64) (.pair (.int .i64) (.pair (.int .i64) .unit)))) (fun x => choice_one x.1) := rfl
attribute [irreducible] lf_choice_one
theorem ck_choice_one {vs : List AV} {k : AV → Prop} {x : ((.pair .str .unit) : Ty).den} {v : Int × Int × Int × Unit} (h1 : pks (.pair .str .unit) vs = some x) (h2 : choice_one x.1 = some v) (h3 : k ((unpack (.pair (.int .i64) (.pair (.int .i64) (.pair (.int .i64) .unit)))) v)) : callK (lf_choice_one vs) k := by
  rw [lq_choice_one]; exact callK_lift h1 h2 h3
def tt_choice_one : List (Nat × Ty) := [(3, .int .i64), (5, .int .u8), (9, .str), (112, .pair (.int .i64) (.pair (.int .i64) (.pair (.int .i64) .unit)))]
def et_choice_one : List (Nat × Nat) := []
theorem tt_choice_one_ok : subT tt tt_choice_one = true := by kernel_rfl
theorem et_choice_one_ok : subE et et_choice_one = true := by kernel_rfl
noncomputable def fns_choice_one : List (Nat × (List AV → Option AV)) := []
theorem fns_choice_one_ok : FnsOk Go.Proofs.Try.prog fns_choice_one := FnsOk.nil _
def kp_choice_one : List (Nat × List Nat) := [(0, [0, 2]), (1, [2, 3]), (2, [2, 3, 16]), (3, [2, 3]), (4, [2]), (4000000, [2]), (4000001, [2, 3]), (4000002, [2, 3]), (4000003, [2, 3]), (4000004, [2])]
def od_choice_one : List (Nat × Ord) := [(1, (.one 0 (.one 1 (.one 2 (.one 3 (.one 4 (.one 5 (.one 6 (.one 7 (.one 8 (.one 9 (.one 10 (.one 100011 .nil)))))))))))))]
noncomputable def E_choice_one : Env := ⟨0, 0, et_choice_one, tt_choice_one, fns_choice_one, [], od_choice_one, kp_choice_one, none, []⟩
set_option maxRecDepth 100000 in
set_option maxHeartbeats 40000000 in
theorem c_choice_one : PCon Go.Proofs.Try.prog 82 lf_choice_one := by
  rw [lq_choice_one]
  refine lift_conR (E := E_choice_one) (c := bodyOf Try.f82) (nt := 26) (rs := [.cell 2 112]) (ts := [112]) (EnvC.sub (off := 0) (nt := 0) (ords := od_choice_one) (keep := kp_choice_one) (yl := none) tt_ok et_ok fns_choice_one_ok (PrsOk.nil _) (ItsOk.nil _) tt_choice_one_ok et_choice_one_ok) (PrOk.of mixed_ok) Go.Proofs.Try.func82 rfl (by decide) rfl rfl rfl (pureR_one (e := (.pair (.int .i64) (.pair (.int .i64) (.pair (.int .i64) .unit)))) rfl) ?_
  intro x r hw hs
  repeat'
    (try (conv => whnf)
     first
       | (with_reducible have hs := letv_out hs)
       | (refine draw_and (by kernel_rfl) ?_)
       | (refine both_mk ?_ ?_)
       | (refine br_bool (fun h => ?_) (fun h => ?_) <;> first | have hs := cT h hs | have hs := cF h hs)
       | refine chk_elim hs fun hs => ?_
       | (have hs := letv_out hs)
       | exact fin_some hs rfl
       | (intro b hb; first | have hs := nilq_elim hs b hb | have hs := nilqn_elim hs b hb)
       | (have hs := cT rfl hs)
       | (have hs := cF rfl hs)
       | exact (none_ne hs).elim)
theorem cq_choice_one : PCon Go.Proofs.Try.prog 82 (liftF (.pair .str .unit) (unpack (.pair (.int .i64) (.pair (.int .i64) (.pair (.int .i64) .unit)))) (fun x => choice_one x.1)) := lq_choice_one ▸ c_choice_one
noncomputable def lf_choice_Read : List AV → Option AV := liftF (.pair .str (.pair (.int .i64) .unit)) (unpR (.pair (.sl (.pair (.int .i64) (.pair (.int .i64) (.pair (.int .i64) .unit)))) (.pair (.int .i64) (.pair (.int .i64) .unit)))) (fun x => choice_Read x.1 x.2.1)
theorem lq_choice_Read : lf_choice_Read = liftF (.pair .str (.pair (.int .i64) .unit)) (unpR (.pair (.sl (.pair (.int .i64) (.pair (.int .i64) (.pair (.int .i64) .unit)))) (.pair (.int .i64) (.pair (.int .i64) .unit)))) (fun x => choice_Read x.1 x.2.1) := rfl
attribute [irreducible] lf_choice_Read
theorem ck_choice_Read {vs : List AV} {k : AV → Prop} {x : ((.pair .str (.pair (.int .i64) .unit)) : Ty).den} {v : (List (Int × Int × Int × Unit)) × Int × Int × Unit} (h1 : pks (.pair .str (.pair (.int .i64) .unit)) vs = some x) (h2 : choice_Read x.1 x.2.1 = some v) (h3 : k ((unpR (.pair (.sl (.pair (.int .i64) (.pair (.int .i64) (.pair (.int .i64) .unit)))) (.pair (.int .i64) (.pair (.int .i64) .unit)))) v)) : callK (lf_choice_Read vs) k := by
  rw [lq_choice_Read]; exact callK_lift h1 h2 h3
def tt_choice_Read : List (Nat × Ty) := [(3, .int .i64), (4, .bool), (5, .int .u8), (9, .str), (27, .int .i64), (106, .sl (.pair (.int .i64) (.pair (.int .i64) (.pair (.int .i64) .unit)))), (112, .pair (.int .i64) (.pair (.int .i64) (.pair (.int .i64) .unit))), (140, .opq 1)]
def et_choice_Read : List (Nat × Nat) := [(106, 112)]
theorem tt_choice_Read_ok : subT tt tt_choice_Read = true := by kernel_rfl
theorem et_choice_Read_ok : subE et et_choice_Read = true := by kernel_rfl
noncomputable def fns_choice_Read : List (Nat × (List AV → Option AV)) := [(62, lf_choice_Check), (82, lf_choice_one)]
theorem fns_choice_Read_ok : FnsOk Go.Proofs.Try.prog fns_choice_Read := FnsOk.cons c_choice_Check (FnsOk.cons c_choice_one (FnsOk.nil _))
def kp_choice_Read_85 : List (Nat × List Nat) := [(0, [0, 2, 5, 6]), (1, [0, 2, 5, 6, 7]), (2, [0, 2, 4, 5, 6]), (3, [0, 2, 5, 6, 26]), (4, [0, 2, 5, 6])]
def od_choice_Read_85 : List (Nat × Ord) := []
noncomputable def E_choice_Read_85 : Env := ⟨0, 0, et_choice_Read, tt_choice_Read, fns_choice_Read, [], od_choice_Read_85, kp_choice_Read_85, none, []⟩
noncomputable def it_choice_Read_85 : List (Nat × (Nat → (List Nat → Proc) → Proc)) := (85, itR E_choice_Read_85 28 [] (bodyOf Try.f85)) :: []
theorem it_choice_Read_85_ok : ItsOk Go.Proofs.Try.prog it_choice_Read_85 :=
  ItsOk.cons (it_conR (E := E_choice_Read_85) (EnvC.sub (off := 0) (nt := 0) (ords := od_choice_Read_85) (keep := kp_choice_Read_85) (yl := none) tt_ok et_ok fns_choice_Read_ok (PrsOk.nil _) (ItsOk.nil _) tt_choice_Read_ok et_choice_Read_ok) (PrOk.of mixed_ok) Go.Proofs.Try.func85 rfl (by decide) rfl rfl) (ItsOk.nil _)
def kp_choice_Read_81 : List (Nat × List Nat) := [(0, [2, 3]), (1, [4])]
def od_choice_Read_81 : List (Nat × Ord) := []
noncomputable def E_choice_Read_81 : Env := ⟨0, 0, et_choice_Read, tt_choice_Read, fns_choice_Read, [], od_choice_Read_81, kp_choice_Read_81, none, it_choice_Read_85⟩
noncomputable def pr_choice_Read_81 : List (Nat × Proc) := (81, procR E_choice_Read_81 6 [.tmp 4] (bodyOf Try.f81)) :: []
theorem pr_choice_Read_81_ok : PrsOk Go.Proofs.Try.prog pr_choice_Read_81 :=
  PrsOk.cons (proc_conR (E := E_choice_Read_81) (EnvC.sub (off := 0) (nt := 0) (ords := od_choice_Read_81) (keep := kp_choice_Read_81) (yl := none) tt_ok et_ok fns_choice_Read_ok (PrsOk.nil _) (it_choice_Read_85_ok) tt_choice_Read_ok et_choice_Read_ok) (PrOk.of mixed_ok) Go.Proofs.Try.func81 rfl (by decide) rfl rfl) (PrsOk.nil _)
def choice_Read_S1 (u0 : AV) (u1 : AV) (u2 : AV) (B4 : Blk) (B6 : Blk) (B8 : Blk) (B10 : Blk) (B12 : Blk) (B14 : Blk) (x2 : Int × (List (Int × Int × Int × Unit))) : St :=
  ⟨[(0, u0), (2, u1), (5, u2), (6, .int .i64 x2.1)], [(4, B4), (5, B6), (6, B8), (8, B10), (57, .row 112 (.pair (.int .i64) (.pair (.int .i64) (.pair (.int .i64) .unit))) x2.2 false), (47106, B12), (47107, B14)], (some ([10, 56, 57], 0))⟩
def choice_Read_M1 : Msk := ⟨[0, 2, 5, 6], [4, 5, 6, 8, 57, 47106, 47107], [], [(8, [], 57, 106)], [10, 56, 57], [], [], [], [], [], []⟩
def choice_Read_Q1 (x1 : Int × Int × ByteArray × Int) : St :=
  ⟨[(1, .int .i64 x1.1), (4, .ptr 4 []), (5, .ptr 5 []), (6, .ptr 6 []), (7, .int .i64 x1.2.1), (8, .ptr 8 []), (45, .fn (.func 85) [] [.ptr 47107 [], .ptr 47106 []])], [(4, .var (.sl (.pair (.int .i64) (.pair (.int .i64) (.pair (.int .i64) .unit)))) (.con (.slice none 0 0)) false), (5, .var (.int .i64) (.int .i64 0) false), (6, .var (.int .i64) (.int .i64 0) false), (8, .var (.sl (.pair (.int .i64) (.pair (.int .i64) (.pair (.int .i64) .unit)))) (.con (.slice none 0 0)) false), (47106, .var .str (.str x1.2.2.1) false), (47107, .var (.int .i64) (.int .i64 x1.2.2.2) false)], none⟩
def kp_choice_Read : List (Nat × List Nat) := [(0, [0, 1, 4, 5, 6]), (1, [0, 1, 4, 5, 6, 12]), (2, [4, 5, 6]), (3, [0, 1, 4, 5, 6, 21]), (4, [4, 5, 6]), (5, [0, 1, 4, 5, 6, 7]), (6, [0, 1, 4, 5, 6, 7, 39]), (7, [4, 5, 6]), (8, [0, 1, 4, 5, 6, 7, 8]), (9, [1, 4, 5, 6, 7, 8, 45]), (10, [4, 5, 6, 8, 9]), (11, [4, 5, 6, 8, 10]), (12, [4, 5, 6, 8, 10, 11]), (13, [4, 5, 6, 8, 10, 11, 52]), (14, []), (15, []), (16, [1, 4, 5, 6, 7, 8, 61]), (17, [4, 5, 6]), (18, [4, 5, 6]), (25000045, []), (20000045, [1, 4, 5, 6, 7, 8, 45]), (24000045, [4, 5, 6, 8, 47106, 47107]), (26000045, []), (4000000, [4, 5, 6]), (4000001, [4, 5, 6]), (4000002, [4, 5, 6]), (4000003, [4, 5, 6]), (4000004, [4, 5, 6]), (4000005, [4, 5, 6]), (4000006, [4, 5, 6]), (4000007, [4, 5, 6]), (4000008, [4, 5, 6, 8]), (4000009, [4, 5, 6, 8, 47106, 47107]), (4000010, [4, 5, 6, 8, 57, 47106, 47107]), (4000011, [4, 5, 6, 8, 10, 57, 47106, 47107]), (4000012, [4, 5, 6, 8, 10, 57, 47106, 47107]), (4000013, [4, 5, 6, 8, 10, 57, 47106, 47107]), (4000014, [4, 5, 6, 8, 57, 47106, 47107]), (4000015, [4, 5, 6, 8, 57, 47106, 47107]), (4000016, [4, 5, 6, 8, 57]), (4000017, [4, 5, 6]), (4000018, [4, 5, 6, 57])]
def od_choice_Read : List (Nat × Ord) := [(5, (.one 0 (.one 1 (.one 2 (.one 3 (.one 4 (.one 5 (.one 6 (.one 7 (.one 8 (.one 9 (.one 10 (.one 11 .nil)))))))))))))]
noncomputable def E_choice_Read : Env := ⟨0, 0, et_choice_Read, tt_choice_Read, fns_choice_Read, pr_choice_Read_81, od_choice_Read, kp_choice_Read, none, it_choice_Read_85⟩
set_option maxRecDepth 100000 in
set_option maxHeartbeats 40000000 in
theorem c_choice_Read : PCon Go.Proofs.Try.prog 64 lf_choice_Read := by
  rw [lq_choice_Read]
  refine lift_conR (E := E_choice_Read) (c := bodyOf Try.f64) (nt := 68) (rs := [.cell 4 106, .cell 5 3, .cell 6 27]) (ts := [106, 3, 27]) (EnvC.sub (off := 0) (nt := 0) (ords := od_choice_Read) (keep := kp_choice_Read) (yl := none) tt_ok et_ok fns_choice_Read_ok (pr_choice_Read_81_ok) (it_choice_Read_85_ok) tt_choice_Read_ok et_choice_Read_ok) (PrOk.of mixed_ok) Go.Proofs.Try.func64 rfl (by decide) rfl rfl rfl (pureR_many (e := (.pair (.sl (.pair (.int .i64) (.pair (.int .i64) (.pair (.int .i64) .unit)))) (.pair (.int .i64) (.pair (.int .i64) .unit)))) rfl) ?_
  intro x r hw hs
  repeat'
    (try (conv => whnf)
     first
       | (with_reducible have hs := letv_out hs)
       | (refine draw_and (by kernel_rfl) ?_)
       | (refine both_mk ?_ ?_)
       | (refine br_bool (fun h => ?_) (fun h => ?_) <;> first | have hs := cT h hs | have hs := cF h hs)
       | (refine bind_elim hs fun v hb hs => ?_; first | ((with_reducible show callK (lf_choice_Check _) _); refine ck_choice_Check rfl hb ?_) | ((with_reducible show callK (lf_choice_one _) _); refine ck_choice_one rfl hb ?_))
       | refine chk_elim hs fun hs => ?_
       | (have hs := letv_out hs)
       | exact fin_some hs rfl
       | (intro b hb; first | have hs := nilq_elim hs b hb | have hs := nilqn_elim hs b hb)
       | exact hJ1 _ hs
       | exact hC1 _ hs
       | (refine cut_out 1 choice_Read_Q1 hs (fun Jc1 kc1 hC1 hs => ?_) (fun xc1 hs => ?_))
       | (have hs := cT rfl hs)
       | (have hs := cF rfl hs)
       | ((with_reducible have hs : loop (choice_Read_L1 _) _ = some _ := hs); refine vc_loopR (choice_Read_S1 _ _ _ _ _ _ _ _ _) choice_Read_M1 hs rfl ?_; intro J1 k1 x1 hJ1 hs)
       | (refine vc_loopR (choice_Read_S1 _ _ _ _ _ _ _ _ _) choice_Read_M1 hs rfl ?_; intro J1 k1 x1 hJ1 hs)
       | (refine eqP_mk ?_)
       | (intro l)
       | exact (none_ne hs).elim)
theorem cq_choice_Read : PCon Go.Proofs.Try.prog 64 (liftF (.pair .str (.pair (.int .i64) .unit)) (unpR (.pair (.sl (.pair (.int .i64) (.pair (.int .i64) (.pair (.int .i64) .unit)))) (.pair (.int .i64) (.pair (.int .i64) .unit)))) (fun x => choice_Read x.1 x.2.1)) := lq_choice_Read ▸ c_choice_Read
end Go.Proofs.YtoihmfgkmndjfaaV
