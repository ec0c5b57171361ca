import Derived.Test.YtoihmfgkmndjfaaVcTab
import Derived.Test.YtoihmfgkmndjfaaDR33
namespace Go.Proofs.YtoihmfgkmndjfaaV
open Go.Proofs
set_option linter.unusedVariables false
noncomputable def lf_R33_Check : List AV → Option AV := liftF (.pair (.pair (.int .i64) (.pair (.int .i64) (.pair (.int .i64) .unit))) .unit) (unpack (.int .i64)) (fun x => R33_Check x.1)
theorem lq_R33_Check : lf_R33_Check = liftF (.pair (.pair (.int .i64) (.pair (.int .i64) (.pair (.int .i64) .unit))) .unit) (unpack (.int .i64)) (fun x => R33_Check x.1) := rfl
attribute [irreducible] lf_R33_Check
theorem ck_R33_Check {vs : List AV} {k : AV → Prop} {x : ((.pair (.pair (.int .i64) (.pair (.int .i64) (.pair (.int .i64) .unit))) .unit) : Ty).den} {v : Int} (h1 : pks (.pair (.pair (.int .i64) (.pair (.int .i64) (.pair (.int .i64) .unit))) .unit) vs = some x) (h2 : R33_Check x.1 = some v) (h3 : k ((unpack (.int .i64)) v)) : callK (lf_R33_Check vs) k := by
  rw [lq_R33_Check]; exact callK_lift h1 h2 h3
def tt_R33_Check : List (Nat × Ty) := [(3, .int .i64), (104, .pair (.int .i64) (.pair (.int .i64) (.pair (.int .i64) .unit)))]
def et_R33_Check : List (Nat × Nat) := []
theorem tt_R33_Check_ok : subT tt tt_R33_Check = true := by kernel_rfl
theorem et_R33_Check_ok : subE et et_R33_Check = true := by kernel_rfl
noncomputable def fns_R33_Check : List (Nat × (List AV → Option AV)) := []
theorem fns_R33_Check_ok : FnsOk Go.Proofs.Try.prog fns_R33_Check := FnsOk.nil _
def kp_R33_Check : List (Nat × List Nat) := [(0, [1]), (1, [1, 10]), (2, [2]), (3, [1, 33]), (4, [2]), (5, [51]), (6, [2]), (7, [2]), (4000000, [1]), (4000001, [1]), (4000002, []), (4000003, [1]), (4000004, []), (4000005, []), (4000006, []), (4000007, [])]
def od_R33_Check : List (Nat × Ord) := []
noncomputable def E_R33_Check : Env := ⟨0, 0, et_R33_Check, tt_R33_Check, fns_R33_Check, [], od_R33_Check, kp_R33_Check, none, []⟩
set_option maxRecDepth 100000 in
set_option maxHeartbeats 40000000 in
theorem c_R33_Check : PCon Go.Proofs.Try.prog 63 lf_R33_Check := by
  rw [lq_R33_Check]
  refine lift_conR (E := E_R33_Check) (c := bodyOf Try.f63) (nt := 52) (rs := [.tmp 2]) (ts := [3]) (EnvC.sub (off := 0) (nt := 0) (ords := od_R33_Check) (keep := kp_R33_Check) (yl := none) tt_ok et_ok fns_R33_Check_ok (PrsOk.nil _) (ItsOk.nil _) tt_R33_Check_ok et_R33_Check_ok) (PrOk.of mixed_ok) Go.Proofs.Try.func63 rfl (by decide) rfl rfl rfl (pureR_one (e := (.int .i64)) rfl) ?_
  intro x r hw hs
  repeat'
    (try (conv => whnf)
     first
       | (with_reducible have hs := letv_out hs)
       | (refine draw_and (by kernel_rfl) ?_)
       | (refine both_mk ?_ ?_)
       | (refine br_bool (fun h => ?_) (fun h => ?_) <;> first | have hs := cT h hs | have hs := cF h hs)
       | refine chk_elim hs fun hs => ?_
       | (have hs := letv_out hs)
       | exact fin_some hs rfl
       | (intro b hb; first | have hs := nilq_elim hs b hb | have hs := nilqn_elim hs b hb)
       | (have hs := cT rfl hs)
       | (have hs := cF rfl hs)
       | exact (none_ne hs).elim)
theorem cq_R33_Check : PCon Go.Proofs.Try.prog 63 (liftF (.pair (.pair (.int .i64) (.pair (.int .i64) (.pair (.int .i64) .unit))) .unit) (unpack (.int .i64)) (fun x => R33_Check x.1)) := lq_R33_Check ▸ c_R33_Check
noncomputable def lf_R33_All : List AV → Option AV := liftF (.pair (.sl (.pair (.int .i64) (.pair (.int .i64) (.pair (.int .i64) .unit)))) .unit) (unpR (.pair (.int .i64) (.pair (.int .i64) .unit))) (fun x => R33_All x.1)
theorem lq_R33_All : lf_R33_All = liftF (.pair (.sl (.pair (.int .i64) (.pair (.int .i64) (.pair (.int .i64) .unit)))) .unit) (unpR (.pair (.int .i64) (.pair (.int .i64) .unit))) (fun x => R33_All x.1) := rfl
attribute [irreducible] lf_R33_All
theorem ck_R33_All {vs : List AV} {k : AV → Prop} {x : ((.pair (.sl (.pair (.int .i64) (.pair (.int .i64) (.pair (.int .i64) .unit)))) .unit) : Ty).den} {v : Int × Int × Unit} (h1 : pks (.pair (.sl (.pair (.int .i64) (.pair (.int .i64) (.pair (.int .i64) .unit)))) .unit) vs = some x) (h2 : R33_All x.1 = some v) (h3 : k ((unpR (.pair (.int .i64) (.pair (.int .i64) .unit))) v)) : callK (lf_R33_All vs) k := by
  rw [lq_R33_All]; exact callK_lift h1 h2 h3
def tt_R33_All : List (Nat × Ty) := [(3, .int .i64), (102, .sl (.pair (.int .i64) (.pair (.int .i64) (.pair (.int .i64) .unit)))), (104, .pair (.int .i64) (.pair (.int .i64) (.pair (.int .i64) .unit)))]
def et_R33_All : List (Nat × Nat) := [(102, 104)]
theorem tt_R33_All_ok : subT tt tt_R33_All = true := by kernel_rfl
theorem et_R33_All_ok : subE et et_R33_All = true := by kernel_rfl
noncomputable def fns_R33_All : List (Nat × (List AV → Option AV)) := [(63, lf_R33_Check)]
theorem fns_R33_All_ok : FnsOk Go.Proofs.Try.prog fns_R33_All := FnsOk.cons c_R33_Check (FnsOk.nil _)
def R33_All_S1 (u0 : AV) (x1 : Int) : St :=
  ⟨[(0, u0), (4, .int .i64 x1)], [], none⟩
def R33_All_M1 : Msk := ⟨[0, 4], [], [], [], [], [], [], [], [], [], []⟩
def kp_R33_All : List (Nat × List Nat) := [(0, [0]), (1, [0, 8]), (2, [2, 3]), (3, [0, 4]), (4, [0, 4, 12]), (5, [0, 4]), (6, [0, 4, 5]), (7, [0, 4, 5, 21]), (8, [2, 3]), (9, [2, 3]), (4000000, []), (4000001, []), (4000002, []), (4000003, []), (4000004, []), (4000005, []), (4000006, []), (4000007, []), (4000008, []), (4000009, [])]
def od_R33_All : List (Nat × Ord) := []
noncomputable def E_R33_All : Env := ⟨0, 0, et_R33_All, tt_R33_All, fns_R33_All, [], od_R33_All, kp_R33_All, none, []⟩
set_option maxRecDepth 100000 in
set_option maxHeartbeats 40000000 in
theorem c_R33_All : PCon Go.Proofs.Try.prog 59 lf_R33_All := by
  rw [lq_R33_All]
  refine lift_conR (E := E_R33_All) (c := bodyOf Try.f59) (nt := 24) (rs := [.tmp 2, .tmp 3]) (ts := [3, 3]) (EnvC.sub (off := 0) (nt := 0) (ords := od_R33_All) (keep := kp_R33_All) (yl := none) tt_ok et_ok fns_R33_All_ok (PrsOk.nil _) (ItsOk.nil _) tt_R33_All_ok et_R33_All_ok) (PrOk.of mixed_ok) Go.Proofs.Try.func59 rfl (by decide) rfl rfl rfl (pureR_many (e := (.pair (.int .i64) (.pair (.int .i64) .unit))) rfl) ?_
  intro x r hw hs
  repeat'
    (try (conv => whnf)
     first
       | (with_reducible have hs := letv_out hs)
       | (refine draw_and (by kernel_rfl) ?_)
       | (refine both_mk ?_ ?_)
       | (refine br_bool (fun h => ?_) (fun h => ?_) <;> first | have hs := cT h hs | have hs := cF h hs)
       | (refine bind_elim hs fun v hb hs => ?_; first | ((with_reducible show callK (lf_R33_Check _) _); refine ck_R33_Check rfl hb ?_))
       | refine chk_elim hs fun hs => ?_
       | (have hs := letv_out hs)
       | exact fin_some hs rfl
       | (intro b hb; first | have hs := nilq_elim hs b hb | have hs := nilqn_elim hs b hb)
       | exact hJ1 _ hs
       | (have hs := cT rfl hs)
       | (have hs := cF rfl hs)
       | ((with_reducible have hs : loop (R33_All_L1 _) _ = some _ := hs); refine vc_loopR (R33_All_S1 _) R33_All_M1 hs rfl ?_; intro J1 k1 x1 hJ1 hs)
       | (refine vc_loopR (R33_All_S1 _) R33_All_M1 hs rfl ?_; intro J1 k1 x1 hJ1 hs)
       | exact (none_ne hs).elim)
theorem cq_R33_All : PCon Go.Proofs.Try.prog 59 (liftF (.pair (.sl (.pair (.int .i64) (.pair (.int .i64) (.pair (.int .i64) .unit)))) .unit) (unpR (.pair (.int .i64) (.pair (.int .i64) .unit))) (fun x => R33_All x.1)) := lq_R33_All ▸ c_R33_All
noncomputable def lf_R33_Bytes : List AV → Option AV := liftF (.pair (.sl (.pair (.int .i64) (.pair (.int .i64) (.pair (.int .i64) .unit)))) .unit) (unpack .str) (fun x => R33_Bytes x.1)
theorem lq_R33_Bytes : lf_R33_Bytes = liftF (.pair (.sl (.pair (.int .i64) (.pair (.int .i64) (.pair (.int .i64) .unit)))) .unit) (unpack .str) (fun x => R33_Bytes x.1) := rfl
attribute [irreducible] lf_R33_Bytes
theorem ck_R33_Bytes {vs : List AV} {k : AV → Prop} {x : ((.pair (.sl (.pair (.int .i64) (.pair (.int .i64) (.pair (.int .i64) .unit)))) .unit) : Ty).den} {v : ByteArray} (h1 : pks (.pair (.sl (.pair (.int .i64) (.pair (.int .i64) (.pair (.int .i64) .unit)))) .unit) vs = some x) (h2 : R33_Bytes x.1 = some v) (h3 : k ((unpack .str) v)) : callK (lf_R33_Bytes vs) k := by
  rw [lq_R33_Bytes]; exact callK_lift h1 h2 h3
def tt_R33_Bytes : List (Nat × Ty) := [(3, .int .i64), (5, .int .u8), (9, .str), (37, .sl (.int .u8)), (102, .sl (.pair (.int .i64) (.pair (.int .i64) (.pair (.int .i64) .unit)))), (104, .pair (.int .i64) (.pair (.int .i64) (.pair (.int .i64) .unit)))]
def et_R33_Bytes : List (Nat × Nat) := [(37, 5), (102, 104)]
theorem tt_R33_Bytes_ok : subT tt tt_R33_Bytes = true := by kernel_rfl
theorem et_R33_Bytes_ok : subE et et_R33_Bytes = true := by kernel_rfl
noncomputable def fns_R33_Bytes : List (Nat × (List AV → Option AV)) := [(59, lf_R33_All)]
theorem fns_R33_Bytes_ok : FnsOk Go.Proofs.Try.prog fns_R33_Bytes := FnsOk.cons c_R33_All (FnsOk.nil _)
def R33_Bytes_S1 (u0 : AV) (u1 : AV) (x1 : Int × List Int) : St :=
  ⟨[(0, u0), (5, u1), (6, .int .i64 x1.1)], [(23, .row 5 (.int .u8) x1.2 false)], none⟩
def R33_Bytes_M1 : Msk := ⟨[0, 5, 6], [23], [], [], [], [], [], [], [], [], []⟩
def kp_R33_Bytes : List (Nat × List Nat) := [(0, [0]), (1, [0, 4]), (2, [0, 14]), (3, [2]), (4, [0, 5]), (5, [0, 5, 6]), (6, [0, 5, 6, 27]), (7, [0, 5, 6]), (8, [0, 5, 6, 7]), (9, [0, 5, 6, 7, 36]), (10, [0, 5, 6]), (11, [0, 5, 6]), (12, [2]), (4000000, []), (4000001, []), (4000002, []), (4000003, []), (4000004, [23]), (4000005, [23]), (4000006, [23]), (4000007, [23]), (4000008, [7, 23]), (4000009, [7, 23]), (4000010, [23]), (4000011, [23]), (4000012, [])]
def od_R33_Bytes : List (Nat × Ord) := []
noncomputable def E_R33_Bytes : Env := ⟨0, 0, et_R33_Bytes, tt_R33_Bytes, fns_R33_Bytes, [], od_R33_Bytes, kp_R33_Bytes, none, []⟩
set_option maxRecDepth 100000 in
set_option maxHeartbeats 40000000 in
theorem c_R33_Bytes : PCon Go.Proofs.Try.prog 61 lf_R33_Bytes := by
  rw [lq_R33_Bytes]
  refine lift_conR (E := E_R33_Bytes) (c := bodyOf Try.f61) (nt := 59) (rs := [.tmp 2]) (ts := [9]) (EnvC.sub (off := 0) (nt := 0) (ords := od_R33_Bytes) (keep := kp_R33_Bytes) (yl := none) tt_ok et_ok fns_R33_Bytes_ok (PrsOk.nil _) (ItsOk.nil _) tt_R33_Bytes_ok et_R33_Bytes_ok) (PrOk.of mixed_ok) Go.Proofs.Try.func61 rfl (by decide) rfl rfl rfl (pureR_one (e := .str) rfl) ?_
  intro x r hw hs
  repeat'
    (try (conv => whnf)
     first
       | (with_reducible have hs := letv_out hs)
       | (refine draw_and (by kernel_rfl) ?_)
       | (refine both_mk ?_ ?_)
       | (refine br_bool (fun h => ?_) (fun h => ?_) <;> first | have hs := cT h hs | have hs := cF h hs)
       | (refine bind_elim hs fun v hb hs => ?_; first | ((with_reducible show callK (lf_R33_All _) _); refine ck_R33_All rfl hb ?_))
       | refine chk_elim hs fun hs => ?_
       | (have hs := letv_out hs)
       | exact fin_some hs rfl
       | (intro b hb; first | have hs := nilq_elim hs b hb | have hs := nilqn_elim hs b hb)
       | exact hJ1 _ hs
       | (have hs := cT rfl hs)
       | (have hs := cF rfl hs)
       | ((with_reducible have hs : loop (R33_Bytes_L1 _) _ = some _ := hs); refine vc_loopR (R33_Bytes_S1 _ _) R33_Bytes_M1 hs rfl ?_; intro J1 k1 x1 hJ1 hs)
       | (refine vc_loopR (R33_Bytes_S1 _ _) R33_Bytes_M1 hs rfl ?_; intro J1 k1 x1 hJ1 hs)
       | exact (none_ne hs).elim)
theorem cq_R33_Bytes : PCon Go.Proofs.Try.prog 61 (liftF (.pair (.sl (.pair (.int .i64) (.pair (.int .i64) (.pair (.int .i64) .unit)))) .unit) (unpack .str) (fun x => R33_Bytes x.1)) := lq_R33_Bytes ▸ c_R33_Bytes
noncomputable def lf_R33_Read : List AV → Option AV := liftF (.pair .str (.pair (.int .i64) .unit)) (unpR (.pair (.sl (.pair (.int .i64) (.pair (.int .i64) (.pair (.int .i64) .unit)))) (.pair (.int .i64) (.pair (.int .i64) .unit)))) (fun x => R33_Read x.1 x.2.1)
theorem lq_R33_Read : lf_R33_Read = liftF (.pair .str (.pair (.int .i64) .unit)) (unpR (.pair (.sl (.pair (.int .i64) (.pair (.int .i64) (.pair (.int .i64) .unit)))) (.pair (.int .i64) (.pair (.int .i64) .unit)))) (fun x => R33_Read x.1 x.2.1) := rfl
attribute [irreducible] lf_R33_Read
theorem ck_R33_Read {vs : List AV} {k : AV → Prop} {x : ((.pair .str (.pair (.int .i64) .unit)) : Ty).den} {v : (List (Int × Int × Int × Unit)) × Int × Int × Unit} (h1 : pks (.pair .str (.pair (.int .i64) .unit)) vs = some x) (h2 : R33_Read x.1 x.2.1 = some v) (h3 : k ((unpR (.pair (.sl (.pair (.int .i64) (.pair (.int .i64) (.pair (.int .i64) .unit)))) (.pair (.int .i64) (.pair (.int .i64) .unit)))) v)) : callK (lf_R33_Read vs) k := by
  rw [lq_R33_Read]; exact callK_lift h1 h2 h3
def tt_R33_Read : List (Nat × Ty) := [(3, .int .i64), (5, .int .u8), (9, .str), (102, .sl (.pair (.int .i64) (.pair (.int .i64) (.pair (.int .i64) .unit)))), (104, .pair (.int .i64) (.pair (.int .i64) (.pair (.int .i64) .unit)))]
def et_R33_Read : List (Nat × Nat) := [(102, 104)]
theorem tt_R33_Read_ok : subT tt tt_R33_Read = true := by kernel_rfl
theorem et_R33_Read_ok : subE et et_R33_Read = true := by kernel_rfl
noncomputable def fns_R33_Read : List (Nat × (List AV → Option AV)) := [(63, lf_R33_Check)]
theorem fns_R33_Read_ok : FnsOk Go.Proofs.Try.prog fns_R33_Read := FnsOk.cons c_R33_Check (FnsOk.nil _)
def R33_Read_S1 (u0 : AV) (u1 : AV) (u2 : AV) (x1 : Int × Int × (List (Int × Int × Int × Unit))) : St :=
  ⟨[(0, u0), (1, .int .i64 x1.1), (7, u1), (8, u2), (9, .int .i64 x1.2.1)], [(83, .row 104 (.pair (.int .i64) (.pair (.int .i64) (.pair (.int .i64) .unit))) x1.2.2 false)], none⟩
def R33_Read_M1 : Msk := ⟨[0, 1, 7, 8, 9], [83], [(8, 83, 102)], [], [], [], [], [], [], [], []⟩
def kp_R33_Read : List (Nat × List Nat) := [(0, [0, 1]), (1, [0, 1, 19]), (2, [4, 5, 6]), (3, [0, 1, 24]), (4, [4, 5, 6]), (5, [0, 1, 7]), (6, [0, 1, 7, 37]), (7, [4, 5, 6]), (8, [0, 1, 7]), (9, [0, 1, 7, 8]), (10, [0, 1, 7, 8, 9]), (11, [0, 1, 7, 8, 9, 42]), (12, [0, 1, 7, 8, 9]), (13, [0, 1, 7, 8, 9, 49]), (14, [4, 5, 6]), (15, [0, 1, 7, 8, 9, 10]), (16, [0, 1, 7, 8, 9, 10, 67]), (17, [0, 1, 7, 8, 9, 10]), (18, [0, 1, 7, 8, 9, 10, 11]), (19, [0, 1, 7, 8, 9, 10, 11, 78]), (20, [4, 5, 6]), (21, [0, 1, 7, 8, 9]), (22, [0, 1, 7, 8, 9]), (23, [4, 5, 6]), (4000000, []), (4000001, []), (4000002, []), (4000003, []), (4000004, []), (4000005, []), (4000006, []), (4000007, []), (4000008, []), (4000009, []), (4000010, []), (4000011, [83]), (4000012, [83]), (4000013, [83]), (4000014, []), (4000015, [10, 83]), (4000016, [10, 83]), (4000017, [10, 83]), (4000018, [10, 83]), (4000019, [10, 83]), (4000020, []), (4000021, [83]), (4000022, [83]), (4000023, [83])]
def od_R33_Read : List (Nat × Ord) := [(5, (.one 0 (.one 1 (.one 2 (.one 3 (.one 4 (.one 5 (.one 6 (.one 7 (.one 8 (.one 9 (.one 10 (.one 11 .nil))))))))))))), (15, (.one 0 (.one 1 (.one 2 (.one 3 (.one 4 (.one 5 (.one 6 (.one 7 (.one 8 (.one 9 (.one 10 (.one 11 (.one 12 (.one 13 (.one 14 (.one 15 (.one 100016 .nil))))))))))))))))))]
noncomputable def E_R33_Read : Env := ⟨0, 0, et_R33_Read, tt_R33_Read, fns_R33_Read, [], od_R33_Read, kp_R33_Read, none, []⟩
set_option maxRecDepth 100000 in
set_option maxHeartbeats 40000000 in
theorem c_R33_Read : PCon Go.Proofs.Try.prog 65 lf_R33_Read := by
  rw [lq_R33_Read]
  refine lift_conR (E := E_R33_Read) (c := bodyOf Try.f65) (nt := 88) (rs := [.tmp 4, .tmp 5, .tmp 6]) (ts := [102, 3, 3]) (EnvC.sub (off := 0) (nt := 0) (ords := od_R33_Read) (keep := kp_R33_Read) (yl := none) tt_ok et_ok fns_R33_Read_ok (PrsOk.nil _) (ItsOk.nil _) tt_R33_Read_ok et_R33_Read_ok) (PrOk.of mixed_ok) Go.Proofs.Try.func65 rfl (by decide) rfl rfl rfl (pureR_many (e := (.pair (.sl (.pair (.int .i64) (.pair (.int .i64) (.pair (.int .i64) .unit)))) (.pair (.int .i64) (.pair (.int .i64) .unit)))) rfl) ?_
  intro x r hw hs
  repeat'
    (try (conv => whnf)
     first
       | (with_reducible have hs := letv_out hs)
       | (refine draw_and (by kernel_rfl) ?_)
       | (refine both_mk ?_ ?_)
       | (refine br_bool (fun h => ?_) (fun h => ?_) <;> first | have hs := cT h hs | have hs := cF h hs)
       | (refine bind_elim hs fun v hb hs => ?_; first | ((with_reducible show callK (lf_R33_Check _) _); refine ck_R33_Check rfl hb ?_))
       | refine chk_elim hs fun hs => ?_
       | (have hs := letv_out hs)
       | exact fin_some hs rfl
       | (intro b hb; first | have hs := nilq_elim hs b hb | have hs := nilqn_elim hs b hb)
       | exact hJ1 _ hs
       | (have hs := cT rfl hs)
       | (have hs := cF rfl hs)
       | ((with_reducible have hs : loop (R33_Read_L1 _ _) _ = some _ := hs); refine vc_loopR (R33_Read_S1 _ _ _) R33_Read_M1 hs rfl ?_; intro J1 k1 x1 hJ1 hs)
       | (refine vc_loopR (R33_Read_S1 _ _ _) R33_Read_M1 hs rfl ?_; intro J1 k1 x1 hJ1 hs)
       | exact (none_ne hs).elim)
theorem cq_R33_Read : PCon Go.Proofs.Try.prog 65 (liftF (.pair .str (.pair (.int .i64) .unit)) (unpR (.pair (.sl (.pair (.int .i64) (.pair (.int .i64) (.pair (.int .i64) .unit)))) (.pair (.int .i64) (.pair (.int .i64) .unit)))) (fun x => R33_Read x.1 x.2.1)) := lq_R33_Read ▸ c_R33_Read
noncomputable def lf_R33_Same : List AV → Option AV := liftF (.pair (.sl (.pair (.int .i64) (.pair (.int .i64) (.pair (.int .i64) .unit)))) (.pair (.sl (.pair (.int .i64) (.pair (.int .i64) (.pair (.int .i64) .unit)))) .unit)) (unpack .bool) (fun x => R33_Same x.1 x.2.1)
theorem lq_R33_Same : lf_R33_Same = liftF (.pair (.sl (.pair (.int .i64) (.pair (.int .i64) (.pair (.int .i64) .unit)))) (.pair (.sl (.pair (.int .i64) (.pair (.int .i64) (.pair (.int .i64) .unit)))) .unit)) (unpack .bool) (fun x => R33_Same x.1 x.2.1) := rfl
attribute [irreducible] lf_R33_Same
theorem ck_R33_Same {vs : List AV} {k : AV → Prop} {x : ((.pair (.sl (.pair (.int .i64) (.pair (.int .i64) (.pair (.int .i64) .unit)))) (.pair (.sl (.pair (.int .i64) (.pair (.int .i64) (.pair (.int .i64) .unit)))) .unit)) : Ty).den} {v : Bool} (h1 : pks (.pair (.sl (.pair (.int .i64) (.pair (.int .i64) (.pair (.int .i64) .unit)))) (.pair (.sl (.pair (.int .i64) (.pair (.int .i64) (.pair (.int .i64) .unit)))) .unit)) vs = some x) (h2 : R33_Same x.1 x.2.1 = some v) (h3 : k ((unpack .bool) v)) : callK (lf_R33_Same vs) k := by
  rw [lq_R33_Same]; exact callK_lift h1 h2 h3
def tt_R33_Same : List (Nat × Ty) := [(3, .int .i64), (4, .bool), (102, .sl (.pair (.int .i64) (.pair (.int .i64) (.pair (.int .i64) .unit)))), (104, .pair (.int .i64) (.pair (.int .i64) (.pair (.int .i64) .unit)))]
def et_R33_Same : List (Nat × Nat) := [(102, 104)]
theorem tt_R33_Same_ok : subT tt tt_R33_Same = true := by kernel_rfl
theorem et_R33_Same_ok : subE et et_R33_Same = true := by kernel_rfl
noncomputable def fns_R33_Same : List (Nat × (List AV → Option AV)) := []
theorem fns_R33_Same_ok : FnsOk Go.Proofs.Try.prog fns_R33_Same := FnsOk.nil _
def R33_Same_S1 (u0 : AV) (u1 : AV) (x1 : Int) : St :=
  ⟨[(0, u0), (1, u1), (5, .int .i64 x1)], [], none⟩
def R33_Same_M1 : Msk := ⟨[0, 1, 5], [], [], [], [], [], [], [], [], [], []⟩
def kp_R33_Same : List (Nat × List Nat) := [(0, [0, 1]), (1, [0, 1, 10]), (2, [4]), (3, [0, 1, 5]), (4, [0, 1, 5, 14]), (5, [0, 1, 5]), (6, [0, 1, 5, 25]), (7, [4]), (8, [4]), (4000000, []), (4000001, []), (4000002, []), (4000003, []), (4000004, []), (4000005, []), (4000006, []), (4000007, []), (4000008, [])]
def od_R33_Same : List (Nat × Ord) := [(6, (.one 0 (.one 1 (.one 2 (.one 3 (.one 4 (.one 5 (.one 6 (.one 7 (.one 8 .nil))))))))))]
noncomputable def E_R33_Same : Env := ⟨0, 0, et_R33_Same, tt_R33_Same, fns_R33_Same, [], od_R33_Same, kp_R33_Same, none, []⟩
set_option maxRecDepth 100000 in
set_option maxHeartbeats 40000000 in
theorem c_R33_Same : PCon Go.Proofs.Try.prog 66 lf_R33_Same := by
  rw [lq_R33_Same]
  refine lift_conR (E := E_R33_Same) (c := bodyOf Try.f66) (nt := 26) (rs := [.tmp 4]) (ts := [4]) (EnvC.sub (off := 0) (nt := 0) (ords := od_R33_Same) (keep := kp_R33_Same) (yl := none) tt_ok et_ok fns_R33_Same_ok (PrsOk.nil _) (ItsOk.nil _) tt_R33_Same_ok et_R33_Same_ok) (PrOk.of mixed_ok) Go.Proofs.Try.func66 rfl (by decide) rfl rfl rfl (pureR_one (e := .bool) rfl) ?_
  intro x r hw hs
  repeat'
    (try (conv => whnf)
     first
       | (with_reducible have hs := letv_out hs)
       | (refine draw_and (by kernel_rfl) ?_)
       | (refine both_mk ?_ ?_)
       | (refine br_bool (fun h => ?_) (fun h => ?_) <;> first | have hs := cT h hs | have hs := cF h hs)
       | refine chk_elim hs fun hs => ?_
       | (have hs := letv_out hs)
       | exact fin_some hs rfl
       | (intro b hb; first | have hs := nilq_elim hs b hb | have hs := nilqn_elim hs b hb)
       | exact hJ1 _ hs
       | (have hs := cT rfl hs)
       | (have hs := cF rfl hs)
       | ((with_reducible have hs : loop (R33_Same_L1 _ _) _ = some _ := hs); refine vc_loopR (R33_Same_S1 _ _) R33_Same_M1 hs rfl ?_; intro J1 k1 x1 hJ1 hs)
       | (refine vc_loopR (R33_Same_S1 _ _) R33_Same_M1 hs rfl ?_; intro J1 k1 x1 hJ1 hs)
       | exact (none_ne hs).elim)
theorem cq_R33_Same : PCon Go.Proofs.Try.prog 66 (liftF (.pair (.sl (.pair (.int .i64) (.pair (.int .i64) (.pair (.int .i64) .unit)))) (.pair (.sl (.pair (.int .i64) (.pair (.int .i64) (.pair (.int .i64) .unit)))) .unit)) (unpack .bool) (fun x => R33_Same x.1 x.2.1)) := lq_R33_Same ▸ c_R33_Same
end Go.Proofs.YtoihmfgkmndjfaaV
