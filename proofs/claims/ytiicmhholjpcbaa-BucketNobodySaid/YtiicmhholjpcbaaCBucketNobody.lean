/- What becket/becketlaw24.BucketNobody answers. -/
import Derived.Test.YtiicmhholjpcbaaVcTab
import Derived.Test.YtiicmhholjpcbaaDBucketNobody
import Derived.Test.YtiicmhholjpcbaaCL24
namespace Go.Proofs.YtiicmhholjpcbaaV
open Go.Proofs
set_option linter.unusedVariables false
noncomputable def lf_L24_BucketNobody : List AV → Option AV := liftF (.pair (.int .i64) (.pair (.int .i64) .unit)) (unpack .bool) (fun x => L24_BucketNobody x.1 x.2.1)
theorem lq_L24_BucketNobody : lf_L24_BucketNobody = liftF (.pair (.int .i64) (.pair (.int .i64) .unit)) (unpack .bool) (fun x => L24_BucketNobody x.1 x.2.1) := rfl
attribute [irreducible] lf_L24_BucketNobody
theorem ck_L24_BucketNobody {vs : List AV} {k : AV → Prop} {x : ((.pair (.int .i64) (.pair (.int .i64) .unit)) : Ty).den} {v : Bool} (h1 : pks (.pair (.int .i64) (.pair (.int .i64) .unit)) vs = some x) (h2 : L24_BucketNobody x.1 x.2.1 = some v) (h3 : k ((unpack .bool) v)) : callK (lf_L24_BucketNobody vs) k := by
  rw [lq_L24_BucketNobody]; exact callK_lift h1 h2 h3
def tt_L24_BucketNobody : List (Nat × Ty) := [(3, .int .i64), (4, .bool), (24, .int .i64), (36, .sl (.int .i64)), (56, .opq 0), (86, .opq 0), (109, .pair (.opq 0) (.pair (.int .i64) .unit)), (110, .sl (.opq 0))]
def et_L24_BucketNobody : List (Nat × Nat) := [(36, 3), (110, 86)]
theorem tt_L24_BucketNobody_ok : subT tt tt_L24_BucketNobody = true := by kernel_rfl
theorem et_L24_BucketNobody_ok : subE et et_L24_BucketNobody = true := by kernel_rfl
noncomputable def fns_L24_BucketNobody : List (Nat × (List AV → Option AV)) := [(43, lf_L24_alive)]
theorem fns_L24_BucketNobody_ok : FnsOk Go.Proofs.Try.prog fns_L24_BucketNobody := FnsOk.cons c_L24_alive (FnsOk.nil _)
def kp_L24_BucketNobody_93 : List (Nat × List Nat) := [(0, [0]), (1, [2])]
def od_L24_BucketNobody_93 : List (Nat × Ord) := []
noncomputable def E_L24_BucketNobody_93 : Env := ⟨0, 0, et_L24_BucketNobody, tt_L24_BucketNobody, fns_L24_BucketNobody, [], od_L24_BucketNobody_93, kp_L24_BucketNobody_93, none, []⟩
noncomputable def pr_L24_BucketNobody_93 : List (Nat × Proc) := (93, procR E_L24_BucketNobody_93 12 [.tmp 2] (bodyOf Try.f93)) :: []
theorem pr_L24_BucketNobody_93_ok : PrsOk Go.Proofs.Try.prog pr_L24_BucketNobody_93 :=
  PrsOk.cons (proc_conR (E := E_L24_BucketNobody_93) (EnvC.sub (off := 0) (nt := 0) (ords := od_L24_BucketNobody_93) (keep := kp_L24_BucketNobody_93) (yl := none) tt_ok et_ok fns_L24_BucketNobody_ok (PrsOk.nil _) (ItsOk.nil _) tt_L24_BucketNobody_ok et_L24_BucketNobody_ok) (PrOk.of mixed_ok) Go.Proofs.Try.func93 rfl (by decide) rfl rfl) (PrsOk.nil _)
def kp_L24_BucketNobody_53 : List (Nat × List Nat) := [(0, [0, 1]), (1, [0, 1, 13]), (2, [4]), (3, [4])]
def od_L24_BucketNobody_53 : List (Nat × Ord) := []
noncomputable def E_L24_BucketNobody_53 : Env := ⟨0, 0, et_L24_BucketNobody, tt_L24_BucketNobody, fns_L24_BucketNobody, pr_L24_BucketNobody_93, od_L24_BucketNobody_53, kp_L24_BucketNobody_53, none, []⟩
noncomputable def pr_L24_BucketNobody_53 : List (Nat × Proc) := (53, procR E_L24_BucketNobody_53 20 [.tmp 4] (bodyOf Try.f53)) :: pr_L24_BucketNobody_93
theorem pr_L24_BucketNobody_53_ok : PrsOk Go.Proofs.Try.prog pr_L24_BucketNobody_53 :=
  PrsOk.cons (proc_conR (E := E_L24_BucketNobody_53) (EnvC.sub (off := 0) (nt := 0) (ords := od_L24_BucketNobody_53) (keep := kp_L24_BucketNobody_53) (yl := none) tt_ok et_ok fns_L24_BucketNobody_ok (pr_L24_BucketNobody_93_ok) (ItsOk.nil _) tt_L24_BucketNobody_ok et_L24_BucketNobody_ok) (PrOk.of mixed_ok) Go.Proofs.Try.func53 rfl (by decide) rfl rfl) (pr_L24_BucketNobody_93_ok)
def kp_L24_BucketNobody_46 : List (Nat × List Nat) := [(0, [0, 1]), (1, [0, 1, 9]), (2, [4, 5]), (3, [0, 1, 13]), (4, [4, 5]), (5, [0, 1, 6]), (6, [0, 1, 6, 22, 23]), (7, [0, 1, 6, 22, 23, 24]), (8, [0, 1, 6, 8, 22, 23]), (9, [0, 1, 6, 8, 22, 23, 35]), (10, [4, 5]), (11, [0, 1, 6, 22, 23]), (12, [4, 5])]
def od_L24_BucketNobody_46 : List (Nat × Ord) := []
noncomputable def E_L24_BucketNobody_46 : Env := ⟨0, 0, et_L24_BucketNobody, tt_L24_BucketNobody, fns_L24_BucketNobody, pr_L24_BucketNobody_53, od_L24_BucketNobody_46, kp_L24_BucketNobody_46, none, []⟩
noncomputable def pr_L24_BucketNobody_46 : List (Nat × Proc) := (46, procR E_L24_BucketNobody_46 39 [.tmp 4, .tmp 5] (bodyOf Try.f46)) :: pr_L24_BucketNobody_53
theorem pr_L24_BucketNobody_46_ok : PrsOk Go.Proofs.Try.prog pr_L24_BucketNobody_46 :=
  PrsOk.cons (proc_conR (E := E_L24_BucketNobody_46) (EnvC.sub (off := 0) (nt := 0) (ords := od_L24_BucketNobody_46) (keep := kp_L24_BucketNobody_46) (yl := none) tt_ok et_ok fns_L24_BucketNobody_ok (pr_L24_BucketNobody_53_ok) (ItsOk.nil _) tt_L24_BucketNobody_ok et_L24_BucketNobody_ok) (PrOk.of mixed_ok) Go.Proofs.Try.func46 rfl (by decide) rfl rfl) (pr_L24_BucketNobody_53_ok)
def kp_L24_BucketNobody_55 : List (Nat × List Nat) := [(0, [0]), (1, [0, 5]), (2, [2]), (3, [2])]
def od_L24_BucketNobody_55 : List (Nat × Ord) := []
noncomputable def E_L24_BucketNobody_55 : Env := ⟨0, 0, et_L24_BucketNobody, tt_L24_BucketNobody, fns_L24_BucketNobody, pr_L24_BucketNobody_46, od_L24_BucketNobody_55, kp_L24_BucketNobody_55, none, []⟩
noncomputable def pr_L24_BucketNobody_55 : List (Nat × Proc) := (55, procR E_L24_BucketNobody_55 10 [.tmp 2] (bodyOf Try.f55)) :: pr_L24_BucketNobody_46
theorem pr_L24_BucketNobody_55_ok : PrsOk Go.Proofs.Try.prog pr_L24_BucketNobody_55 :=
  PrsOk.cons (proc_conR (E := E_L24_BucketNobody_55) (EnvC.sub (off := 0) (nt := 0) (ords := od_L24_BucketNobody_55) (keep := kp_L24_BucketNobody_55) (yl := none) tt_ok et_ok fns_L24_BucketNobody_ok (pr_L24_BucketNobody_46_ok) (ItsOk.nil _) tt_L24_BucketNobody_ok et_L24_BucketNobody_ok) (PrOk.of mixed_ok) Go.Proofs.Try.func55 rfl (by decide) rfl rfl) (pr_L24_BucketNobody_46_ok)
def kp_L24_BucketNobody_51 : List (Nat × List Nat) := [(0, [0, 1]), (1, [0, 1, 8, 9]), (2, [0, 1, 8, 9, 10]), (3, [0, 1, 6, 8, 9]), (4, [0, 1, 6, 8, 9, 16]), (5, [4, 5]), (6, [0, 1, 8, 9]), (7, [4, 5])]
def od_L24_BucketNobody_51 : List (Nat × Ord) := []
noncomputable def E_L24_BucketNobody_51 : Env := ⟨0, 0, et_L24_BucketNobody, tt_L24_BucketNobody, fns_L24_BucketNobody, pr_L24_BucketNobody_55, od_L24_BucketNobody_51, kp_L24_BucketNobody_51, none, []⟩
noncomputable def pr_L24_BucketNobody_51 : List (Nat × Proc) := (51, procR E_L24_BucketNobody_51 19 [.tmp 4, .tmp 5] (bodyOf Try.f51)) :: pr_L24_BucketNobody_55
theorem pr_L24_BucketNobody_51_ok : PrsOk Go.Proofs.Try.prog pr_L24_BucketNobody_51 :=
  PrsOk.cons (proc_conR (E := E_L24_BucketNobody_51) (EnvC.sub (off := 0) (nt := 0) (ords := od_L24_BucketNobody_51) (keep := kp_L24_BucketNobody_51) (yl := none) tt_ok et_ok fns_L24_BucketNobody_ok (pr_L24_BucketNobody_55_ok) (ItsOk.nil _) tt_L24_BucketNobody_ok et_L24_BucketNobody_ok) (PrOk.of mixed_ok) Go.Proofs.Try.func51 rfl (by decide) rfl rfl) (pr_L24_BucketNobody_55_ok)
def kp_L24_BucketNobody_49 : List (Nat × List Nat) := [(0, [0, 1, 2]), (1, [0, 1, 2, 9]), (2, [6]), (3, [0, 1, 2, 13]), (4, [6]), (5, [0, 1, 2, 8]), (6, [0, 1, 2, 32]), (7, [6]), (8, [6])]
def od_L24_BucketNobody_49 : List (Nat × Ord) := []
noncomputable def E_L24_BucketNobody_49 : Env := ⟨0, 0, et_L24_BucketNobody, tt_L24_BucketNobody, fns_L24_BucketNobody, pr_L24_BucketNobody_51, od_L24_BucketNobody_49, kp_L24_BucketNobody_49, none, []⟩
noncomputable def pr_L24_BucketNobody_49 : List (Nat × Proc) := (49, procR E_L24_BucketNobody_49 40 [.tmp 6] (bodyOf Try.f49)) :: pr_L24_BucketNobody_51
theorem pr_L24_BucketNobody_49_ok : PrsOk Go.Proofs.Try.prog pr_L24_BucketNobody_49 :=
  PrsOk.cons (proc_conR (E := E_L24_BucketNobody_49) (EnvC.sub (off := 0) (nt := 0) (ords := od_L24_BucketNobody_49) (keep := kp_L24_BucketNobody_49) (yl := none) tt_ok et_ok fns_L24_BucketNobody_ok (pr_L24_BucketNobody_51_ok) (ItsOk.nil _) tt_L24_BucketNobody_ok et_L24_BucketNobody_ok) (PrOk.of mixed_ok) Go.Proofs.Try.func49 rfl (by decide) rfl rfl) (pr_L24_BucketNobody_51_ok)
def L24_BucketNobody_S1 (u0 : AV) (u1 : AV) (u2 : AV) (u3 : AV) (B5 : Blk) (B7 : Blk) (x3 : Unit) : St :=
  ⟨[(0, u0), (1, u1), (8, u2), (9, u3)], [(12, B5), (13, B7)], (some ([], 0))⟩
def L24_BucketNobody_M1 : Msk := ⟨[0, 1, 8, 9], [12, 13], [], [], [], [], [], [], []⟩
def L24_BucketNobody_S2 (u0 : AV) (u1 : AV) (u2 : AV) (u3 : AV) (B5 : Blk) (B7 : Blk) (x9 : Unit) : St :=
  ⟨[(0, u0), (1, u1), (8, u2), (9, u3)], [(12, B5), (13, B7)], (some ([], 0))⟩
def L24_BucketNobody_M2 : Msk := ⟨[0, 1, 8, 9], [12, 13], [], [], [], [], [], [], []⟩
def L24_BucketNobody_Q1 (x1 : Int × Int) : St :=
  ⟨[(0, .int .i64 x1.1), (1, .int .i64 x1.2), (6, .con (.pointer none)), (7, .dead), (8, .dead), (13, .vsl 13 2), (14, .int .i64 2), (15, .int .i64 0), (19, .dead), (22, .tup [.con (.slice none 0 0), .int .i64 2]), (23, .dead), (24, .dead)], [(12, .var (.pair (.opq 0) (.pair (.int .i64) .unit)) (.agg [.con (.pointer none), .int .i64 0]) false), (13, .var (.pair (.opq 0) (.pair (.opq 0) .unit)) (.agg [.con (.pointer none), .ptr 12 []]) false)], none⟩
def L24_BucketNobody_Q2 (x2 : Int × Int) : St :=
  ⟨[(0, .int .i64 x2.1), (1, .int .i64 x2.2), (6, .con (.pointer none)), (7, .con (.slice none 0 0)), (8, .int .i64 2), (9, .dead), (10, .dead), (13, .vsl 13 2), (14, .int .i64 2), (15, .int .i64 0), (25, .dead), (28, .tup [.int .i64 0, .bool false]), (29, .dead), (30, .dead)], [(12, .var (.pair (.opq 0) (.pair (.int .i64) .unit)) (.agg [.con (.pointer none), .int .i64 0]) false), (13, .var (.pair (.opq 0) (.pair (.opq 0) .unit)) (.agg [.con (.pointer none), .ptr 12 []]) false)], none⟩
def L24_BucketNobody_Q3 (x4 : Int × Int) : St :=
  ⟨[(0, .int .i64 x4.1), (1, .int .i64 x4.2), (6, .con (.pointer none)), (7, .con (.slice none 0 0)), (8, .int .i64 2), (9, .int .i64 0), (10, .bool false), (13, .vsl 13 2), (14, .int .i64 2), (15, .int .i64 0), (34, .int .i64 2), (35, .dead), (36, .dead), (37, .dead), (38, .dead), (39, .dead), (40, .dead), (41, .dead), (42, .dead), (43, .dead), (44, .dead), (45, .dead), (46, .dead), (47, .dead), (48, .dead), (49, .dead), (50, .dead), (51, .dead), (52, .dead), (53, .dead), (54, .dead), (55, .dead), (56, .dead), (57, .dead), (58, .dead), (59, .dead), (60, .dead), (61, .dead)], [(12, .var (.pair (.opq 0) (.pair (.int .i64) .unit)) (.agg [.con (.pointer none), .int .i64 0]) false), (13, .var (.pair (.opq 0) (.pair (.opq 0) .unit)) (.agg [.con (.pointer none), .ptr 12 []]) false)], none⟩
def L24_BucketNobody_Q4 (x5 : Int × Int) : St :=
  ⟨[(0, .int .i64 x5.1), (1, .int .i64 x5.2), (6, .con (.pointer none)), (13, .vsl 13 2), (14, .int .i64 2), (15, .int .i64 0), (52, .bool false), (55, .con (.slice none 0 0)), (56, .dead), (57, .dead), (58, .dead), (59, .dead), (60, .dead), (61, .dead)], [(12, .var (.pair (.opq 0) (.pair (.int .i64) .unit)) (.agg [.con (.pointer none), .int .i64 0]) false), (13, .var (.pair (.opq 0) (.pair (.opq 0) .unit)) (.agg [.con (.pointer none), .ptr 12 []]) false)], none⟩
def L24_BucketNobody_Q5 (x6 : Int × Int) : St :=
  ⟨[(0, .int .i64 x6.1), (1, .int .i64 x6.2), (13, .vsl 13 2), (14, .int .i64 2), (15, .int .i64 0), (52, .bool false), (56, .int .i64 0), (58, .int .i64 0), (59, .dead), (60, .dead), (61, .dead)], [(12, .var (.pair (.opq 0) (.pair (.int .i64) .unit)) (.agg [.con (.pointer none), .int .i64 0]) false), (13, .var (.pair (.opq 0) (.pair (.opq 0) .unit)) (.agg [.con (.pointer none), .ptr 12 []]) false)], none⟩
def L24_BucketNobody_Q6 (x7 : Int × Int) : St :=
  ⟨[(0, .int .i64 x7.1), (1, .int .i64 x7.2), (6, .ptr 12 []), (7, .dead), (8, .dead), (13, .vsl 13 2), (14, .int .i64 2), (15, .int .i64 1), (19, .dead), (22, .tup [.con (.slice none 0 0), .int .i64 2]), (23, .dead), (24, .dead)], [(12, .var (.pair (.opq 0) (.pair (.int .i64) .unit)) (.agg [.con (.pointer none), .int .i64 0]) false), (13, .var (.pair (.opq 0) (.pair (.opq 0) .unit)) (.agg [.con (.pointer none), .ptr 12 []]) false)], none⟩
def L24_BucketNobody_Q7 (x8 : Int × Int) : St :=
  ⟨[(0, .int .i64 x8.1), (1, .int .i64 x8.2), (6, .ptr 12 []), (7, .con (.slice none 0 0)), (8, .int .i64 2), (9, .dead), (10, .dead), (13, .vsl 13 2), (14, .int .i64 2), (15, .int .i64 1), (25, .dead), (28, .tup [.int .i64 0, .bool false]), (29, .dead), (30, .dead)], [(12, .var (.pair (.opq 0) (.pair (.int .i64) .unit)) (.agg [.con (.pointer none), .int .i64 0]) false), (13, .var (.pair (.opq 0) (.pair (.opq 0) .unit)) (.agg [.con (.pointer none), .ptr 12 []]) false)], none⟩
def L24_BucketNobody_Q8 (x10 : Int × Int) : St :=
  ⟨[(0, .int .i64 x10.1), (1, .int .i64 x10.2), (6, .ptr 12 []), (7, .con (.slice none 0 0)), (8, .int .i64 2), (9, .int .i64 0), (10, .bool false), (13, .vsl 13 2), (14, .int .i64 2), (15, .int .i64 1), (34, .int .i64 2), (35, .dead), (36, .dead), (37, .dead), (38, .dead), (39, .dead), (40, .dead), (41, .dead), (42, .dead), (43, .dead), (44, .dead), (45, .dead), (46, .dead), (47, .dead), (48, .dead), (49, .dead), (50, .dead), (51, .dead), (52, .dead), (53, .dead), (54, .dead), (55, .dead), (56, .dead), (57, .dead), (58, .dead), (59, .dead), (60, .dead), (61, .dead)], [(12, .var (.pair (.opq 0) (.pair (.int .i64) .unit)) (.agg [.con (.pointer none), .int .i64 0]) false), (13, .var (.pair (.opq 0) (.pair (.opq 0) .unit)) (.agg [.con (.pointer none), .ptr 12 []]) false)], none⟩
def L24_BucketNobody_Q9 (x11 : Int × Int) : St :=
  ⟨[(0, .int .i64 x11.1), (1, .int .i64 x11.2), (6, .ptr 12 []), (13, .vsl 13 2), (14, .int .i64 2), (15, .int .i64 1), (52, .bool false), (55, .con (.slice none 0 0)), (56, .dead), (57, .dead), (58, .dead), (59, .dead), (60, .dead), (61, .dead)], [(12, .var (.pair (.opq 0) (.pair (.int .i64) .unit)) (.agg [.con (.pointer none), .int .i64 0]) false), (13, .var (.pair (.opq 0) (.pair (.opq 0) .unit)) (.agg [.con (.pointer none), .ptr 12 []]) false)], none⟩
def L24_BucketNobody_Q10 (x12 : Int × Int) : St :=
  ⟨[(0, .int .i64 x12.1), (1, .int .i64 x12.2), (13, .vsl 13 2), (14, .int .i64 2), (15, .int .i64 1), (52, .bool false), (56, .int .i64 0), (58, .int .i64 0), (59, .dead), (60, .dead), (61, .dead)], [(12, .var (.pair (.opq 0) (.pair (.int .i64) .unit)) (.agg [.con (.pointer none), .int .i64 0]) false), (13, .var (.pair (.opq 0) (.pair (.opq 0) .unit)) (.agg [.con (.pointer none), .ptr 12 []]) false)], none⟩
def kp_L24_BucketNobody : List (Nat × List Nat) := [(0, [0, 1]), (1, [0, 1, 13, 14, 15]), (2, [0, 1, 13, 14, 15, 16]), (3, [0, 1, 6, 13, 14, 15]), (4, [0, 1, 6, 7, 8, 13, 14, 15]), (5, [0, 1, 6, 7, 8, 9, 10, 13, 14, 15]), (6, [0, 1, 13, 14, 15, 61]), (7, [4]), (8, [0, 1, 13, 14, 15]), (9, [4]), (25000022, []), (20000022, [0, 1, 6, 7, 8, 13, 14, 15, 19, 22, 23, 24]), (25000028, []), (20000028, [0, 1, 6, 7, 8, 9, 10, 13, 14, 15, 25, 28, 29, 30]), (25000034, []), (20000034, [0, 1, 6, 7, 8, 9, 10, 13, 14, 15, 34, 35, 36, 37, 38, 39, 40, 41, 42, 43, 44, 45, 46, 47, 48, 49, 50, 51, 52, 53, 54, 55, 56, 57, 58, 59, 60, 61]), (25000055, []), (20000055, [0, 1, 6, 13, 14, 15, 52, 55, 56, 57, 58, 59, 60, 61]), (25000058, []), (20000058, [0, 1, 13, 14, 15, 52, 56, 58, 59, 60, 61]), (24000022, [12, 13]), (26000022, []), (24000028, [12, 13]), (26000028, []), (24000034, [12, 13]), (26000034, []), (24000055, [12, 13]), (26000055, []), (24000058, [12, 13]), (26000058, []), (4000000, []), (4000001, [12, 13]), (4000002, [12, 13]), (4000003, [12, 13]), (4000004, [12, 13]), (4000005, [12, 13]), (4000006, [12, 13]), (4000008, [12, 13]), (4000009, [])]
def od_L24_BucketNobody : List (Nat × Ord) := []
noncomputable def E_L24_BucketNobody : Env := ⟨0, 0, et_L24_BucketNobody, tt_L24_BucketNobody, fns_L24_BucketNobody, pr_L24_BucketNobody_49, od_L24_BucketNobody, kp_L24_BucketNobody, none, []⟩
set_option maxRecDepth 100000 in
set_option maxHeartbeats 40000000 in
theorem c_L24_BucketNobody : PCon Go.Proofs.Try.prog 11 lf_L24_BucketNobody := by
  rw [lq_L24_BucketNobody]
  refine lift_conR (E := E_L24_BucketNobody) (c := bodyOf Try.f11) (nt := 64) (rs := [.tmp 4]) (ts := [4]) (EnvC.sub (off := 0) (nt := 0) (ords := od_L24_BucketNobody) (keep := kp_L24_BucketNobody) (yl := none) tt_ok et_ok fns_L24_BucketNobody_ok (pr_L24_BucketNobody_49_ok) (ItsOk.nil _) tt_L24_BucketNobody_ok et_L24_BucketNobody_ok) (PrOk.of mixed_ok) Go.Proofs.Try.func11 rfl (by decide) rfl rfl rfl (pureR_one (e := .bool) rfl) ?_
  intro x r hw hs
  repeat'
    (try (conv => whnf)
     first
       | (with_reducible have hs := letv_out hs)
       | (refine draw_and (by kernel_rfl) ?_)
       | (refine both_mk ?_ ?_)
       | (refine br_bool (fun h => ?_) (fun h => ?_) <;> first | have hs := cT h hs | have hs := cF h hs)
       | (refine bind_elim hs fun v hb hs => ?_; first | refine ck_L24_alive rfl hb ?_)
       | refine chk_elim hs fun hs => ?_
       | (have hs := letv_out hs)
       | exact fin_some hs rfl
       | (intro b hb; first | have hs := nilq_elim hs b hb | have hs := nilqn_elim hs b hb)
       | exact hJ1 _ hs
       | exact hJ2 _ hs
       | exact hC1 _ hs
       | exact hC2 _ hs
       | exact hC3 _ hs
       | exact hC4 _ hs
       | exact hC5 _ hs
       | exact hC6 _ hs
       | exact hC7 _ hs
       | exact hC8 _ hs
       | exact hC9 _ hs
       | exact hC10 _ hs
       | (refine cut_out 1 L24_BucketNobody_Q1 hs (fun Jc1 kc1 hC1 hs => ?_) (fun xc1 hs => ?_))
       | (refine cut_out 2 L24_BucketNobody_Q2 hs (fun Jc2 kc2 hC2 hs => ?_) (fun xc2 hs => ?_))
       | (refine cut_out 3 L24_BucketNobody_Q3 hs (fun Jc3 kc3 hC3 hs => ?_) (fun xc3 hs => ?_))
       | (refine cut_out 4 L24_BucketNobody_Q4 hs (fun Jc4 kc4 hC4 hs => ?_) (fun xc4 hs => ?_))
       | (refine cut_out 5 L24_BucketNobody_Q5 hs (fun Jc5 kc5 hC5 hs => ?_) (fun xc5 hs => ?_))
       | (refine cut_out 6 L24_BucketNobody_Q6 hs (fun Jc6 kc6 hC6 hs => ?_) (fun xc6 hs => ?_))
       | (refine cut_out 7 L24_BucketNobody_Q7 hs (fun Jc7 kc7 hC7 hs => ?_) (fun xc7 hs => ?_))
       | (refine cut_out 8 L24_BucketNobody_Q8 hs (fun Jc8 kc8 hC8 hs => ?_) (fun xc8 hs => ?_))
       | (refine cut_out 9 L24_BucketNobody_Q9 hs (fun Jc9 kc9 hC9 hs => ?_) (fun xc9 hs => ?_))
       | (refine cut_out 10 L24_BucketNobody_Q10 hs (fun Jc10 kc10 hC10 hs => ?_) (fun xc10 hs => ?_))
       | (have hs := cT rfl hs)
       | (have hs := cF rfl hs)
       | ((with_reducible have hs : L24_BucketNobody_C2 _ _ = some _ := hs); unfold L24_BucketNobody_C2 at hs)
       | ((with_reducible have hs : L24_BucketNobody_C7 _ _ = some _ := hs); unfold L24_BucketNobody_C7 at hs)
       | ((with_reducible have hs : loop (L24_BucketNobody_L1 _ _) _ = some _ := hs); refine vc_loopR (L24_BucketNobody_S1 _ _ _ _ _ _) L24_BucketNobody_M1 hs rfl ?_; intro J1 k1 x1 hJ1 hs)
       | ((with_reducible have hs : loop (L24_BucketNobody_L2 _ _) _ = some _ := hs); refine vc_loopR (L24_BucketNobody_S2 _ _ _ _ _ _) L24_BucketNobody_M2 hs rfl ?_; intro J2 k2 x2 hJ2 hs)
       | (refine vc_loopR (L24_BucketNobody_S1 _ _ _ _ _ _) L24_BucketNobody_M1 hs rfl ?_; intro J1 k1 x1 hJ1 hs)
       | (refine vc_loopR (L24_BucketNobody_S2 _ _ _ _ _ _) L24_BucketNobody_M2 hs rfl ?_; intro J2 k2 x2 hJ2 hs)
       | (refine vc_unrR 17 ?_)
       | exact (none_ne hs).elim)
theorem cq_L24_BucketNobody : PCon Go.Proofs.Try.prog 11 (liftF (.pair (.int .i64) (.pair (.int .i64) .unit)) (unpack .bool) (fun x => L24_BucketNobody x.1 x.2.1)) := lq_L24_BucketNobody ▸ c_L24_BucketNobody
end Go.Proofs.YtiicmhholjpcbaaV
