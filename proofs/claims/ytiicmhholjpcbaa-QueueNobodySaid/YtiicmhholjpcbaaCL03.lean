import Derived.Test.YtiicmhholjpcbaaVcTab
import Derived.Test.YtiicmhholjpcbaaDL03
namespace Go.Proofs.YtiicmhholjpcbaaV
open Go.Proofs
set_option linter.unusedVariables false
noncomputable def lf_L03_alive : List AV → Option AV := liftF .unit (unpack .bool) (fun x => L03_alive)
def tt_L03_alive : List (Nat × Ty) := [(3, .int .i64), (4, .bool), (24, .int .i64), (36, .sl (.int .i64)), (56, .opq 0), (76, .sl (.pair (.int .i64) (.pair (.int .i64) .unit))), (77, .sl (.pair (.int .i64) (.pair (.int .i64) (.pair (.int .i64) .unit)))), (79, .pair (.int .i64) (.pair (.int .i64) (.pair (.int .i64) .unit))), (81, .pair (.sl (.pair (.int .i64) (.pair (.int .i64) .unit))) (.pair (.sl (.pair (.int .i64) (.pair (.int .i64) (.pair (.int .i64) .unit)))) (.pair (.pair (.int .i64) (.pair (.int .i64) (.pair (.int .i64) .unit))) .unit))), (161, .opq 0), (165, .pair (.int .i64) (.pair (.int .i64) .unit))]
def et_L03_alive : List (Nat × Nat) := [(36, 3), (76, 165), (77, 79)]
theorem tt_L03_alive_ok : subT tt tt_L03_alive = true := by kernel_rfl
theorem et_L03_alive_ok : subE et et_L03_alive = true := by kernel_rfl
def kp_L03_alive_84 : List (Nat × List Nat) := [(0, [0, 1, 2]), (1, [0, 1, 2, 17]), (2, [1, 2]), (3, [1, 2]), (4, [1]), (5, [])]
def od_L03_alive_84 : List (Nat × Ord) := [(3, (.one 0 (.one 1 (.one 2 (.one 3 (.one 4 (.one 5 (.one 6 (.one 7 (.one 8 (.one 9 (.one 10 (.one 100011 .nil)))))))))))))]
noncomputable def pr_L03_alive_84 (fns : List (Nat × (List AV → Option AV))) : List (Nat × Proc) := (84, procOf ⟨0, 0, et_L03_alive, tt_L03_alive, fns, [], od_L03_alive_84, kp_L03_alive_84, none, []⟩ 44 [] (bodyOf Try.f84)) :: []
theorem pr_L03_alive_84_ok {fns : List (Nat × (List AV → Option AV))} (hf : FnsOk Go.Proofs.Try.prog fns) : PrsOk Go.Proofs.Try.prog (pr_L03_alive_84 fns) :=
  PrsOk.cons (proc_con (EnvC.sub (yl := none) tt_ok et_ok hf (PrsOk.nil _) (ItsOk.nil _) tt_L03_alive_ok et_L03_alive_ok) (PrOk.of mixed_ok) Go.Proofs.Try.func84 rfl (by decide) rfl rfl) (PrsOk.nil _)
def kp_L03_alive_30 : List (Nat × List Nat) := [(0, [0, 1]), (1, [0, 1, 21]), (2, [4, 5]), (3, [0, 6]), (4, [6, 27, 28]), (5, [6, 27, 28, 29]), (6, [6, 27, 28]), (7, [6, 27, 28]), (8, [6, 45, 46]), (9, [6, 45, 46, 47]), (10, [6, 7, 45, 46]), (11, [6, 45, 46]), (12, [6, 45, 46]), (13, [4, 5])]
def od_L03_alive_30 : List (Nat × Ord) := []
noncomputable def pr_L03_alive_30 (fns : List (Nat × (List AV → Option AV))) : List (Nat × Proc) := (30, procOf ⟨0, 0, et_L03_alive, tt_L03_alive, fns, (pr_L03_alive_84 fns), od_L03_alive_30, kp_L03_alive_30, none, []⟩ 57 [.tmp 4, .tmp 5] (bodyOf Try.f30)) :: (pr_L03_alive_84 fns)
theorem pr_L03_alive_30_ok {fns : List (Nat × (List AV → Option AV))} (hf : FnsOk Go.Proofs.Try.prog fns) : PrsOk Go.Proofs.Try.prog (pr_L03_alive_30 fns) :=
  PrsOk.cons (proc_con (EnvC.sub (yl := none) tt_ok et_ok hf (pr_L03_alive_84_ok hf) (ItsOk.nil _) tt_L03_alive_ok et_L03_alive_ok) (PrOk.of mixed_ok) Go.Proofs.Try.func30 rfl (by decide) rfl rfl) (pr_L03_alive_84_ok hf)
def kp_L03_alive_92 : List (Nat × List Nat) := [(0, [0]), (1, [2])]
def od_L03_alive_92 : List (Nat × Ord) := []
noncomputable def pr_L03_alive_92 (fns : List (Nat × (List AV → Option AV))) : List (Nat × Proc) := (92, procOf ⟨0, 0, et_L03_alive, tt_L03_alive, fns, (pr_L03_alive_30 fns), od_L03_alive_92, kp_L03_alive_92, none, []⟩ 13 [.tmp 2] (bodyOf Try.f92)) :: (pr_L03_alive_30 fns)
theorem pr_L03_alive_92_ok {fns : List (Nat × (List AV → Option AV))} (hf : FnsOk Go.Proofs.Try.prog fns) : PrsOk Go.Proofs.Try.prog (pr_L03_alive_92 fns) :=
  PrsOk.cons (proc_con (EnvC.sub (yl := none) tt_ok et_ok hf (pr_L03_alive_30_ok hf) (ItsOk.nil _) tt_L03_alive_ok et_L03_alive_ok) (PrOk.of mixed_ok) Go.Proofs.Try.func92 rfl (by decide) rfl rfl) (pr_L03_alive_30_ok hf)
def kp_L03_alive_85 : List (Nat × List Nat) := [(0, [0, 1]), (1, [0, 1, 6]), (2, [4, 5]), (3, [0, 1, 10]), (4, [4, 5]), (5, [4, 5])]
def od_L03_alive_85 : List (Nat × Ord) := []
noncomputable def pr_L03_alive_85 (fns : List (Nat × (List AV → Option AV))) : List (Nat × Proc) := (85, procOf ⟨0, 0, et_L03_alive, tt_L03_alive, fns, (pr_L03_alive_92 fns), od_L03_alive_85, kp_L03_alive_85, none, []⟩ 28 [.tmp 4, .tmp 5] (bodyOf Try.f85)) :: (pr_L03_alive_92 fns)
theorem pr_L03_alive_85_ok {fns : List (Nat × (List AV → Option AV))} (hf : FnsOk Go.Proofs.Try.prog fns) : PrsOk Go.Proofs.Try.prog (pr_L03_alive_85 fns) :=
  PrsOk.cons (proc_con (EnvC.sub (yl := none) tt_ok et_ok hf (pr_L03_alive_92_ok hf) (ItsOk.nil _) tt_L03_alive_ok et_L03_alive_ok) (PrOk.of mixed_ok) Go.Proofs.Try.func85 rfl (by decide) rfl rfl) (pr_L03_alive_92_ok hf)
def kp_L03_alive_86 : List (Nat × List Nat) := [(0, [0, 1, 2]), (1, [0, 1, 2, 7]), (2, [0, 1, 2, 7, 14]), (3, [0, 1, 2, 7]), (4, [0, 1, 2, 7, 8]), (5, [0, 1, 2, 7, 8, 32]), (6, [1, 2, 7]), (7, [1, 2, 7]), (8, [1, 2, 7, 50]), (9, [1, 7]), (10, [7]), (11, [6])]
def od_L03_alive_86 : List (Nat × Ord) := []
noncomputable def pr_L03_alive_86 (fns : List (Nat × (List AV → Option AV))) : List (Nat × Proc) := (86, procOf ⟨0, 0, et_L03_alive, tt_L03_alive, fns, (pr_L03_alive_85 fns), od_L03_alive_86, kp_L03_alive_86, none, []⟩ 63 [.tmp 6] (bodyOf Try.f86)) :: (pr_L03_alive_85 fns)
theorem pr_L03_alive_86_ok {fns : List (Nat × (List AV → Option AV))} (hf : FnsOk Go.Proofs.Try.prog fns) : PrsOk Go.Proofs.Try.prog (pr_L03_alive_86 fns) :=
  PrsOk.cons (proc_con (EnvC.sub (yl := none) tt_ok et_ok hf (pr_L03_alive_85_ok hf) (ItsOk.nil _) tt_L03_alive_ok et_L03_alive_ok) (PrOk.of mixed_ok) Go.Proofs.Try.func86 rfl (by decide) rfl rfl) (pr_L03_alive_85_ok hf)
def kp_L03_alive_32 : List (Nat × List Nat) := [(0, [0, 1, 2]), (1, [0, 2, 7, 8]), (2, [0, 2, 7, 18]), (3, [6]), (4, [0, 2, 7, 9, 10]), (5, [0, 2, 7, 9, 10, 24]), (6, [6]), (7, [0, 2, 7, 9, 10, 34]), (8, [0, 2, 7, 9, 10]), (9, []), (10, [6]), (5000009, []), (8396804000009, [13335, 13338, 13349]), (8396806000009, [])]
def od_L03_alive_32 : List (Nat × Ord) := [(4, (.one 0 (.one 1 (.one 2 (.one 3 (.one 4 (.one 5 .nil))))))), (8, (.one 0 (.one 1 (.one 2 (.one 3 (.one 4 (.one 5 (.one 6 (.one 7 (.one 8 (.one 9 (.one 10 .nil)))))))))))), (9, (.one 0 (.one 1 (.one 2 (.one 3 (.one 4 (.one 5 (.one 6 (.one 200007 (.one 200008 .nil))))))))))]
noncomputable def pr_L03_alive_32 (fns : List (Nat × (List AV → Option AV))) : List (Nat × Proc) := (32, procOf ⟨0, 0, et_L03_alive, tt_L03_alive, fns, (pr_L03_alive_86 fns), od_L03_alive_32, kp_L03_alive_32, none, []⟩ 53 [.tmp 6] (bodyOf Try.f32)) :: (pr_L03_alive_86 fns)
theorem pr_L03_alive_32_ok {fns : List (Nat × (List AV → Option AV))} (hf : FnsOk Go.Proofs.Try.prog fns) : PrsOk Go.Proofs.Try.prog (pr_L03_alive_32 fns) :=
  PrsOk.cons (proc_con (EnvC.sub (yl := none) tt_ok et_ok hf (pr_L03_alive_86_ok hf) (ItsOk.nil _) tt_L03_alive_ok et_L03_alive_ok) (PrOk.of mixed_ok) Go.Proofs.Try.func32 rfl (by decide) rfl rfl) (pr_L03_alive_86_ok hf)
def kp_L03_alive_40 : List (Nat × List Nat) := [(0, [0, 1]), (1, [0, 6, 7]), (2, [0, 6, 7, 14]), (3, [4, 5]), (4, [0, 6, 18]), (5, [4, 5]), (6, [4, 5])]
def od_L03_alive_40 : List (Nat × Ord) := [(6, (.one 0 (.one 1 (.one 2 (.one 3 (.one 4 (.one 5 (.one 6 (.one 7 (.one 8 (.one 9 (.one 10 (.one 11 (.one 12 .nil))))))))))))))]
noncomputable def pr_L03_alive_40 (fns : List (Nat × (List AV → Option AV))) : List (Nat × Proc) := (40, procOf ⟨0, 0, et_L03_alive, tt_L03_alive, fns, (pr_L03_alive_32 fns), od_L03_alive_40, kp_L03_alive_40, none, []⟩ 35 [.tmp 4, .tmp 5] (bodyOf Try.f40)) :: (pr_L03_alive_32 fns)
theorem pr_L03_alive_40_ok {fns : List (Nat × (List AV → Option AV))} (hf : FnsOk Go.Proofs.Try.prog fns) : PrsOk Go.Proofs.Try.prog (pr_L03_alive_40 fns) :=
  PrsOk.cons (proc_con (EnvC.sub (yl := none) tt_ok et_ok hf (pr_L03_alive_32_ok hf) (ItsOk.nil _) tt_L03_alive_ok et_L03_alive_ok) (PrOk.of mixed_ok) Go.Proofs.Try.func40 rfl (by decide) rfl rfl) (pr_L03_alive_32_ok hf)
def kp_L03_alive_34 : List (Nat × List Nat) := [(0, [0, 1]), (1, [0, 1, 6, 7]), (2, [0, 1, 6, 7, 15]), (3, [4, 5]), (4, [6]), (5, [4, 5]), (5000004, []), (25000011, []), (20000011, [0, 1, 6, 7, 8, 11, 12, 13]), (3276804000004, [13335, 13338, 13349]), (3276806000004, []), (3276824000011, [13335, 13338, 13349]), (3276826000011, [])]
def od_L03_alive_34 : List (Nat × Ord) := [(4, (.one 0 (.one 1 (.one 2 (.one 3 (.one 4 (.one 5 (.one 6 (.one 7 (.one 9 (.one 200008 (.one 10 (.one 200011 (.one 200012 .nil))))))))))))))]
noncomputable def pr_L03_alive_34 (fns : List (Nat × (List AV → Option AV))) : List (Nat × Proc) := (34, procOf ⟨0, 0, et_L03_alive, tt_L03_alive, fns, (pr_L03_alive_40 fns), od_L03_alive_34, kp_L03_alive_34, none, []⟩ 31 [.tmp 4, .tmp 5] (bodyOf Try.f34)) :: (pr_L03_alive_40 fns)
theorem pr_L03_alive_34_ok {fns : List (Nat × (List AV → Option AV))} (hf : FnsOk Go.Proofs.Try.prog fns) : PrsOk Go.Proofs.Try.prog (pr_L03_alive_34 fns) :=
  PrsOk.cons (proc_con (EnvC.sub (yl := none) tt_ok et_ok hf (pr_L03_alive_40_ok hf) (ItsOk.nil _) tt_L03_alive_ok et_L03_alive_ok) (PrOk.of mixed_ok) Go.Proofs.Try.func34 rfl (by decide) rfl rfl) (pr_L03_alive_40_ok hf)
def kp_L03_alive_36 : List (Nat × List Nat) := [(0, [0, 1, 2]), (1, [0, 2, 7, 8]), (2, [0, 2, 7, 8, 16]), (3, [6]), (4, [0, 2, 7, 20]), (5, [6]), (6, [0, 2, 7, 9]), (7, [0, 7, 9]), (8, []), (9, [6])]
def od_L03_alive_36 : List (Nat × Ord) := []
noncomputable def pr_L03_alive_36 (fns : List (Nat × (List AV → Option AV))) : List (Nat × Proc) := (36, procOf ⟨0, 0, et_L03_alive, tt_L03_alive, fns, (pr_L03_alive_34 fns), od_L03_alive_36, kp_L03_alive_36, none, []⟩ 44 [.tmp 6] (bodyOf Try.f36)) :: (pr_L03_alive_34 fns)
theorem pr_L03_alive_36_ok {fns : List (Nat × (List AV → Option AV))} (hf : FnsOk Go.Proofs.Try.prog fns) : PrsOk Go.Proofs.Try.prog (pr_L03_alive_36 fns) :=
  PrsOk.cons (proc_con (EnvC.sub (yl := none) tt_ok et_ok hf (pr_L03_alive_34_ok hf) (ItsOk.nil _) tt_L03_alive_ok et_L03_alive_ok) (PrOk.of mixed_ok) Go.Proofs.Try.func36 rfl (by decide) rfl rfl) (pr_L03_alive_34_ok hf)
def kp_L03_alive_39 : List (Nat × List Nat) := [(0, [0]), (1, [0, 5]), (2, [2]), (3, [2])]
def od_L03_alive_39 : List (Nat × Ord) := []
noncomputable def pr_L03_alive_39 (fns : List (Nat × (List AV → Option AV))) : List (Nat × Proc) := (39, procOf ⟨0, 0, et_L03_alive, tt_L03_alive, fns, (pr_L03_alive_36 fns), od_L03_alive_39, kp_L03_alive_39, none, []⟩ 11 [.tmp 2] (bodyOf Try.f39)) :: (pr_L03_alive_36 fns)
theorem pr_L03_alive_39_ok {fns : List (Nat × (List AV → Option AV))} (hf : FnsOk Go.Proofs.Try.prog fns) : PrsOk Go.Proofs.Try.prog (pr_L03_alive_39 fns) :=
  PrsOk.cons (proc_con (EnvC.sub (yl := none) tt_ok et_ok hf (pr_L03_alive_36_ok hf) (ItsOk.nil _) tt_L03_alive_ok et_L03_alive_ok) (PrOk.of mixed_ok) Go.Proofs.Try.func39 rfl (by decide) rfl rfl) (pr_L03_alive_36_ok hf)
def kp_L03_alive_41 : List (Nat × List Nat) := [(0, [0, 1]), (1, [0, 5, 6]), (2, [0, 5, 16]), (3, [4]), (4, [0, 5, 7]), (5, [0, 7, 8]), (6, [0, 7, 8, 22]), (7, [0, 7, 8]), (8, [0, 7, 8]), (9, [4])]
def od_L03_alive_41 : List (Nat × Ord) := []
noncomputable def pr_L03_alive_41 (fns : List (Nat × (List AV → Option AV))) : List (Nat × Proc) := (41, procOf ⟨0, 0, et_L03_alive, tt_L03_alive, fns, (pr_L03_alive_39 fns), od_L03_alive_41, kp_L03_alive_41, none, []⟩ 43 [.tmp 4] (bodyOf Try.f41)) :: (pr_L03_alive_39 fns)
theorem pr_L03_alive_41_ok {fns : List (Nat × (List AV → Option AV))} (hf : FnsOk Go.Proofs.Try.prog fns) : PrsOk Go.Proofs.Try.prog (pr_L03_alive_41 fns) :=
  PrsOk.cons (proc_con (EnvC.sub (yl := none) tt_ok et_ok hf (pr_L03_alive_39_ok hf) (ItsOk.nil _) tt_L03_alive_ok et_L03_alive_ok) (PrOk.of mixed_ok) Go.Proofs.Try.func41 rfl (by decide) rfl rfl) (pr_L03_alive_39_ok hf)
def kp_L03_alive_42 : List (Nat × List Nat) := [(0, [0, 1]), (1, [5, 6]), (2, [5, 14]), (3, [4]), (4, [4])]
def od_L03_alive_42 : List (Nat × Ord) := []
noncomputable def pr_L03_alive_42 (fns : List (Nat × (List AV → Option AV))) : List (Nat × Proc) := (42, procOf ⟨0, 0, et_L03_alive, tt_L03_alive, fns, (pr_L03_alive_41 fns), od_L03_alive_42, kp_L03_alive_42, none, []⟩ 19 [.tmp 4] (bodyOf Try.f42)) :: (pr_L03_alive_41 fns)
theorem pr_L03_alive_42_ok {fns : List (Nat × (List AV → Option AV))} (hf : FnsOk Go.Proofs.Try.prog fns) : PrsOk Go.Proofs.Try.prog (pr_L03_alive_42 fns) :=
  PrsOk.cons (proc_con (EnvC.sub (yl := none) tt_ok et_ok hf (pr_L03_alive_41_ok hf) (ItsOk.nil _) tt_L03_alive_ok et_L03_alive_ok) (PrOk.of mixed_ok) Go.Proofs.Try.func42 rfl (by decide) rfl rfl) (pr_L03_alive_41_ok hf)
def L03_alive_S1 (u0 : AV) (u1 : AV) (B2 : Blk) (x2 : Int × (List (Int × Int × Unit)) × Int × Int × Int) : St :=
  ⟨[(6, u0), (45, u1), (46, .int .i64 x2.1)], [(13335, .row 165 (.pair (.int .i64) (.pair (.int .i64) .unit)) x2.2.1 false), (13338, .var (.pair (.sl (.pair (.int .i64) (.pair (.int .i64) .unit))) (.pair (.sl (.pair (.int .i64) (.pair (.int .i64) (.pair (.int .i64) .unit)))) (.pair (.pair (.int .i64) (.pair (.int .i64) (.pair (.int .i64) .unit))) .unit))) (.agg [.own 13335, .own 13349, .agg [.int .i64 x2.2.2.1, .int .i64 x2.2.2.2.1, .int .i64 x2.2.2.2.2]]) false), (13349, B2)], (some ([13348, 13349], 0))⟩
def L03_alive_M1 : Msk := ⟨[6, 45, 46], [13335, 13338, 13349], [], [], [13348, 13349], [], [], [], []⟩
def L03_alive_S2 (u0 : AV) (u1 : AV) (B2 : Blk) (B4 : Blk) (x3 : Int × (List (Int × Int × Int × Unit))) : St :=
  ⟨[(6, u0), (27, u1), (28, .int .i64 x3.1)], [(13335, B2), (13338, B4), (13349, .row 79 (.pair (.int .i64) (.pair (.int .i64) (.pair (.int .i64) .unit))) x3.2 false)], (some ([13348, 13349], 0))⟩
def L03_alive_M2 : Msk := ⟨[6, 27, 28], [13335, 13338, 13349], [], [(13338, [1], 13349, 77)], [13348, 13349], [], [], [], []⟩
def L03_alive_S3 (u0 : AV) (u1 : AV) (u2 : AV) (B3 : Blk) (B5 : Blk) (B6 : Blk) (x16 : Int × Int) : St :=
  ⟨[(0, u0), (2, u1), (7, u2), (9, .int .i64 x16.1), (10, .int .i64 x16.2)], [(13335, B3), (13338, B5), (13349, B6)], (some ([], 0))⟩
def L03_alive_M3 : Msk := ⟨[0, 2, 7, 9, 10], [13335, 13338, 13349], [], [], [], [], [], [], []⟩
def L03_alive_S4 (u0 : AV) (u1 : AV) (B2 : Blk) (B4 : Blk) (B5 : Blk) (x18 : Int × List Int) : St :=
  ⟨[(0, u0), (7, u1), (8, .int .i64 x18.1)], [(13335, B2), (13338, B4), (13349, B5), (88105, .row 3 (.int .i64) x18.2 false)], (some ([88104, 88105], 0))⟩
def L03_alive_M4 : Msk := ⟨[0, 7, 8], [13335, 13338, 13349, 88105], [(7, 88105, 36)], [], [88104, 88105], [], [], [], []⟩
def L03_alive_Q1 (x1 : (List (Int × Int × Unit)) × Int × Int × Int × (List (Int × Int × Int × Unit))) : St :=
  ⟨[(1, .dead), (2, .dead), (11, .dead), (12, .tup [.ptr 13338 [], .int .i64 0]), (13, .dead), (14, .dead)], [(13335, .row 165 (.pair (.int .i64) (.pair (.int .i64) .unit)) x1.1 false), (13338, .var (.pair (.sl (.pair (.int .i64) (.pair (.int .i64) .unit))) (.pair (.sl (.pair (.int .i64) (.pair (.int .i64) (.pair (.int .i64) .unit)))) (.pair (.pair (.int .i64) (.pair (.int .i64) (.pair (.int .i64) .unit))) .unit))) (.agg [.own 13335, .own 13349, .agg [.int .i64 x1.2.1, .int .i64 x1.2.2.1, .int .i64 x1.2.2.2.1]]) false), (13349, .row 79 (.pair (.int .i64) (.pair (.int .i64) (.pair (.int .i64) .unit))) x1.2.2.2.2 false)], none⟩
def L03_alive_Q2 (x4 : Int × (List (Int × Int × Unit)) × Int × Int × Int × (List (Int × Int × Int × Unit))) : St :=
  ⟨[(1, .ptr 13338 []), (3, .dead), (4, .dead), (5, .dead), (6, .dead), (22, .int .i64 x4.1), (23, .dead), (24, .dead), (25, .dead), (26, .dead), (27, .dead), (28, .dead)], [(13335, .row 165 (.pair (.int .i64) (.pair (.int .i64) .unit)) x4.2.1 false), (13338, .var (.pair (.sl (.pair (.int .i64) (.pair (.int .i64) .unit))) (.pair (.sl (.pair (.int .i64) (.pair (.int .i64) (.pair (.int .i64) .unit)))) (.pair (.pair (.int .i64) (.pair (.int .i64) (.pair (.int .i64) .unit))) .unit))) (.agg [.own 13335, .own 13349, .agg [.int .i64 x4.2.2.1, .int .i64 x4.2.2.2.1, .int .i64 x4.2.2.2.2.1]]) false), (13349, .row 79 (.pair (.int .i64) (.pair (.int .i64) (.pair (.int .i64) .unit))) x4.2.2.2.2.2 false)], none⟩
def L03_alive_Q3 (x5 : Int × Int × (List (Int × Int × Unit)) × Int × Int × Int × (List (Int × Int × Int × Unit))) : St :=
  ⟨[(1, .ptr 13338 []), (3, .dead), (4, .dead), (5, .dead), (6, .dead), (22, .int .i64 x5.1), (24, .int .i64 x5.2.1), (25, .dead), (26, .dead), (27, .dead), (28, .dead)], [(13335, .row 165 (.pair (.int .i64) (.pair (.int .i64) .unit)) x5.2.2.1 false), (13338, .var (.pair (.sl (.pair (.int .i64) (.pair (.int .i64) .unit))) (.pair (.sl (.pair (.int .i64) (.pair (.int .i64) (.pair (.int .i64) .unit)))) (.pair (.pair (.int .i64) (.pair (.int .i64) (.pair (.int .i64) .unit))) .unit))) (.agg [.own 13335, .own 13349, .agg [.int .i64 x5.2.2.2.1, .int .i64 x5.2.2.2.2.1, .int .i64 x5.2.2.2.2.2.1]]) false), (13349, .row 79 (.pair (.int .i64) (.pair (.int .i64) (.pair (.int .i64) .unit))) x5.2.2.2.2.2.2 false)], none⟩
def L03_alive_Q4 (x6 : Int × Int × Int × (List (Int × Int × Unit)) × Int × Int × Int × (List (Int × Int × Int × Unit))) : St :=
  ⟨[(1, .ptr 13338 []), (3, .dead), (4, .dead), (5, .dead), (6, .dead), (22, .int .i64 x6.1), (24, .int .i64 x6.2.1), (26, .int .i64 x6.2.2.1), (27, .dead), (28, .dead)], [(13335, .row 165 (.pair (.int .i64) (.pair (.int .i64) .unit)) x6.2.2.2.1 false), (13338, .var (.pair (.sl (.pair (.int .i64) (.pair (.int .i64) .unit))) (.pair (.sl (.pair (.int .i64) (.pair (.int .i64) (.pair (.int .i64) .unit)))) (.pair (.pair (.int .i64) (.pair (.int .i64) (.pair (.int .i64) .unit))) .unit))) (.agg [.own 13335, .own 13349, .agg [.int .i64 x6.2.2.2.2.1, .int .i64 x6.2.2.2.2.2.1, .int .i64 x6.2.2.2.2.2.2.1]]) false), (13349, .row 79 (.pair (.int .i64) (.pair (.int .i64) (.pair (.int .i64) .unit))) x6.2.2.2.2.2.2.2 false)], none⟩
def L03_alive_Q5 (x7 : Int × Int × Int × Int × (List (Int × Int × Unit)) × Int × Int × Int × (List (Int × Int × Int × Unit))) : St :=
  ⟨[(1, .ptr 13338 []), (3, .dead), (4, .dead), (5, .dead), (6, .dead), (22, .int .i64 x7.1), (24, .int .i64 x7.2.1), (26, .int .i64 x7.2.2.1), (28, .int .i64 x7.2.2.2.1)], [(13335, .row 165 (.pair (.int .i64) (.pair (.int .i64) .unit)) x7.2.2.2.2.1 false), (13338, .var (.pair (.sl (.pair (.int .i64) (.pair (.int .i64) .unit))) (.pair (.sl (.pair (.int .i64) (.pair (.int .i64) (.pair (.int .i64) .unit)))) (.pair (.pair (.int .i64) (.pair (.int .i64) (.pair (.int .i64) .unit))) .unit))) (.agg [.own 13335, .own 13349, .agg [.int .i64 x7.2.2.2.2.2.1, .int .i64 x7.2.2.2.2.2.2.1, .int .i64 x7.2.2.2.2.2.2.2.1]]) false), (13349, .row 79 (.pair (.int .i64) (.pair (.int .i64) (.pair (.int .i64) .unit))) x7.2.2.2.2.2.2.2.2 false)], none⟩
def L03_alive_Q6 (x9 : Int × Int × (List (Int × Int × Unit)) × Int × Int × Int × (List (Int × Int × Int × Unit))) : St :=
  ⟨[(0, .ptr 13338 []), (1, .int .i64 0), (6, .dead), (7, .dead), (8, .dead), (11, .tup [.int .i64 x9.1, .int .i64 x9.2.1]), (12, .dead), (13, .dead)], [(13335, .row 165 (.pair (.int .i64) (.pair (.int .i64) .unit)) x9.2.2.1 false), (13338, .var (.pair (.sl (.pair (.int .i64) (.pair (.int .i64) .unit))) (.pair (.sl (.pair (.int .i64) (.pair (.int .i64) (.pair (.int .i64) .unit)))) (.pair (.pair (.int .i64) (.pair (.int .i64) (.pair (.int .i64) .unit))) .unit))) (.agg [.own 13335, .own 13349, .agg [.int .i64 x9.2.2.2.1, .int .i64 x9.2.2.2.2.1, .int .i64 x9.2.2.2.2.2.1]]) false), (13349, .row 79 (.pair (.int .i64) (.pair (.int .i64) (.pair (.int .i64) .unit))) x9.2.2.2.2.2.2 false)], (some ([], 0))⟩
def L03_alive_Q7 (x10 : Int × (List (Int × Int × Unit)) × Int × Int × Int × (List (Int × Int × Int × Unit))) : St :=
  ⟨[(6, .int .i64 x10.1)], [(13335, .row 165 (.pair (.int .i64) (.pair (.int .i64) .unit)) x10.2.1 false), (13338, .var (.pair (.sl (.pair (.int .i64) (.pair (.int .i64) .unit))) (.pair (.sl (.pair (.int .i64) (.pair (.int .i64) (.pair (.int .i64) .unit)))) (.pair (.pair (.int .i64) (.pair (.int .i64) (.pair (.int .i64) .unit))) .unit))) (.agg [.own 13335, .own 13349, .agg [.int .i64 x10.2.2.1, .int .i64 x10.2.2.2.1, .int .i64 x10.2.2.2.2.1]]) false), (13349, .row 79 (.pair (.int .i64) (.pair (.int .i64) (.pair (.int .i64) .unit))) x10.2.2.2.2.2 false)], (some ([], 0))⟩
def L03_alive_Q8 (x8 : Int × Int × Int × Int × Int × Int × (List (Int × Int × Unit)) × Int × Int × Int × (List (Int × Int × Int × Unit))) : St :=
  ⟨[(1, .ptr 13338 []), (3, .int .i64 x8.1), (4, .int .i64 x8.2.1), (5, .int .i64 x8.2.2.1), (6, .int .i64 x8.2.2.2.1), (7, .dead), (8, .dead), (29, .dead), (31, .tup [.int .i64 x8.2.2.2.2.1, .int .i64 x8.2.2.2.2.2.1]), (32, .dead), (33, .dead)], [(13335, .row 165 (.pair (.int .i64) (.pair (.int .i64) .unit)) x8.2.2.2.2.2.2.1 false), (13338, .var (.pair (.sl (.pair (.int .i64) (.pair (.int .i64) .unit))) (.pair (.sl (.pair (.int .i64) (.pair (.int .i64) (.pair (.int .i64) .unit)))) (.pair (.pair (.int .i64) (.pair (.int .i64) (.pair (.int .i64) .unit))) .unit))) (.agg [.own 13335, .own 13349, .agg [.int .i64 x8.2.2.2.2.2.2.2.1, .int .i64 x8.2.2.2.2.2.2.2.2.1, .int .i64 x8.2.2.2.2.2.2.2.2.2.1]]) false), (13349, .row 79 (.pair (.int .i64) (.pair (.int .i64) (.pair (.int .i64) .unit))) x8.2.2.2.2.2.2.2.2.2.2 false)], none⟩
def L03_alive_Q9 (x11 : Int × Int × Int × Int × Int × Int × Int × Int × (List (Int × Int × Unit)) × Int × Int × Int × (List (Int × Int × Int × Unit))) : St :=
  ⟨[(1, .ptr 13338 []), (3, .int .i64 x11.1), (4, .int .i64 x11.2.1), (5, .int .i64 x11.2.2.1), (6, .int .i64 x11.2.2.2.1), (7, .int .i64 x11.2.2.2.2.1), (8, .int .i64 x11.2.2.2.2.2.1), (9, .dead), (10, .dead), (34, .dead), (36, .tup [.int .i64 x11.2.2.2.2.2.2.1, .int .i64 x11.2.2.2.2.2.2.2.1]), (37, .dead), (38, .dead)], [(13335, .row 165 (.pair (.int .i64) (.pair (.int .i64) .unit)) x11.2.2.2.2.2.2.2.2.1 false), (13338, .var (.pair (.sl (.pair (.int .i64) (.pair (.int .i64) .unit))) (.pair (.sl (.pair (.int .i64) (.pair (.int .i64) (.pair (.int .i64) .unit)))) (.pair (.pair (.int .i64) (.pair (.int .i64) (.pair (.int .i64) .unit))) .unit))) (.agg [.own 13335, .own 13349, .agg [.int .i64 x11.2.2.2.2.2.2.2.2.2.1, .int .i64 x11.2.2.2.2.2.2.2.2.2.2.1, .int .i64 x11.2.2.2.2.2.2.2.2.2.2.2.1]]) false), (13349, .row 79 (.pair (.int .i64) (.pair (.int .i64) (.pair (.int .i64) .unit))) x11.2.2.2.2.2.2.2.2.2.2.2.2 false)], none⟩
def L03_alive_Q10 (x13 : Int × (List (Int × Int × Unit)) × Int × Int × Int × (List (Int × Int × Int × Unit))) : St :=
  ⟨[(0, .dead), (1, .ptr 13338 []), (69, .bool true), (71, .int .i64 x13.1), (72, .dead), (73, .dead), (74, .dead), (75, .dead), (76, .dead), (77, .dead), (78, .dead), (79, .dead), (80, .dead), (81, .dead), (82, .dead), (83, .dead), (84, .dead), (85, .dead), (86, .dead), (87, .dead), (88, .dead)], [(13335, .row 165 (.pair (.int .i64) (.pair (.int .i64) .unit)) x13.2.1 false), (13338, .var (.pair (.sl (.pair (.int .i64) (.pair (.int .i64) .unit))) (.pair (.sl (.pair (.int .i64) (.pair (.int .i64) (.pair (.int .i64) .unit)))) (.pair (.pair (.int .i64) (.pair (.int .i64) (.pair (.int .i64) .unit))) .unit))) (.agg [.own 13335, .own 13349, .agg [.int .i64 x13.2.2.1, .int .i64 x13.2.2.2.1, .int .i64 x13.2.2.2.2.1]]) false), (13349, .row 79 (.pair (.int .i64) (.pair (.int .i64) (.pair (.int .i64) .unit))) x13.2.2.2.2.2 false)], none⟩
def L03_alive_Q11 (x14 : Int × (List (Int × Int × Unit)) × Int × Int × Int × (List (Int × Int × Int × Unit))) : St :=
  ⟨[(0, .dead), (1, .ptr 13338 []), (74, .bool true), (76, .int .i64 x14.1), (77, .dead), (78, .dead), (79, .dead), (80, .dead), (81, .dead), (82, .dead), (83, .dead), (84, .dead), (85, .dead), (86, .dead), (87, .dead), (88, .dead)], [(13335, .row 165 (.pair (.int .i64) (.pair (.int .i64) .unit)) x14.2.1 false), (13338, .var (.pair (.sl (.pair (.int .i64) (.pair (.int .i64) .unit))) (.pair (.sl (.pair (.int .i64) (.pair (.int .i64) (.pair (.int .i64) .unit)))) (.pair (.pair (.int .i64) (.pair (.int .i64) (.pair (.int .i64) .unit))) .unit))) (.agg [.own 13335, .own 13349, .agg [.int .i64 x14.2.2.1, .int .i64 x14.2.2.2.1, .int .i64 x14.2.2.2.2.1]]) false), (13349, .row 79 (.pair (.int .i64) (.pair (.int .i64) (.pair (.int .i64) .unit))) x14.2.2.2.2.2 false)], none⟩
def L03_alive_Q12 (x17 : (List (Int × Int × Unit)) × Int × Int × Int × (List (Int × Int × Int × Unit))) : St :=
  ⟨[], [(13335, .row 165 (.pair (.int .i64) (.pair (.int .i64) .unit)) x17.1 false), (13338, .var (.pair (.sl (.pair (.int .i64) (.pair (.int .i64) .unit))) (.pair (.sl (.pair (.int .i64) (.pair (.int .i64) (.pair (.int .i64) .unit)))) (.pair (.pair (.int .i64) (.pair (.int .i64) (.pair (.int .i64) .unit))) .unit))) (.agg [.own 13335, .own 13349, .agg [.int .i64 x17.2.1, .int .i64 x17.2.2.1, .int .i64 x17.2.2.2.1]]) false), (13349, .row 79 (.pair (.int .i64) (.pair (.int .i64) (.pair (.int .i64) .unit))) x17.2.2.2.2 false)], (some ([], 0))⟩
def L03_alive_Q13 (x15 : Bool × (List (Int × Int × Unit)) × Int × Int × Int × (List (Int × Int × Int × Unit))) : St :=
  ⟨[(0, .dead), (1, .ptr 13338 []), (79, .bool true), (81, .bool x15.1), (82, .dead), (83, .dead), (84, .dead), (85, .dead), (86, .dead), (87, .dead), (88, .dead)], [(13335, .row 165 (.pair (.int .i64) (.pair (.int .i64) .unit)) x15.2.1 false), (13338, .var (.pair (.sl (.pair (.int .i64) (.pair (.int .i64) .unit))) (.pair (.sl (.pair (.int .i64) (.pair (.int .i64) (.pair (.int .i64) .unit)))) (.pair (.pair (.int .i64) (.pair (.int .i64) (.pair (.int .i64) .unit))) .unit))) (.agg [.own 13335, .own 13349, .agg [.int .i64 x15.2.2.1, .int .i64 x15.2.2.2.1, .int .i64 x15.2.2.2.2.1]]) false), (13349, .row 79 (.pair (.int .i64) (.pair (.int .i64) (.pair (.int .i64) .unit))) x15.2.2.2.2.2 false)], none⟩
def L03_alive_Q14 (x12 : Bool) : St :=
  ⟨[(0, .bool x12)], [], none⟩
def kp_L03_alive : List (Nat × List Nat) := [(0, []), (1, [1, 2]), (2, [1, 20]), (3, [0]), (4, [1, 3, 4, 5, 6]), (5, [1, 3, 4, 5, 6, 7, 8]), (6, [1, 3, 4, 5, 6, 7, 8, 9, 10]), (7, [0]), (5000007, []), (25000012, []), (20000012, [1, 2, 11, 12, 13, 14]), (25000022, []), (20000022, [1, 3, 4, 5, 6, 22, 23, 24, 25, 26, 27, 28]), (25000024, []), (20000024, [1, 3, 4, 5, 6, 22, 24, 25, 26, 27, 28]), (25000026, []), (20000026, [1, 3, 4, 5, 6, 22, 24, 26, 27, 28]), (25000028, []), (20000028, [1, 3, 4, 5, 6, 22, 24, 26, 28]), (25000031, []), (20000031, [1, 3, 4, 5, 6, 7, 8, 29, 31, 32, 33]), (25000036, []), (20000036, [1, 3, 4, 5, 6, 7, 8, 9, 10, 34, 36, 37, 38]), (25000071, []), (20000071, [0, 1, 69, 71, 72, 73, 74, 75, 76, 77, 78, 79, 80, 81, 82, 83, 84, 85, 86, 87, 88]), (25000076, []), (20000076, [0, 1, 74, 76, 77, 78, 79, 80, 81, 82, 83, 84, 85, 86, 87, 88]), (25000081, []), (20000081, [0, 1, 79, 81, 82, 83, 84, 85, 86, 87, 88]), (4000007, []), (6000007, []), (24000012, [13335, 13338, 13349]), (26000012, []), (24000022, [13335, 13338, 13349]), (26000022, []), (24000024, [13335, 13338, 13349]), (26000024, []), (24000026, [13335, 13338, 13349]), (26000026, []), (24000028, [13335, 13338, 13349]), (26000028, []), (24000031, [13335, 13338, 13349]), (26000031, []), (24000036, [13335, 13338, 13349]), (26000036, []), (24000071, [13335, 13338, 13349]), (26000071, []), (24000076, [13335, 13338, 13349]), (26000076, []), (24000081, [13335, 13338, 13349]), (26000081, []), (4000000, []), (4000001, [13335, 13338, 13349]), (4000002, [13335, 13338, 13349]), (4000004, [13335, 13338, 13349]), (4000005, [13335, 13338, 13349]), (4000006, [13335, 13338, 13349])]
def od_L03_alive : List (Nat × Ord) := []
noncomputable def E_L03_alive (fns : List (Nat × (List AV → Option AV))) : Env := ⟨0, 0, et_L03_alive, tt_L03_alive, fns, (pr_L03_alive_42 fns), od_L03_alive, kp_L03_alive, none, []⟩
set_option maxRecDepth 100000 in
set_option maxHeartbeats 40000000 in
theorem c_L03_alive : PCon Go.Proofs.Try.prog 29 lf_L03_alive := by
  obtain ⟨fns, hfns, hf⟩ : ∃ fns, fns = [] ∧ FnsOk Go.Proofs.Try.prog fns := ⟨_, rfl, FnsOk.nil _⟩
  refine lift_con (E := E_L03_alive fns) (c := bodyOf Try.f29) (nt := 89) (rs := [.tmp 0]) (ts := [4]) (EnvC.sub tt_ok et_ok hf (pr_L03_alive_42_ok hf) (ItsOk.nil _) tt_L03_alive_ok et_L03_alive_ok) (PrOk.of mixed_ok) Go.Proofs.Try.func29 rfl (by decide) rfl rfl rfl (pureR_one (e := .bool) rfl) ?_
  subst hfns
  intro x r hw hs
  have hks := True.intro
  have hbs := True.intro
  repeat'
    (try (conv => whnf)
     first
       | (with_reducible have hs := letv_out hs)
       | (refine draw_and (by kernel_rfl) ?_)
       | (refine both_mk ?_ ?_)
       | (refine br_bool (fun h => ?_) (fun h => ?_) <;> first | have hs := cT h hs | have hs := cF h hs)
       | refine chk_elim hs fun hs => ?_
       | (have hs := letv_out hs)
       | exact fin_some hs rfl
       | (intro b hb; first | have hs := nilq_elim hs b hb | have hs := nilqn_elim hs b hb)
       | exact hJ1 _ hs
       | exact hJ2 _ hs
       | exact hJ3 _ hs
       | exact hJ4 _ hs
       | exact hC1 _ hs
       | exact hC2 _ hs
       | exact hC3 _ hs
       | exact hC4 _ hs
       | exact hC5 _ hs
       | exact hC6 _ hs
       | exact hC7 _ hs
       | exact hC8 _ hs
       | exact hC9 _ hs
       | exact hC10 _ hs
       | exact hC11 _ hs
       | exact hC12 _ hs
       | exact hC13 _ hs
       | exact hC14 _ hs
       | (refine cut_out 1 L03_alive_Q1 hs (fun Jc1 kc1 hC1 hs => ?_) (fun xc1 hs => ?_))
       | (refine cut_out 2 L03_alive_Q2 hs (fun Jc2 kc2 hC2 hs => ?_) (fun xc2 hs => ?_))
       | (refine cut_out 3 L03_alive_Q3 hs (fun Jc3 kc3 hC3 hs => ?_) (fun xc3 hs => ?_))
       | (refine cut_out 4 L03_alive_Q4 hs (fun Jc4 kc4 hC4 hs => ?_) (fun xc4 hs => ?_))
       | (refine cut_out 5 L03_alive_Q5 hs (fun Jc5 kc5 hC5 hs => ?_) (fun xc5 hs => ?_))
       | (refine cut_out 6 L03_alive_Q6 hs (fun Jc6 kc6 hC6 hs => ?_) (fun xc6 hs => ?_))
       | (refine cut_out 7 L03_alive_Q7 hs (fun Jc7 kc7 hC7 hs => ?_) (fun xc7 hs => ?_))
       | (refine cut_out 8 L03_alive_Q8 hs (fun Jc8 kc8 hC8 hs => ?_) (fun xc8 hs => ?_))
       | (refine cut_out 9 L03_alive_Q9 hs (fun Jc9 kc9 hC9 hs => ?_) (fun xc9 hs => ?_))
       | (refine cut_out 10 L03_alive_Q10 hs (fun Jc10 kc10 hC10 hs => ?_) (fun xc10 hs => ?_))
       | (refine cut_out 11 L03_alive_Q11 hs (fun Jc11 kc11 hC11 hs => ?_) (fun xc11 hs => ?_))
       | (refine cut_out 12 L03_alive_Q12 hs (fun Jc12 kc12 hC12 hs => ?_) (fun xc12 hs => ?_))
       | (refine cut_out 13 L03_alive_Q13 hs (fun Jc13 kc13 hC13 hs => ?_) (fun xc13 hs => ?_))
       | (refine cut_out 14 L03_alive_Q14 hs (fun Jc14 kc14 hC14 hs => ?_) (fun xc14 hs => ?_))
       | (have hs := cT rfl hs)
       | (have hs := cF rfl hs)
       | (refine vc_loop (L03_alive_S1 _ _ _) L03_alive_M1 hs rfl ?_; intro J1 k1 x1 hJ1 hs)
       | (refine vc_jump (L03_alive_S1 _ _ _) L03_alive_M1 hs rfl ?_; intro J1 k1 x1 hJ1 hs)
       | (refine vc_loop (L03_alive_S2 _ _ _ _) L03_alive_M2 hs rfl ?_; intro J2 k2 x2 hJ2 hs)
       | (refine vc_jump (L03_alive_S2 _ _ _ _) L03_alive_M2 hs rfl ?_; intro J2 k2 x2 hJ2 hs)
       | (refine vc_loop (L03_alive_S3 _ _ _ _ _ _) L03_alive_M3 hs rfl ?_; intro J3 k3 x3 hJ3 hs)
       | (refine vc_jump (L03_alive_S3 _ _ _ _ _ _) L03_alive_M3 hs rfl ?_; intro J3 k3 x3 hJ3 hs)
       | (refine vc_loop (L03_alive_S4 _ _ _ _ _) L03_alive_M4 hs rfl ?_; intro J4 k4 x4 hJ4 hs)
       | (refine vc_jump (L03_alive_S4 _ _ _ _ _) L03_alive_M4 hs rfl ?_; intro J4 k4 x4 hJ4 hs)
       | (refine And.intro (by first | exact hks.1 | exact hks.2.1 | exact hks.2.2.1 | exact hks.2.2.2.1 | exact hks.2.2.2.2.1 | exact hks.2.2.2.2.2.1 | exact hks.2.2.2.2.2.2.1 | exact hks.2.2.2.2.2.2.2.1) ?_)
       | (obtain ⟨hk, hs⟩ := chk_some hs; have hks := And.intro hk hks)
       | (obtain ⟨vb, hb, hs⟩ := bind_some hs; have hbs := And.intro hb hbs)
       | exact (none_ne hs).elim)
end Go.Proofs.YtiicmhholjpcbaaV
