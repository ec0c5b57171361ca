/- What becket/becketlaw04.BitsetStops answers. -/
import Derived.Test.YtejedlpnejjnbaaDoorBVcTab
import Derived.Test.YtejedlpnejjnbaaDoorBDBitsetStops
import Derived.Test.YtejedlpnejjnbaaDoorBCL04
import Derived.Test.YtejedlpnejjnbaaDoorBCbitset
namespace Go.Proofs.YtejedlpnejjnbaaDoorBV
open Go.Proofs
set_option linter.unusedVariables false
noncomputable def lf_L04_BitsetStops : List AV → Option AV := liftF (.pair (.arr 4 (.int .u64)) (.pair (.int .u8) .unit)) (unpack .bool) (fun x => L04_BitsetStops x.1 x.2.1)
theorem lq_L04_BitsetStops : lf_L04_BitsetStops = liftF (.pair (.arr 4 (.int .u64)) (.pair (.int .u8) .unit)) (unpack .bool) (fun x => L04_BitsetStops x.1 x.2.1) := rfl
attribute [irreducible] lf_L04_BitsetStops
theorem ck_L04_BitsetStops {vs : List AV} {k : AV → Prop} {x : ((.pair (.arr 4 (.int .u64)) (.pair (.int .u8) .unit)) : Ty).den} {v : Bool} (h1 : pks (.pair (.arr 4 (.int .u64)) (.pair (.int .u8) .unit)) vs = some x) (h2 : L04_BitsetStops x.1 x.2.1 = some v) (h3 : k ((unpack .bool) v)) : callK (lf_L04_BitsetStops vs) k := by
  rw [lq_L04_BitsetStops]; exact callK_lift h1 h2 h3
def tt_L04_BitsetStops : List (Nat × Ty) := [(3, .int .i64), (4, .bool), (5, .int .u8), (22, .sl (.int .i64)), (25, .arr 4 (.int .u64)), (26, .arr 4 (.int .u64)), (41, .opq 1)]
def et_L04_BitsetStops : List (Nat × Nat) := [(22, 3)]
theorem tt_L04_BitsetStops_ok : subT tt tt_L04_BitsetStops = true := by kernel_rfl
theorem et_L04_BitsetStops_ok : subE et et_L04_BitsetStops = true := by kernel_rfl
noncomputable def fns_L04_BitsetStops : List (Nat × (List AV → Option AV)) := [(10, lf_L04_alive), (11, lf_bitset_Of), (13, lf_bitset_Next), (17, lf_bitset_List)]
theorem fns_L04_BitsetStops_ok : FnsOk Go.Proofs.Tryd.prog fns_L04_BitsetStops := FnsOk.cons c_L04_alive (FnsOk.cons c_bitset_Of (FnsOk.cons c_bitset_Next (FnsOk.cons c_bitset_List (FnsOk.nil _))))
def kp_L04_BitsetStops_56 : List (Nat × List Nat) := [(0, [0, 1, 3, 4]), (1, [0, 1, 3, 10]), (2, [0, 1, 3, 4]), (3, [0, 1, 3, 21])]
def od_L04_BitsetStops_56 : List (Nat × Ord) := []
noncomputable def E_L04_BitsetStops_56 : Env := ⟨0, 0, et_L04_BitsetStops, tt_L04_BitsetStops, fns_L04_BitsetStops, [], od_L04_BitsetStops_56, kp_L04_BitsetStops_56, none, []⟩
noncomputable def it_L04_BitsetStops_56 : List (Nat × (Nat → (List Nat → Proc) → Proc)) := (56, itR E_L04_BitsetStops_56 22 [] (bodyOf Tryd.f56)) :: []
theorem it_L04_BitsetStops_56_ok : ItsOk Go.Proofs.Tryd.prog it_L04_BitsetStops_56 :=
  ItsOk.cons (it_conR (E := E_L04_BitsetStops_56) (EnvC.sub (off := 0) (nt := 0) (ords := od_L04_BitsetStops_56) (keep := kp_L04_BitsetStops_56) (yl := none) tt_ok et_ok fns_L04_BitsetStops_ok (PrsOk.nil _) (ItsOk.nil _) tt_L04_BitsetStops_ok et_L04_BitsetStops_ok) (PrOk.of mixed_ok) Go.Proofs.Tryd.func56 rfl (by decide) rfl rfl) (ItsOk.nil _)
def kp_L04_BitsetStops_25 : List (Nat × List Nat) := [(0, [1]), (1, [2])]
def od_L04_BitsetStops_25 : List (Nat × Ord) := []
noncomputable def E_L04_BitsetStops_25 : Env := ⟨0, 0, et_L04_BitsetStops, tt_L04_BitsetStops, fns_L04_BitsetStops, [], od_L04_BitsetStops_25, kp_L04_BitsetStops_25, none, it_L04_BitsetStops_56⟩
noncomputable def pr_L04_BitsetStops_25 : List (Nat × Proc) := (25, procR E_L04_BitsetStops_25 4 [.tmp 2] (bodyOf Tryd.f25)) :: []
theorem pr_L04_BitsetStops_25_ok : PrsOk Go.Proofs.Tryd.prog pr_L04_BitsetStops_25 :=
  PrsOk.cons (proc_conR (E := E_L04_BitsetStops_25) (EnvC.sub (off := 0) (nt := 0) (ords := od_L04_BitsetStops_25) (keep := kp_L04_BitsetStops_25) (yl := none) tt_ok et_ok fns_L04_BitsetStops_ok (PrsOk.nil _) (it_L04_BitsetStops_56_ok) tt_L04_BitsetStops_ok et_L04_BitsetStops_ok) (PrOk.of mixed_ok) Go.Proofs.Tryd.func25 rfl (by decide) rfl rfl) (PrsOk.nil _)
def L04_BitsetStops_S1 (u0 : AV) (u1 : AV) (B3 : Blk) (B5 : Blk) (B7 : Blk) (B9 : Blk) (B11 : Blk) (x2 : Int × Bool × Int) : St :=
  ⟨[(0, u0), (1, u1), (3, .int .i64 x2.1), (4, .bool x2.2.1)], [(2, B3), (3, B5), (4, B7), (5, B9), (6, .var (.int .i64) (.int .i64 x2.2.2) false), (13313, B11)], (some ([], 0))⟩
def L04_BitsetStops_M1 : Msk := ⟨[0, 1, 3, 4], [2, 3, 4, 5, 6, 13313], [], [], [], [], [], [], []⟩
def L04_BitsetStops_Q1 (x1 : List Int × Int × List Int × List Int) : St :=
  ⟨[(2, .ptr 2 []), (3, .ptr 3 []), (4, .ptr 4 []), (5, .ptr 5 []), (6, .ptr 6 []), (7, .dead), (12, .fn (.func 56) [] [.ptr 13313 []])], [(2, .var (.arr 4 (.int .u64)) (.arr 4 (.int .u64) x1.1) false), (3, .var (.int .u8) (.int .u8 x1.2.1) false), (4, .var .bool (.bool false) false), (5, .var (.sl (.int .i64)) (.ro (.int .i64) x1.2.2.1) false), (6, .var (.int .i64) (.int .i64 0) false), (13313, .var (.arr 4 (.int .u64)) (.arr 4 (.int .u64) x1.2.2.2) false)], none⟩
def kp_L04_BitsetStops : List (Nat × List Nat) := [(0, [2, 3, 4]), (1, [2, 3, 4, 5, 6]), (2, [2, 3, 4, 5, 6, 7]), (3, [2, 3, 4, 5, 6, 7, 14]), (4, [4]), (5, [2, 3, 4, 5, 6, 15]), (6, [3, 4, 5, 6, 8]), (7, [3, 4, 6, 28]), (8, []), (9, [3, 6]), (10, [34]), (11, [4]), (25000012, []), (20000012, [2, 3, 4, 5, 6, 7, 12]), (24000012, [2, 3, 4, 5, 6, 13313]), (26000012, []), (4000000, [2, 3, 4]), (4000001, [2, 3, 4, 5, 6]), (4000002, [2, 3, 4, 5, 6, 13313]), (4000003, [2, 3, 4, 5, 6, 13313]), (4000005, [2, 3, 4, 5, 6, 13313]), (4000006, [2, 3, 4, 5, 6, 13313]), (4000007, [2, 3, 4, 5, 6, 13313]), (4000008, [2, 3, 4, 5, 6, 13313]), (4000009, [2, 3, 4, 5, 6, 13313]), (4000010, [2, 3, 4, 5, 6, 13313]), (4000011, [4])]
def od_L04_BitsetStops : List (Nat × Ord) := [(11, (.one 0 (.one 1 (.one 2 (.one 3 (.one 4 (.one 5 (.one 6 (.one 7 (.one 8 (.one 9 (.one 11 (.one 10 (.one 12 (.one 13 (.one 14 (.one 100015 (.one 16 (.one 100017 .nil)))))))))))))))))))]
noncomputable def E_L04_BitsetStops : Env := ⟨0, 0, et_L04_BitsetStops, tt_L04_BitsetStops, fns_L04_BitsetStops, pr_L04_BitsetStops_25, od_L04_BitsetStops, kp_L04_BitsetStops, none, it_L04_BitsetStops_56⟩
set_option maxRecDepth 100000 in
set_option maxHeartbeats 40000000 in
theorem c_L04_BitsetStops : PCon Go.Proofs.Tryd.prog 4 lf_L04_BitsetStops := by
  rw [lq_L04_BitsetStops]
  refine lift_conR (E := E_L04_BitsetStops) (c := bodyOf Tryd.f4) (nt := 52) (rs := [.cell 4 4]) (ts := [4]) (EnvC.sub (off := 0) (nt := 0) (ords := od_L04_BitsetStops) (keep := kp_L04_BitsetStops) (yl := none) tt_ok et_ok fns_L04_BitsetStops_ok (pr_L04_BitsetStops_25_ok) (it_L04_BitsetStops_56_ok) tt_L04_BitsetStops_ok et_L04_BitsetStops_ok) (PrOk.of mixed_ok) Go.Proofs.Tryd.func4 rfl (by decide) rfl rfl rfl (pureR_one (e := .bool) rfl) ?_
  intro x r hw hs
  repeat'
    (try (conv => whnf)
     first
       | (with_reducible have hs := letv_out hs)
       | (refine draw_and (by kernel_rfl) ?_)
       | (refine both_mk ?_ ?_)
       | (refine br_bool (fun h => ?_) (fun h => ?_) <;> first | have hs := cT h hs | have hs := cF h hs)
       | (refine bind_elim hs fun v hb hs => ?_; first | refine ck_L04_alive rfl hb ?_ | refine ck_bitset_Of rfl hb ?_ | refine ck_bitset_Next rfl hb ?_ | refine ck_bitset_List rfl hb ?_)
       | refine chk_elim hs fun hs => ?_
       | (have hs := letv_out hs)
       | exact fin_some hs rfl
       | (intro b hb; first | have hs := nilq_elim hs b hb | have hs := nilqn_elim hs b hb)
       | exact hJ1 _ hs
       | exact hC1 _ hs
       | (refine cut_out 1 L04_BitsetStops_Q1 hs (fun Jc1 kc1 hC1 hs => ?_) (fun xc1 hs => ?_))
       | (have hs := cT rfl hs)
       | (have hs := cF rfl hs)
       | (refine vc_loopR (L04_BitsetStops_S1 _ _ _ _ _ _ _) L04_BitsetStops_M1 hs rfl ?_; intro J1 k1 x1 hJ1 hs)
       | (refine eqP_mk ?_)
       | (intro l)
       | exact (none_ne hs).elim)
theorem cq_L04_BitsetStops : PCon Go.Proofs.Tryd.prog 4 (liftF (.pair (.arr 4 (.int .u64)) (.pair (.int .u8) .unit)) (unpack .bool) (fun x => L04_BitsetStops x.1 x.2.1)) := lq_L04_BitsetStops ▸ c_L04_BitsetStops
end Go.Proofs.YtejedlpnejjnbaaDoorBV
