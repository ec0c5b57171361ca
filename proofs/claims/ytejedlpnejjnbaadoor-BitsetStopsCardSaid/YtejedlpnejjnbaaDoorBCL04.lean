import Derived.Test.YtejedlpnejjnbaaDoorBVcTab
import Derived.Test.YtejedlpnejjnbaaDoorBDL04
import Derived.Test.YtejedlpnejjnbaaDoorBCR02
import Derived.Test.YtejedlpnejjnbaaDoorBCR04
import Derived.Test.YtejedlpnejjnbaaDoorBCbitset
namespace Go.Proofs.YtejedlpnejjnbaaDoorBV
open Go.Proofs
set_option linter.unusedVariables false
noncomputable def lf_L04_alive : List AV → Option AV := liftF .unit (unpack .bool) (fun x => L04_alive)
theorem lq_L04_alive : lf_L04_alive = liftF .unit (unpack .bool) (fun x => L04_alive) := rfl
attribute [irreducible] lf_L04_alive
theorem ck_L04_alive {vs : List AV} {k : AV → Prop} {x : (.unit : Ty).den} {v : Bool} (h1 : pks .unit vs = some x) (h2 : L04_alive = some v) (h3 : k ((unpack .bool) v)) : callK (lf_L04_alive vs) k := by
  rw [lq_L04_alive]; exact callK_lift h1 h2 h3
def tt_L04_alive : List (Nat × Ty) := [(3, .int .i64), (4, .bool), (22, .sl (.int .i64)), (26, .arr 4 (.int .u64))]
def et_L04_alive : List (Nat × Nat) := [(22, 3)]
theorem tt_L04_alive_ok : subT tt tt_L04_alive = true := by kernel_rfl
theorem et_L04_alive_ok : subE et et_L04_alive = true := by kernel_rfl
noncomputable def fns_L04_alive : List (Nat × (List AV → Option AV)) := [(11, lf_bitset_Of), (13, lf_bitset_Next), (16, lf_R02_Same), (17, lf_bitset_List), (18, lf_bitset_Len), (19, lf_bitset_Has), (21, lf_bitset_Add), (23, lf_bitset_Drop), (32, lf_bitset_Sub)]
theorem fns_L04_alive_ok : FnsOk Go.Proofs.Tryd.prog fns_L04_alive := FnsOk.cons c_bitset_Of (FnsOk.cons c_bitset_Next (FnsOk.cons c_R02_Same (FnsOk.cons c_bitset_List (FnsOk.cons c_bitset_Len (FnsOk.cons c_bitset_Has (FnsOk.cons c_bitset_Add (FnsOk.cons c_bitset_Drop (FnsOk.cons c_bitset_Sub (FnsOk.nil _)))))))))
def kp_L04_alive : List (Nat × List Nat) := [(0, []), (1, [1]), (2, [1, 2, 3]), (3, [0]), (4000000, []), (4000001, [1]), (4000002, [1]), (4000003, [])]
def od_L04_alive : List (Nat × Ord) := [(3, (.one 0 (.one 1 (.one 2 (.one 3 (.one 4 (.one 100005 (.one 6 (.one 7 (.one 8 (.one 9 (.one 100010 (.one 11 (.one 12 (.one 13 (.one 100014 (.one 15 (.one 16 (.one 17 (.one 18 (.one 19 (.one 20 (.one 21 (.one 22 (.one 23 (.one 24 (.one 25 (.alt (.cons 26 (.one 27 (.one 100028 (.one 29 (.one 30 (.one 31 (.one 33 (.one 32 (.one 100034 (.one 35 (.one 36 (.one 37 (.one 39 (.one 38 (.one 100040 (.one 41 (.one 42 (.one 43 .nil))))))))))))))))) (.cons 27 (.one 26 (.one 100028 (.one 29 (.one 30 (.one 31 (.one 33 (.one 32 (.one 100034 (.one 35 (.one 36 (.one 37 (.one 39 (.one 38 (.one 100040 (.one 41 (.one 42 (.one 43 .nil))))))))))))))))) .nil)))))))))))))))))))))))))))))), (1000011, .nil)]
noncomputable def E_L04_alive : Env := ⟨0, 0, et_L04_alive, tt_L04_alive, fns_L04_alive, [], od_L04_alive, kp_L04_alive, none, []⟩
set_option maxRecDepth 100000 in
set_option maxHeartbeats 40000000 in
theorem c_L04_alive : PCon Go.Proofs.Tryd.prog 10 lf_L04_alive := by
  rw [lq_L04_alive]
  refine lift_conR (E := E_L04_alive) (c := bodyOf Tryd.f10) (nt := 54) (rs := [.tmp 0]) (ts := [4]) (EnvC.sub (off := 0) (nt := 0) (ords := od_L04_alive) (keep := kp_L04_alive) (yl := none) tt_ok et_ok fns_L04_alive_ok (PrsOk.nil _) (ItsOk.nil _) tt_L04_alive_ok et_L04_alive_ok) (PrOk.of mixed_ok) Go.Proofs.Tryd.func10 rfl (by decide) rfl rfl rfl (pureR_one (e := .bool) rfl) ?_
  intro x r hw hs
  repeat'
    (try (conv => whnf)
     first
       | (with_reducible have hs := letv_out hs)
       | (refine draw_and (by kernel_rfl) ?_)
       | (refine both_mk ?_ ?_)
       | (refine br_bool (fun h => ?_) (fun h => ?_) <;> first | have hs := cT h hs | have hs := cF h hs)
       | (refine bind_elim hs fun v hb hs => ?_; first | refine ck_bitset_Of rfl hb ?_ | refine ck_bitset_Next rfl hb ?_ | refine ck_R02_Same rfl hb ?_ | refine ck_bitset_List rfl hb ?_ | refine ck_bitset_Len rfl hb ?_ | refine ck_bitset_Has rfl hb ?_ | refine ck_bitset_Add rfl hb ?_ | refine ck_bitset_Drop rfl hb ?_ | refine ck_bitset_Sub rfl hb ?_)
       | refine chk_elim hs fun hs => ?_
       | (have hs := letv_out hs)
       | exact fin_some hs rfl
       | (intro b hb; first | have hs := nilq_elim hs b hb | have hs := nilqn_elim hs b hb)
       | (have hs := cT rfl hs)
       | (have hs := cF rfl hs)
       | exact (none_ne hs).elim)
theorem cq_L04_alive : PCon Go.Proofs.Tryd.prog 10 (liftF .unit (unpack .bool) (fun x => L04_alive)) := lq_L04_alive ▸ c_L04_alive
end Go.Proofs.YtejedlpnejjnbaaDoorBV
