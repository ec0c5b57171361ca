import Derived.Test.YtkpobmmabmelfaaDoorVcTab
import Derived.Test.YtkpobmmabmelfaaDoorDbits
namespace Go.Proofs.YtkpobmmabmelfaaDoorV
open Go.Proofs
set_option linter.unusedVariables false
noncomputable def lf_math_bits_TrailingZeros64 : List AV → Option AV := liftF (.pair (.int .u64) .unit) (unpack (.int .i64)) (fun x => math_bits_TrailingZeros64 x.1)
theorem lq_math_bits_TrailingZeros64 : lf_math_bits_TrailingZeros64 = liftF (.pair (.int .u64) .unit) (unpack (.int .i64)) (fun x => math_bits_TrailingZeros64 x.1) := rfl
attribute [irreducible] lf_math_bits_TrailingZeros64
theorem ck_math_bits_TrailingZeros64 {vs : List AV} {k : AV → Prop} {x : ((.pair (.int .u64) .unit) : Ty).den} {v : Int} (h1 : pks (.pair (.int .u64) .unit) vs = some x) (h2 : math_bits_TrailingZeros64 x.1 = some v) (h3 : k ((unpack (.int .i64)) v)) : callK (lf_math_bits_TrailingZeros64 vs) k := by
  rw [lq_math_bits_TrailingZeros64]; exact callK_lift h1 h2 h3
def tt_math_bits_TrailingZeros64 : List (Nat × Ty) := [(3, .int .i64), (5, .int .u8), (32, .int .u64), (152, .arr 64 (.int .u8))]
def et_math_bits_TrailingZeros64 : List (Nat × Nat) := []
theorem tt_math_bits_TrailingZeros64_ok : subT tt tt_math_bits_TrailingZeros64 = true := by kernel_rfl
theorem et_math_bits_TrailingZeros64_ok : subE et et_math_bits_TrailingZeros64 = true := by kernel_rfl
noncomputable def fns_math_bits_TrailingZeros64 : List (Nat × (List AV → Option AV)) := []
theorem fns_math_bits_TrailingZeros64_ok : FnsOk Go.Proofs.Tryd.prog fns_math_bits_TrailingZeros64 := FnsOk.nil _
def kp_math_bits_TrailingZeros64 : List (Nat × List Nat) := [(0, [0]), (1, [0, 4]), (2, [2]), (3, [2]), (4000000, []), (4000001, []), (4000002, []), (4000003, [])]
def od_math_bits_TrailingZeros64 : List (Nat × Ord) := []
noncomputable def E_math_bits_TrailingZeros64 : Env := ⟨0, 0, et_math_bits_TrailingZeros64, tt_math_bits_TrailingZeros64, fns_math_bits_TrailingZeros64, [], od_math_bits_TrailingZeros64, kp_math_bits_TrailingZeros64, none, []⟩
set_option maxRecDepth 100000 in
set_option maxHeartbeats 40000000 in
theorem c_math_bits_TrailingZeros64 : PCon Go.Proofs.Tryd.prog 111 lf_math_bits_TrailingZeros64 := by
  rw [lq_math_bits_TrailingZeros64]
  refine lift_conR (E := E_math_bits_TrailingZeros64) (c := bodyOf Tryd.f111) (nt := 14) (rs := [.tmp 2]) (ts := [3]) (EnvC.sub (off := 0) (nt := 0) (ords := od_math_bits_TrailingZeros64) (keep := kp_math_bits_TrailingZeros64) (yl := none) tt_ok et_ok fns_math_bits_TrailingZeros64_ok (PrsOk.nil _) (ItsOk.nil _) tt_math_bits_TrailingZeros64_ok et_math_bits_TrailingZeros64_ok) (PrOk.of mixed_ok) Go.Proofs.Tryd.func111 rfl (by decide) rfl rfl rfl (pureR_one (e := (.int .i64)) rfl) ?_
  intro x r hw hs
  repeat'
    (try (conv => whnf)
     first
       | (with_reducible have hs := letv_out hs)
       | (refine draw_and (by kernel_rfl) ?_)
       | (refine both_mk ?_ ?_)
       | (refine br_bool (fun h => ?_) (fun h => ?_) <;> first | have hs := cT h hs | have hs := cF h hs)
       | refine chk_elim hs fun hs => ?_
       | (have hs := letv_out hs)
       | exact fin_some hs rfl
       | (intro b hb; first | have hs := nilq_elim hs b hb | have hs := nilqn_elim hs b hb)
       | (have hs := cT rfl hs)
       | (have hs := cF rfl hs)
       | exact (none_ne hs).elim)
theorem cq_math_bits_TrailingZeros64 : PCon Go.Proofs.Tryd.prog 111 (liftF (.pair (.int .u64) .unit) (unpack (.int .i64)) (fun x => math_bits_TrailingZeros64 x.1)) := lq_math_bits_TrailingZeros64 ▸ c_math_bits_TrailingZeros64
noncomputable def lf_math_bits_OnesCount64 : List AV → Option AV := liftF (.pair (.int .u64) .unit) (unpack (.int .i64)) (fun x => math_bits_OnesCount64 x.1)
theorem lq_math_bits_OnesCount64 : lf_math_bits_OnesCount64 = liftF (.pair (.int .u64) .unit) (unpack (.int .i64)) (fun x => math_bits_OnesCount64 x.1) := rfl
attribute [irreducible] lf_math_bits_OnesCount64
theorem ck_math_bits_OnesCount64 {vs : List AV} {k : AV → Prop} {x : ((.pair (.int .u64) .unit) : Ty).den} {v : Int} (h1 : pks (.pair (.int .u64) .unit) vs = some x) (h2 : math_bits_OnesCount64 x.1 = some v) (h3 : k ((unpack (.int .i64)) v)) : callK (lf_math_bits_OnesCount64 vs) k := by
  rw [lq_math_bits_OnesCount64]; exact callK_lift h1 h2 h3
def tt_math_bits_OnesCount64 : List (Nat × Ty) := [(3, .int .i64), (32, .int .u64)]
def et_math_bits_OnesCount64 : List (Nat × Nat) := []
theorem tt_math_bits_OnesCount64_ok : subT tt tt_math_bits_OnesCount64 = true := by kernel_rfl
theorem et_math_bits_OnesCount64_ok : subE et et_math_bits_OnesCount64 = true := by kernel_rfl
noncomputable def fns_math_bits_OnesCount64 : List (Nat × (List AV → Option AV)) := []
theorem fns_math_bits_OnesCount64_ok : FnsOk Go.Proofs.Tryd.prog fns_math_bits_OnesCount64 := FnsOk.nil _
def kp_math_bits_OnesCount64 : List (Nat × List Nat) := [(0, [0]), (1, [0]), (2, [0]), (3, [0]), (4, [0]), (5, [0]), (6, [0]), (7, [2]), (4000000, []), (4000001, []), (4000002, []), (4000003, []), (4000004, []), (4000005, []), (4000006, []), (4000007, [])]
def od_math_bits_OnesCount64 : List (Nat × Ord) := []
noncomputable def E_math_bits_OnesCount64 : Env := ⟨0, 0, et_math_bits_OnesCount64, tt_math_bits_OnesCount64, fns_math_bits_OnesCount64, [], od_math_bits_OnesCount64, kp_math_bits_OnesCount64, none, []⟩
set_option maxRecDepth 100000 in
set_option maxHeartbeats 40000000 in
theorem c_math_bits_OnesCount64 : PCon Go.Proofs.Tryd.prog 82 lf_math_bits_OnesCount64 := by
  rw [lq_math_bits_OnesCount64]
  refine lift_conR (E := E_math_bits_OnesCount64) (c := bodyOf Tryd.f82) (nt := 35) (rs := [.tmp 2]) (ts := [3]) (EnvC.sub (off := 0) (nt := 0) (ords := od_math_bits_OnesCount64) (keep := kp_math_bits_OnesCount64) (yl := none) tt_ok et_ok fns_math_bits_OnesCount64_ok (PrsOk.nil _) (ItsOk.nil _) tt_math_bits_OnesCount64_ok et_math_bits_OnesCount64_ok) (PrOk.of mixed_ok) Go.Proofs.Tryd.func82 rfl (by decide) rfl rfl rfl (pureR_one (e := (.int .i64)) rfl) ?_
  intro x r hw hs
  repeat'
    (try (conv => whnf)
     first
       | (with_reducible have hs := letv_out hs)
       | (refine draw_and (by kernel_rfl) ?_)
       | (refine both_mk ?_ ?_)
       | (refine br_bool (fun h => ?_) (fun h => ?_) <;> first | have hs := cT h hs | have hs := cF h hs)
       | refine chk_elim hs fun hs => ?_
       | (have hs := letv_out hs)
       | exact fin_some hs rfl
       | (intro b hb; first | have hs := nilq_elim hs b hb | have hs := nilqn_elim hs b hb)
       | (have hs := cT rfl hs)
       | (have hs := cF rfl hs)
       | exact (none_ne hs).elim)
theorem cq_math_bits_OnesCount64 : PCon Go.Proofs.Tryd.prog 82 (liftF (.pair (.int .u64) .unit) (unpack (.int .i64)) (fun x => math_bits_OnesCount64 x.1)) := lq_math_bits_OnesCount64 ▸ c_math_bits_OnesCount64
end Go.Proofs.YtkpobmmabmelfaaDoorV
