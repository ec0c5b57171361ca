import Derived.Test.YtiicmhholjpcbaaVcTab
import Derived.Test.YtiicmhholjpcbaaDslices
namespace Go.Proofs.YtiicmhholjpcbaaV
open Go.Proofs
set_option linter.unusedVariables false
noncomputable def lf_slices_Index_int_int : List AV → Option AV := liftF (.pair (.sl (.int .i64)) (.pair (.int .i64) .unit)) (unpack (.int .i64)) (fun x => slices_Index_int_int x.1 x.2.1)
theorem lq_slices_Index_int_int : lf_slices_Index_int_int = liftF (.pair (.sl (.int .i64)) (.pair (.int .i64) .unit)) (unpack (.int .i64)) (fun x => slices_Index_int_int x.1 x.2.1) := rfl
attribute [irreducible] lf_slices_Index_int_int
theorem ck_slices_Index_int_int {vs : List AV} {k : AV → Prop} {x : ((.pair (.sl (.int .i64)) (.pair (.int .i64) .unit)) : Ty).den} {v : Int} (h1 : pks (.pair (.sl (.int .i64)) (.pair (.int .i64) .unit)) vs = some x) (h2 : slices_Index_int_int x.1 x.2.1 = some v) (h3 : k ((unpack (.int .i64)) v)) : callK (lf_slices_Index_int_int vs) k := by
  rw [lq_slices_Index_int_int]; exact callK_lift h1 h2 h3
def tt_slices_Index_int_int : List (Nat × Ty) := [(3, .int .i64), (36, .sl (.int .i64))]
def et_slices_Index_int_int : List (Nat × Nat) := [(36, 3)]
theorem tt_slices_Index_int_int_ok : subT tt tt_slices_Index_int_int = true := by kernel_rfl
theorem et_slices_Index_int_int_ok : subE et et_slices_Index_int_int = true := by kernel_rfl
noncomputable def fns_slices_Index_int_int : List (Nat × (List AV → Option AV)) := []
theorem fns_slices_Index_int_int_ok : FnsOk Go.Proofs.Try.prog fns_slices_Index_int_int := FnsOk.nil _
def slices_Index_int_int_S1 (u0 : AV) (u1 : AV) (u2 : AV) (x1 : Int) : St :=
  ⟨[(0, u0), (1, u1), (7, u2), (8, .int .i64 x1)], [], none⟩
def slices_Index_int_int_M1 : Msk := ⟨[0, 1, 7, 8], [], [], [], [], [], [], [], []⟩
def kp_slices_Index_int_int : List (Nat × List Nat) := [(0, [0, 1]), (1, [0, 1, 7, 8]), (2, [0, 1, 7, 8, 9]), (3, [0, 1, 5, 7, 8]), (4, [0, 1, 5, 7, 8, 16]), (5, [4]), (6, [0, 1, 7, 8]), (7, [4]), (4000000, []), (4000001, []), (4000002, []), (4000003, []), (4000004, []), (4000005, []), (4000006, []), (4000007, [])]
def od_slices_Index_int_int : List (Nat × Ord) := []
noncomputable def E_slices_Index_int_int : Env := ⟨0, 0, et_slices_Index_int_int, tt_slices_Index_int_int, fns_slices_Index_int_int, [], od_slices_Index_int_int, kp_slices_Index_int_int, none, []⟩
set_option maxRecDepth 100000 in
set_option maxHeartbeats 40000000 in
theorem c_slices_Index_int_int : PCon Go.Proofs.Try.prog 113 lf_slices_Index_int_int := by
  rw [lq_slices_Index_int_int]
  refine lift_conR (E := E_slices_Index_int_int) (c := bodyOf Try.f113) (nt := 19) (rs := [.tmp 4]) (ts := [3]) (EnvC.sub (off := 0) (nt := 0) (ords := od_slices_Index_int_int) (keep := kp_slices_Index_int_int) (yl := none) tt_ok et_ok fns_slices_Index_int_int_ok (PrsOk.nil _) (ItsOk.nil _) tt_slices_Index_int_int_ok et_slices_Index_int_int_ok) (PrOk.of mixed_ok) Go.Proofs.Try.func113 rfl (by decide) rfl rfl rfl (pureR_one (e := (.int .i64)) rfl) ?_
  intro x r hw hs
  repeat'
    (try (conv => whnf)
     first
       | (with_reducible have hs := letv_out hs)
       | (refine draw_and (by kernel_rfl) ?_)
       | (refine both_mk ?_ ?_)
       | (refine br_bool (fun h => ?_) (fun h => ?_) <;> first | have hs := cT h hs | have hs := cF h hs)
       | refine chk_elim hs fun hs => ?_
       | (have hs := letv_out hs)
       | exact fin_some hs rfl
       | (intro b hb; first | have hs := nilq_elim hs b hb | have hs := nilqn_elim hs b hb)
       | exact hJ1 _ hs
       | (have hs := cT rfl hs)
       | (have hs := cF rfl hs)
       | ((with_reducible have hs : loop (slices_Index_int_int_L1 _ _ _) _ = some _ := hs); refine vc_loopR (slices_Index_int_int_S1 _ _ _) slices_Index_int_int_M1 hs rfl ?_; intro J1 k1 x1 hJ1 hs)
       | (refine vc_loopR (slices_Index_int_int_S1 _ _ _) slices_Index_int_int_M1 hs rfl ?_; intro J1 k1 x1 hJ1 hs)
       | exact (none_ne hs).elim)
theorem cq_slices_Index_int_int : PCon Go.Proofs.Try.prog 113 (liftF (.pair (.sl (.int .i64)) (.pair (.int .i64) .unit)) (unpack (.int .i64)) (fun x => slices_Index_int_int x.1 x.2.1)) := lq_slices_Index_int_int ▸ c_slices_Index_int_int
noncomputable def lf_slices_Contains_int_int : List AV → Option AV := liftF (.pair (.sl (.int .i64)) (.pair (.int .i64) .unit)) (unpack .bool) (fun x => slices_Contains_int_int x.1 x.2.1)
theorem lq_slices_Contains_int_int : lf_slices_Contains_int_int = liftF (.pair (.sl (.int .i64)) (.pair (.int .i64) .unit)) (unpack .bool) (fun x => slices_Contains_int_int x.1 x.2.1) := rfl
attribute [irreducible] lf_slices_Contains_int_int
theorem ck_slices_Contains_int_int {vs : List AV} {k : AV → Prop} {x : ((.pair (.sl (.int .i64)) (.pair (.int .i64) .unit)) : Ty).den} {v : Bool} (h1 : pks (.pair (.sl (.int .i64)) (.pair (.int .i64) .unit)) vs = some x) (h2 : slices_Contains_int_int x.1 x.2.1 = some v) (h3 : k ((unpack .bool) v)) : callK (lf_slices_Contains_int_int vs) k := by
  rw [lq_slices_Contains_int_int]; exact callK_lift h1 h2 h3
def tt_slices_Contains_int_int : List (Nat × Ty) := [(3, .int .i64), (4, .bool), (36, .sl (.int .i64))]
def et_slices_Contains_int_int : List (Nat × Nat) := [(36, 3)]
theorem tt_slices_Contains_int_int_ok : subT tt tt_slices_Contains_int_int = true := by kernel_rfl
theorem et_slices_Contains_int_int_ok : subE et et_slices_Contains_int_int = true := by kernel_rfl
noncomputable def fns_slices_Contains_int_int : List (Nat × (List AV → Option AV)) := [(113, lf_slices_Index_int_int)]
theorem fns_slices_Contains_int_int_ok : FnsOk Go.Proofs.Try.prog fns_slices_Contains_int_int := FnsOk.cons c_slices_Index_int_int (FnsOk.nil _)
def kp_slices_Contains_int_int : List (Nat × List Nat) := [(0, [0, 1]), (1, [4]), (4000000, []), (4000001, [])]
def od_slices_Contains_int_int : List (Nat × Ord) := []
noncomputable def E_slices_Contains_int_int : Env := ⟨0, 0, et_slices_Contains_int_int, tt_slices_Contains_int_int, fns_slices_Contains_int_int, [], od_slices_Contains_int_int, kp_slices_Contains_int_int, none, []⟩
set_option maxRecDepth 100000 in
set_option maxHeartbeats 40000000 in
theorem c_slices_Contains_int_int : PCon Go.Proofs.Try.prog 96 lf_slices_Contains_int_int := by
  rw [lq_slices_Contains_int_int]
  refine lift_conR (E := E_slices_Contains_int_int) (c := bodyOf Try.f96) (nt := 9) (rs := [.tmp 4]) (ts := [4]) (EnvC.sub (off := 0) (nt := 0) (ords := od_slices_Contains_int_int) (keep := kp_slices_Contains_int_int) (yl := none) tt_ok et_ok fns_slices_Contains_int_int_ok (PrsOk.nil _) (ItsOk.nil _) tt_slices_Contains_int_int_ok et_slices_Contains_int_int_ok) (PrOk.of mixed_ok) Go.Proofs.Try.func96 rfl (by decide) rfl rfl rfl (pureR_one (e := .bool) rfl) ?_
  intro x r hw hs
  repeat'
    (try (conv => whnf)
     first
       | (with_reducible have hs := letv_out hs)
       | (refine draw_and (by kernel_rfl) ?_)
       | (refine both_mk ?_ ?_)
       | (refine br_bool (fun h => ?_) (fun h => ?_) <;> first | have hs := cT h hs | have hs := cF h hs)
       | (refine bind_elim hs fun v hb hs => ?_; first | refine ck_slices_Index_int_int rfl hb ?_)
       | refine chk_elim hs fun hs => ?_
       | (have hs := letv_out hs)
       | exact fin_some hs rfl
       | (intro b hb; first | have hs := nilq_elim hs b hb | have hs := nilqn_elim hs b hb)
       | (have hs := cT rfl hs)
       | (have hs := cF rfl hs)
       | exact (none_ne hs).elim)
theorem cq_slices_Contains_int_int : PCon Go.Proofs.Try.prog 96 (liftF (.pair (.sl (.int .i64)) (.pair (.int .i64) .unit)) (unpack .bool) (fun x => slices_Contains_int_int x.1 x.2.1)) := lq_slices_Contains_int_int ▸ c_slices_Contains_int_int
end Go.Proofs.YtiicmhholjpcbaaV
