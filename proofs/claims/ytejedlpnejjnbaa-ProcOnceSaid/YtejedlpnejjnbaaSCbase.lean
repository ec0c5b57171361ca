import Derived.Test.YtejedlpnejjnbaaSVcTab
import Derived.Test.YtejedlpnejjnbaaSDbase
namespace Go.Proofs.YtejedlpnejjnbaaSV
open Go.Proofs
set_option linter.unusedVariables false
noncomputable def lf_word_Fine : List AV → Option AV := liftF (.pair (.int .i64) .unit) (unpack .bool) (fun x => word_Fine x.1)
theorem lq_word_Fine : lf_word_Fine = liftF (.pair (.int .i64) .unit) (unpack .bool) (fun x => word_Fine x.1) := rfl
attribute [irreducible] lf_word_Fine
theorem ck_word_Fine {vs : List AV} {k : AV → Prop} {x : ((.pair (.int .i64) .unit) : Ty).den} {v : Bool} (h1 : pks (.pair (.int .i64) .unit) vs = some x) (h2 : word_Fine x.1 = some v) (h3 : k ((unpack .bool) v)) : callK (lf_word_Fine vs) k := by
  rw [lq_word_Fine]; exact callK_lift h1 h2 h3
def tt_word_Fine : List (Nat × Ty) := [(3, .int .i64), (4, .bool)]
def et_word_Fine : List (Nat × Nat) := []
theorem tt_word_Fine_ok : subT tt tt_word_Fine = true := by kernel_rfl
theorem et_word_Fine_ok : subE et et_word_Fine = true := by kernel_rfl
noncomputable def fns_word_Fine : List (Nat × (List AV → Option AV)) := []
theorem fns_word_Fine_ok : FnsOk Go.Proofs.Try.prog fns_word_Fine := FnsOk.nil _
def kp_word_Fine : List (Nat × List Nat) := [(0, [0]), (1, [2]), (4000000, []), (4000001, [])]
def od_word_Fine : List (Nat × Ord) := []
noncomputable def E_word_Fine : Env := ⟨0, 0, et_word_Fine, tt_word_Fine, fns_word_Fine, [], od_word_Fine, kp_word_Fine, none, []⟩
set_option maxRecDepth 100000 in
set_option maxHeartbeats 40000000 in
theorem c_word_Fine : PCon Go.Proofs.Try.prog 41 lf_word_Fine := by
  rw [lq_word_Fine]
  refine lift_conR (E := E_word_Fine) (c := bodyOf Try.f41) (nt := 9) (rs := [.tmp 2]) (ts := [4]) (EnvC.sub (off := 0) (nt := 0) (ords := od_word_Fine) (keep := kp_word_Fine) (yl := none) tt_ok et_ok fns_word_Fine_ok (PrsOk.nil _) (ItsOk.nil _) tt_word_Fine_ok et_word_Fine_ok) (PrOk.of mixed_ok) Go.Proofs.Try.func41 rfl (by decide) rfl rfl rfl (pureR_one (e := .bool) rfl) ?_
  intro x r hw hs
  repeat'
    (try (conv => whnf)
     first
       | (with_reducible have hs := letv_out hs)
       | (refine draw_and (by kernel_rfl) ?_)
       | (refine both_mk ?_ ?_)
       | (refine br_bool (fun h => ?_) (fun h => ?_) <;> first | have hs := cT h hs | have hs := cF h hs)
       | refine chk_elim hs fun hs => ?_
       | (have hs := letv_out hs)
       | exact fin_some hs rfl
       | (intro b hb; first | have hs := nilq_elim hs b hb | have hs := nilqn_elim hs b hb)
       | (have hs := cT rfl hs)
       | (have hs := cF rfl hs)
       | exact (none_ne hs).elim)
theorem cq_word_Fine : PCon Go.Proofs.Try.prog 41 (liftF (.pair (.int .i64) .unit) (unpack .bool) (fun x => word_Fine x.1)) := lq_word_Fine ▸ c_word_Fine
noncomputable def lf_R08_Fine : List AV → Option AV := liftF (.pair (.int .i64) .unit) (unpack .bool) (fun x => R08_Fine x.1)
theorem lq_R08_Fine : lf_R08_Fine = liftF (.pair (.int .i64) .unit) (unpack .bool) (fun x => R08_Fine x.1) := rfl
attribute [irreducible] lf_R08_Fine
theorem ck_R08_Fine {vs : List AV} {k : AV → Prop} {x : ((.pair (.int .i64) .unit) : Ty).den} {v : Bool} (h1 : pks (.pair (.int .i64) .unit) vs = some x) (h2 : R08_Fine x.1 = some v) (h3 : k ((unpack .bool) v)) : callK (lf_R08_Fine vs) k := by
  rw [lq_R08_Fine]; exact callK_lift h1 h2 h3
def tt_R08_Fine : List (Nat × Ty) := [(3, .int .i64), (4, .bool)]
def et_R08_Fine : List (Nat × Nat) := []
theorem tt_R08_Fine_ok : subT tt tt_R08_Fine = true := by kernel_rfl
theorem et_R08_Fine_ok : subE et et_R08_Fine = true := by kernel_rfl
noncomputable def fns_R08_Fine : List (Nat × (List AV → Option AV)) := []
theorem fns_R08_Fine_ok : FnsOk Go.Proofs.Try.prog fns_R08_Fine := FnsOk.nil _
def kp_R08_Fine : List (Nat × List Nat) := [(0, [0]), (1, [2]), (4000000, []), (4000001, [])]
def od_R08_Fine : List (Nat × Ord) := []
noncomputable def E_R08_Fine : Env := ⟨0, 0, et_R08_Fine, tt_R08_Fine, fns_R08_Fine, [], od_R08_Fine, kp_R08_Fine, none, []⟩
set_option maxRecDepth 100000 in
set_option maxHeartbeats 40000000 in
theorem c_R08_Fine : PCon Go.Proofs.Try.prog 44 lf_R08_Fine := by
  rw [lq_R08_Fine]
  refine lift_conR (E := E_R08_Fine) (c := bodyOf Try.f44) (nt := 9) (rs := [.tmp 2]) (ts := [4]) (EnvC.sub (off := 0) (nt := 0) (ords := od_R08_Fine) (keep := kp_R08_Fine) (yl := none) tt_ok et_ok fns_R08_Fine_ok (PrsOk.nil _) (ItsOk.nil _) tt_R08_Fine_ok et_R08_Fine_ok) (PrOk.of mixed_ok) Go.Proofs.Try.func44 rfl (by decide) rfl rfl rfl (pureR_one (e := .bool) rfl) ?_
  intro x r hw hs
  repeat'
    (try (conv => whnf)
     first
       | (with_reducible have hs := letv_out hs)
       | (refine draw_and (by kernel_rfl) ?_)
       | (refine both_mk ?_ ?_)
       | (refine br_bool (fun h => ?_) (fun h => ?_) <;> first | have hs := cT h hs | have hs := cF h hs)
       | refine chk_elim hs fun hs => ?_
       | (have hs := letv_out hs)
       | exact fin_some hs rfl
       | (intro b hb; first | have hs := nilq_elim hs b hb | have hs := nilqn_elim hs b hb)
       | (have hs := cT rfl hs)
       | (have hs := cF rfl hs)
       | exact (none_ne hs).elim)
theorem cq_R08_Fine : PCon Go.Proofs.Try.prog 44 (liftF (.pair (.int .i64) .unit) (unpack .bool) (fun x => R08_Fine x.1)) := lq_R08_Fine ▸ c_R08_Fine
end Go.Proofs.YtejedlpnejjnbaaSV
