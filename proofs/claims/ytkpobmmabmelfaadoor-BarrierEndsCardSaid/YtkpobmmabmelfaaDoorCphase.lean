import Derived.Test.YtkpobmmabmelfaaDoorVcTab
import Derived.Test.YtkpobmmabmelfaaDoorDphase
namespace Go.Proofs.YtkpobmmabmelfaaDoorV
open Go.Proofs
set_option linter.unusedVariables false
noncomputable def lf_phase_Fine : List AV → Option AV := liftF (.pair (.int .i64) (.pair (.int .i64) .unit)) (unpack .bool) (fun x => phase_Fine x.1 x.2.1)
theorem lq_phase_Fine : lf_phase_Fine = liftF (.pair (.int .i64) (.pair (.int .i64) .unit)) (unpack .bool) (fun x => phase_Fine x.1 x.2.1) := rfl
attribute [irreducible] lf_phase_Fine
theorem ck_phase_Fine {vs : List AV} {k : AV → Prop} {x : ((.pair (.int .i64) (.pair (.int .i64) .unit)) : Ty).den} {v : Bool} (h1 : pks (.pair (.int .i64) (.pair (.int .i64) .unit)) vs = some x) (h2 : phase_Fine x.1 x.2.1 = some v) (h3 : k ((unpack .bool) v)) : callK (lf_phase_Fine vs) k := by
  rw [lq_phase_Fine]; exact callK_lift h1 h2 h3
def tt_phase_Fine : List (Nat × Ty) := [(3, .int .i64), (4, .bool)]
def et_phase_Fine : List (Nat × Nat) := []
theorem tt_phase_Fine_ok : subT tt tt_phase_Fine = true := by kernel_rfl
theorem et_phase_Fine_ok : subE et et_phase_Fine = true := by kernel_rfl
noncomputable def fns_phase_Fine : List (Nat × (List AV → Option AV)) := []
theorem fns_phase_Fine_ok : FnsOk Go.Proofs.Tryd.prog fns_phase_Fine := FnsOk.nil _
def kp_phase_Fine : List (Nat × List Nat) := [(0, [0, 1]), (1, [4]), (4000000, []), (4000001, [])]
def od_phase_Fine : List (Nat × Ord) := []
noncomputable def E_phase_Fine : Env := ⟨0, 0, et_phase_Fine, tt_phase_Fine, fns_phase_Fine, [], od_phase_Fine, kp_phase_Fine, none, []⟩
set_option maxRecDepth 100000 in
set_option maxHeartbeats 40000000 in
theorem c_phase_Fine : PCon Go.Proofs.Tryd.prog 78 lf_phase_Fine := by
  rw [lq_phase_Fine]
  refine lift_conR (E := E_phase_Fine) (c := bodyOf Tryd.f78) (nt := 20) (rs := [.tmp 4]) (ts := [4]) (EnvC.sub (off := 0) (nt := 0) (ords := od_phase_Fine) (keep := kp_phase_Fine) (yl := none) tt_ok et_ok fns_phase_Fine_ok (PrsOk.nil _) (ItsOk.nil _) tt_phase_Fine_ok et_phase_Fine_ok) (PrOk.of mixed_ok) Go.Proofs.Tryd.func78 rfl (by decide) rfl rfl rfl (pureR_one (e := .bool) rfl) ?_
  intro x r hw hs
  repeat'
    (try (conv => whnf)
     first
       | (with_reducible have hs := letv_out hs)
       | (refine draw_and (by kernel_rfl) ?_)
       | (refine both_mk ?_ ?_)
       | (refine br_bool (fun h => ?_) (fun h => ?_) <;> first | have hs := cT h hs | have hs := cF h hs)
       | refine chk_elim hs fun hs => ?_
       | (have hs := letv_out hs)
       | exact fin_some hs rfl
       | (intro b hb; first | have hs := nilq_elim hs b hb | have hs := nilqn_elim hs b hb)
       | (have hs := cT rfl hs)
       | (have hs := cF rfl hs)
       | exact (none_ne hs).elim)
theorem cq_phase_Fine : PCon Go.Proofs.Tryd.prog 78 (liftF (.pair (.int .i64) (.pair (.int .i64) .unit)) (unpack .bool) (fun x => phase_Fine x.1 x.2.1)) := lq_phase_Fine ▸ c_phase_Fine
noncomputable def lf_phase_Left : List AV → Option AV := liftF (.pair (.int .i64) (.pair (.int .i64) .unit)) (unpack (.int .i64)) (fun x => phase_Left x.1 x.2.1)
theorem lq_phase_Left : lf_phase_Left = liftF (.pair (.int .i64) (.pair (.int .i64) .unit)) (unpack (.int .i64)) (fun x => phase_Left x.1 x.2.1) := rfl
attribute [irreducible] lf_phase_Left
theorem ck_phase_Left {vs : List AV} {k : AV → Prop} {x : ((.pair (.int .i64) (.pair (.int .i64) .unit)) : Ty).den} {v : Int} (h1 : pks (.pair (.int .i64) (.pair (.int .i64) .unit)) vs = some x) (h2 : phase_Left x.1 x.2.1 = some v) (h3 : k ((unpack (.int .i64)) v)) : callK (lf_phase_Left vs) k := by
  rw [lq_phase_Left]; exact callK_lift h1 h2 h3
def tt_phase_Left : List (Nat × Ty) := [(3, .int .i64), (4, .bool)]
def et_phase_Left : List (Nat × Nat) := []
theorem tt_phase_Left_ok : subT tt tt_phase_Left = true := by kernel_rfl
theorem et_phase_Left_ok : subE et et_phase_Left = true := by kernel_rfl
noncomputable def fns_phase_Left : List (Nat × (List AV → Option AV)) := [(78, lf_phase_Fine)]
theorem fns_phase_Left_ok : FnsOk Go.Proofs.Tryd.prog fns_phase_Left := FnsOk.cons c_phase_Fine (FnsOk.nil _)
def kp_phase_Left : List (Nat × List Nat) := [(0, [0, 1]), (1, [0, 1, 8]), (2, [4]), (3, [4]), (4000000, []), (4000001, []), (4000002, []), (4000003, [])]
def od_phase_Left : List (Nat × Ord) := []
noncomputable def E_phase_Left : Env := ⟨0, 0, et_phase_Left, tt_phase_Left, fns_phase_Left, [], od_phase_Left, kp_phase_Left, none, []⟩
set_option maxRecDepth 100000 in
set_option maxHeartbeats 40000000 in
theorem c_phase_Left : PCon Go.Proofs.Tryd.prog 65 lf_phase_Left := by
  rw [lq_phase_Left]
  refine lift_conR (E := E_phase_Left) (c := bodyOf Tryd.f65) (nt := 12) (rs := [.tmp 4]) (ts := [3]) (EnvC.sub (off := 0) (nt := 0) (ords := od_phase_Left) (keep := kp_phase_Left) (yl := none) tt_ok et_ok fns_phase_Left_ok (PrsOk.nil _) (ItsOk.nil _) tt_phase_Left_ok et_phase_Left_ok) (PrOk.of mixed_ok) Go.Proofs.Tryd.func65 rfl (by decide) rfl rfl rfl (pureR_one (e := (.int .i64)) rfl) ?_
  intro x r hw hs
  repeat'
    (try (conv => whnf)
     first
       | (with_reducible have hs := letv_out hs)
       | (refine draw_and (by kernel_rfl) ?_)
       | (refine both_mk ?_ ?_)
       | (refine br_bool (fun h => ?_) (fun h => ?_) <;> first | have hs := cT h hs | have hs := cF h hs)
       | (refine bind_elim hs fun v hb hs => ?_; first | refine ck_phase_Fine rfl hb ?_)
       | refine chk_elim hs fun hs => ?_
       | (have hs := letv_out hs)
       | exact fin_some hs rfl
       | (intro b hb; first | have hs := nilq_elim hs b hb | have hs := nilqn_elim hs b hb)
       | (have hs := cT rfl hs)
       | (have hs := cF rfl hs)
       | exact (none_ne hs).elim)
theorem cq_phase_Left : PCon Go.Proofs.Tryd.prog 65 (liftF (.pair (.int .i64) (.pair (.int .i64) .unit)) (unpack (.int .i64)) (fun x => phase_Left x.1 x.2.1)) := lq_phase_Left ▸ c_phase_Left
noncomputable def lf_phase_Next : List AV → Option AV := liftF (.pair (.int .i64) (.pair (.int .i64) .unit)) (unpR (.pair (.int .i64) (.pair (.int .i64) .unit))) (fun x => phase_Next x.1 x.2.1)
theorem lq_phase_Next : lf_phase_Next = liftF (.pair (.int .i64) (.pair (.int .i64) .unit)) (unpR (.pair (.int .i64) (.pair (.int .i64) .unit))) (fun x => phase_Next x.1 x.2.1) := rfl
attribute [irreducible] lf_phase_Next
theorem ck_phase_Next {vs : List AV} {k : AV → Prop} {x : ((.pair (.int .i64) (.pair (.int .i64) .unit)) : Ty).den} {v : Int × Int × Unit} (h1 : pks (.pair (.int .i64) (.pair (.int .i64) .unit)) vs = some x) (h2 : phase_Next x.1 x.2.1 = some v) (h3 : k ((unpR (.pair (.int .i64) (.pair (.int .i64) .unit))) v)) : callK (lf_phase_Next vs) k := by
  rw [lq_phase_Next]; exact callK_lift h1 h2 h3
def tt_phase_Next : List (Nat × Ty) := [(3, .int .i64), (4, .bool), (40, .int .i64)]
def et_phase_Next : List (Nat × Nat) := []
theorem tt_phase_Next_ok : subT tt tt_phase_Next = true := by kernel_rfl
theorem et_phase_Next_ok : subE et et_phase_Next = true := by kernel_rfl
noncomputable def fns_phase_Next : List (Nat × (List AV → Option AV)) := [(78, lf_phase_Fine)]
theorem fns_phase_Next_ok : FnsOk Go.Proofs.Tryd.prog fns_phase_Next := FnsOk.cons c_phase_Fine (FnsOk.nil _)
def kp_phase_Next : List (Nat × List Nat) := [(0, [0, 1]), (1, [0, 1, 6]), (2, [4, 5]), (3, [0, 11]), (4, [4, 5]), (5, [4, 5]), (4000000, []), (4000001, []), (4000002, []), (4000003, []), (4000004, []), (4000005, [])]
def od_phase_Next : List (Nat × Ord) := []
noncomputable def E_phase_Next : Env := ⟨0, 0, et_phase_Next, tt_phase_Next, fns_phase_Next, [], od_phase_Next, kp_phase_Next, none, []⟩
set_option maxRecDepth 100000 in
set_option maxHeartbeats 40000000 in
theorem c_phase_Next : PCon Go.Proofs.Tryd.prog 62 lf_phase_Next := by
  rw [lq_phase_Next]
  refine lift_conR (E := E_phase_Next) (c := bodyOf Tryd.f62) (nt := 17) (rs := [.tmp 4, .tmp 5]) (ts := [3, 40]) (EnvC.sub (off := 0) (nt := 0) (ords := od_phase_Next) (keep := kp_phase_Next) (yl := none) tt_ok et_ok fns_phase_Next_ok (PrsOk.nil _) (ItsOk.nil _) tt_phase_Next_ok et_phase_Next_ok) (PrOk.of mixed_ok) Go.Proofs.Tryd.func62 rfl (by decide) rfl rfl rfl (pureR_many (e := (.pair (.int .i64) (.pair (.int .i64) .unit))) rfl) ?_
  intro x r hw hs
  repeat'
    (try (conv => whnf)
     first
       | (with_reducible have hs := letv_out hs)
       | (refine draw_and (by kernel_rfl) ?_)
       | (refine both_mk ?_ ?_)
       | (refine br_bool (fun h => ?_) (fun h => ?_) <;> first | have hs := cT h hs | have hs := cF h hs)
       | (refine bind_elim hs fun v hb hs => ?_; first | refine ck_phase_Fine rfl hb ?_)
       | refine chk_elim hs fun hs => ?_
       | (have hs := letv_out hs)
       | exact fin_some hs rfl
       | (intro b hb; first | have hs := nilq_elim hs b hb | have hs := nilqn_elim hs b hb)
       | (have hs := cT rfl hs)
       | (have hs := cF rfl hs)
       | exact (none_ne hs).elim)
theorem cq_phase_Next : PCon Go.Proofs.Tryd.prog 62 (liftF (.pair (.int .i64) (.pair (.int .i64) .unit)) (unpR (.pair (.int .i64) (.pair (.int .i64) .unit))) (fun x => phase_Next x.1 x.2.1)) := lq_phase_Next ▸ c_phase_Next
end Go.Proofs.YtkpobmmabmelfaaDoorV
