import Derived.Test.YtejedlpnejjnbaaSVcTab
import Derived.Test.YtejedlpnejjnbaaSDhandle
namespace Go.Proofs.YtejedlpnejjnbaaSV
open Go.Proofs
set_option linter.unusedVariables false
noncomputable def lf_handle_within : List AV → Option AV := liftF (.pair (.int .i64) (.pair (.int .i64) (.pair (.int .i64) .unit))) (unpack .bool) (fun x => handle_within x.1 x.2.1 x.2.2.1)
theorem lq_handle_within : lf_handle_within = liftF (.pair (.int .i64) (.pair (.int .i64) (.pair (.int .i64) .unit))) (unpack .bool) (fun x => handle_within x.1 x.2.1 x.2.2.1) := rfl
attribute [irreducible] lf_handle_within
theorem ck_handle_within {vs : List AV} {k : AV → Prop} {x : ((.pair (.int .i64) (.pair (.int .i64) (.pair (.int .i64) .unit))) : Ty).den} {v : Bool} (h1 : pks (.pair (.int .i64) (.pair (.int .i64) (.pair (.int .i64) .unit))) vs = some x) (h2 : handle_within x.1 x.2.1 x.2.2.1 = some v) (h3 : k ((unpack .bool) v)) : callK (lf_handle_within vs) k := by
  rw [lq_handle_within]; exact callK_lift h1 h2 h3
def tt_handle_within : List (Nat × Ty) := [(3, .int .i64), (4, .bool)]
def et_handle_within : List (Nat × Nat) := []
theorem tt_handle_within_ok : subT tt tt_handle_within = true := by kernel_rfl
theorem et_handle_within_ok : subE et et_handle_within = true := by kernel_rfl
noncomputable def fns_handle_within : List (Nat × (List AV → Option AV)) := []
theorem fns_handle_within_ok : FnsOk Go.Proofs.Try.prog fns_handle_within := FnsOk.nil _
def kp_handle_within : List (Nat × List Nat) := [(0, [0, 1, 2]), (1, [6]), (4000000, []), (4000001, [])]
def od_handle_within : List (Nat × Ord) := []
noncomputable def E_handle_within : Env := ⟨0, 0, et_handle_within, tt_handle_within, fns_handle_within, [], od_handle_within, kp_handle_within, none, []⟩
set_option maxRecDepth 100000 in
set_option maxHeartbeats 40000000 in
theorem c_handle_within : PCon Go.Proofs.Try.prog 53 lf_handle_within := by
  rw [lq_handle_within]
  refine lift_conR (E := E_handle_within) (c := bodyOf Try.f53) (nt := 15) (rs := [.tmp 6]) (ts := [4]) (EnvC.sub (off := 0) (nt := 0) (ords := od_handle_within) (keep := kp_handle_within) (yl := none) tt_ok et_ok fns_handle_within_ok (PrsOk.nil _) (ItsOk.nil _) tt_handle_within_ok et_handle_within_ok) (PrOk.of mixed_ok) Go.Proofs.Try.func53 rfl (by decide) rfl rfl rfl (pureR_one (e := .bool) rfl) ?_
  intro x r hw hs
  repeat'
    (try (conv => whnf)
     first
       | (with_reducible have hs := letv_out hs)
       | (refine draw_and (by kernel_rfl) ?_)
       | (refine both_mk ?_ ?_)
       | (refine br_bool (fun h => ?_) (fun h => ?_) <;> first | have hs := cT h hs | have hs := cF h hs)
       | refine chk_elim hs fun hs => ?_
       | (have hs := letv_out hs)
       | exact fin_some hs rfl
       | (intro b hb; first | have hs := nilq_elim hs b hb | have hs := nilqn_elim hs b hb)
       | (have hs := cT rfl hs)
       | (have hs := cF rfl hs)
       | exact (none_ne hs).elim)
theorem cq_handle_within : PCon Go.Proofs.Try.prog 53 (liftF (.pair (.int .i64) (.pair (.int .i64) (.pair (.int .i64) .unit))) (unpack .bool) (fun x => handle_within x.1 x.2.1 x.2.2.1)) := lq_handle_within ▸ c_handle_within
noncomputable def lf_handle_Fine : List AV → Option AV := liftF (.pair (.int .i64) .unit) (unpack .bool) (fun x => handle_Fine x.1)
theorem lq_handle_Fine : lf_handle_Fine = liftF (.pair (.int .i64) .unit) (unpack .bool) (fun x => handle_Fine x.1) := rfl
attribute [irreducible] lf_handle_Fine
theorem ck_handle_Fine {vs : List AV} {k : AV → Prop} {x : ((.pair (.int .i64) .unit) : Ty).den} {v : Bool} (h1 : pks (.pair (.int .i64) .unit) vs = some x) (h2 : handle_Fine x.1 = some v) (h3 : k ((unpack .bool) v)) : callK (lf_handle_Fine vs) k := by
  rw [lq_handle_Fine]; exact callK_lift h1 h2 h3
def tt_handle_Fine : List (Nat × Ty) := [(3, .int .i64), (4, .bool)]
def et_handle_Fine : List (Nat × Nat) := []
theorem tt_handle_Fine_ok : subT tt tt_handle_Fine = true := by kernel_rfl
theorem et_handle_Fine_ok : subE et et_handle_Fine = true := by kernel_rfl
noncomputable def fns_handle_Fine : List (Nat × (List AV → Option AV)) := [(53, lf_handle_within)]
theorem fns_handle_Fine_ok : FnsOk Go.Proofs.Try.prog fns_handle_Fine := FnsOk.cons c_handle_within (FnsOk.nil _)
def kp_handle_Fine : List (Nat × List Nat) := [(0, [0]), (1, [2]), (4000000, []), (4000001, [])]
def od_handle_Fine : List (Nat × Ord) := []
noncomputable def E_handle_Fine : Env := ⟨0, 0, et_handle_Fine, tt_handle_Fine, fns_handle_Fine, [], od_handle_Fine, kp_handle_Fine, none, []⟩
set_option maxRecDepth 100000 in
set_option maxHeartbeats 40000000 in
theorem c_handle_Fine : PCon Go.Proofs.Try.prog 47 lf_handle_Fine := by
  rw [lq_handle_Fine]
  refine lift_conR (E := E_handle_Fine) (c := bodyOf Try.f47) (nt := 5) (rs := [.tmp 2]) (ts := [4]) (EnvC.sub (off := 0) (nt := 0) (ords := od_handle_Fine) (keep := kp_handle_Fine) (yl := none) tt_ok et_ok fns_handle_Fine_ok (PrsOk.nil _) (ItsOk.nil _) tt_handle_Fine_ok et_handle_Fine_ok) (PrOk.of mixed_ok) Go.Proofs.Try.func47 rfl (by decide) rfl rfl rfl (pureR_one (e := .bool) rfl) ?_
  intro x r hw hs
  repeat'
    (try (conv => whnf)
     first
       | (with_reducible have hs := letv_out hs)
       | (refine draw_and (by kernel_rfl) ?_)
       | (refine both_mk ?_ ?_)
       | (refine br_bool (fun h => ?_) (fun h => ?_) <;> first | have hs := cT h hs | have hs := cF h hs)
       | (refine bind_elim hs fun v hb hs => ?_; first | refine ck_handle_within rfl hb ?_)
       | refine chk_elim hs fun hs => ?_
       | (have hs := letv_out hs)
       | exact fin_some hs rfl
       | (intro b hb; first | have hs := nilq_elim hs b hb | have hs := nilqn_elim hs b hb)
       | (have hs := cT rfl hs)
       | (have hs := cF rfl hs)
       | exact (none_ne hs).elim)
theorem cq_handle_Fine : PCon Go.Proofs.Try.prog 47 (liftF (.pair (.int .i64) .unit) (unpack .bool) (fun x => handle_Fine x.1)) := lq_handle_Fine ▸ c_handle_Fine
noncomputable def lf_handle_Slot : List AV → Option AV := liftF (.pair (.int .i64) .unit) (unpack (.int .i64)) (fun x => handle_Slot x.1)
theorem lq_handle_Slot : lf_handle_Slot = liftF (.pair (.int .i64) .unit) (unpack (.int .i64)) (fun x => handle_Slot x.1) := rfl
attribute [irreducible] lf_handle_Slot
theorem ck_handle_Slot {vs : List AV} {k : AV → Prop} {x : ((.pair (.int .i64) .unit) : Ty).den} {v : Int} (h1 : pks (.pair (.int .i64) .unit) vs = some x) (h2 : handle_Slot x.1 = some v) (h3 : k ((unpack (.int .i64)) v)) : callK (lf_handle_Slot vs) k := by
  rw [lq_handle_Slot]; exact callK_lift h1 h2 h3
def tt_handle_Slot : List (Nat × Ty) := [(3, .int .i64), (4, .bool)]
def et_handle_Slot : List (Nat × Nat) := []
theorem tt_handle_Slot_ok : subT tt tt_handle_Slot = true := by kernel_rfl
theorem et_handle_Slot_ok : subE et et_handle_Slot = true := by kernel_rfl
noncomputable def fns_handle_Slot : List (Nat × (List AV → Option AV)) := [(47, lf_handle_Fine)]
theorem fns_handle_Slot_ok : FnsOk Go.Proofs.Try.prog fns_handle_Slot := FnsOk.cons c_handle_Fine (FnsOk.nil _)
def kp_handle_Slot : List (Nat × List Nat) := [(0, [0]), (1, [0, 5]), (2, [2]), (3, [2]), (4000000, []), (4000001, []), (4000002, []), (4000003, [])]
def od_handle_Slot : List (Nat × Ord) := []
noncomputable def E_handle_Slot : Env := ⟨0, 0, et_handle_Slot, tt_handle_Slot, fns_handle_Slot, [], od_handle_Slot, kp_handle_Slot, none, []⟩
set_option maxRecDepth 100000 in
set_option maxHeartbeats 40000000 in
theorem c_handle_Slot : PCon Go.Proofs.Try.prog 29 lf_handle_Slot := by
  rw [lq_handle_Slot]
  refine lift_conR (E := E_handle_Slot) (c := bodyOf Try.f29) (nt := 8) (rs := [.tmp 2]) (ts := [3]) (EnvC.sub (off := 0) (nt := 0) (ords := od_handle_Slot) (keep := kp_handle_Slot) (yl := none) tt_ok et_ok fns_handle_Slot_ok (PrsOk.nil _) (ItsOk.nil _) tt_handle_Slot_ok et_handle_Slot_ok) (PrOk.of mixed_ok) Go.Proofs.Try.func29 rfl (by decide) rfl rfl rfl (pureR_one (e := (.int .i64)) rfl) ?_
  intro x r hw hs
  repeat'
    (try (conv => whnf)
     first
       | (with_reducible have hs := letv_out hs)
       | (refine draw_and (by kernel_rfl) ?_)
       | (refine both_mk ?_ ?_)
       | (refine br_bool (fun h => ?_) (fun h => ?_) <;> first | have hs := cT h hs | have hs := cF h hs)
       | (refine bind_elim hs fun v hb hs => ?_; first | refine ck_handle_Fine rfl hb ?_)
       | refine chk_elim hs fun hs => ?_
       | (have hs := letv_out hs)
       | exact fin_some hs rfl
       | (intro b hb; first | have hs := nilq_elim hs b hb | have hs := nilqn_elim hs b hb)
       | (have hs := cT rfl hs)
       | (have hs := cF rfl hs)
       | exact (none_ne hs).elim)
theorem cq_handle_Slot : PCon Go.Proofs.Try.prog 29 (liftF (.pair (.int .i64) .unit) (unpack (.int .i64)) (fun x => handle_Slot x.1)) := lq_handle_Slot ▸ c_handle_Slot
noncomputable def lf_handle_Gen : List AV → Option AV := liftF (.pair (.int .i64) .unit) (unpack (.int .i64)) (fun x => handle_Gen x.1)
theorem lq_handle_Gen : lf_handle_Gen = liftF (.pair (.int .i64) .unit) (unpack (.int .i64)) (fun x => handle_Gen x.1) := rfl
attribute [irreducible] lf_handle_Gen
theorem ck_handle_Gen {vs : List AV} {k : AV → Prop} {x : ((.pair (.int .i64) .unit) : Ty).den} {v : Int} (h1 : pks (.pair (.int .i64) .unit) vs = some x) (h2 : handle_Gen x.1 = some v) (h3 : k ((unpack (.int .i64)) v)) : callK (lf_handle_Gen vs) k := by
  rw [lq_handle_Gen]; exact callK_lift h1 h2 h3
def tt_handle_Gen : List (Nat × Ty) := [(3, .int .i64), (4, .bool)]
def et_handle_Gen : List (Nat × Nat) := []
theorem tt_handle_Gen_ok : subT tt tt_handle_Gen = true := by kernel_rfl
theorem et_handle_Gen_ok : subE et et_handle_Gen = true := by kernel_rfl
noncomputable def fns_handle_Gen : List (Nat × (List AV → Option AV)) := [(47, lf_handle_Fine)]
theorem fns_handle_Gen_ok : FnsOk Go.Proofs.Try.prog fns_handle_Gen := FnsOk.cons c_handle_Fine (FnsOk.nil _)
def kp_handle_Gen : List (Nat × List Nat) := [(0, [0]), (1, [0, 5]), (2, [2]), (3, [2]), (4000000, []), (4000001, []), (4000002, []), (4000003, [])]
def od_handle_Gen : List (Nat × Ord) := []
noncomputable def E_handle_Gen : Env := ⟨0, 0, et_handle_Gen, tt_handle_Gen, fns_handle_Gen, [], od_handle_Gen, kp_handle_Gen, none, []⟩
set_option maxRecDepth 100000 in
set_option maxHeartbeats 40000000 in
theorem c_handle_Gen : PCon Go.Proofs.Try.prog 30 lf_handle_Gen := by
  rw [lq_handle_Gen]
  refine lift_conR (E := E_handle_Gen) (c := bodyOf Try.f30) (nt := 8) (rs := [.tmp 2]) (ts := [3]) (EnvC.sub (off := 0) (nt := 0) (ords := od_handle_Gen) (keep := kp_handle_Gen) (yl := none) tt_ok et_ok fns_handle_Gen_ok (PrsOk.nil _) (ItsOk.nil _) tt_handle_Gen_ok et_handle_Gen_ok) (PrOk.of mixed_ok) Go.Proofs.Try.func30 rfl (by decide) rfl rfl rfl (pureR_one (e := (.int .i64)) rfl) ?_
  intro x r hw hs
  repeat'
    (try (conv => whnf)
     first
       | (with_reducible have hs := letv_out hs)
       | (refine draw_and (by kernel_rfl) ?_)
       | (refine both_mk ?_ ?_)
       | (refine br_bool (fun h => ?_) (fun h => ?_) <;> first | have hs := cT h hs | have hs := cF h hs)
       | (refine bind_elim hs fun v hb hs => ?_; first | refine ck_handle_Fine rfl hb ?_)
       | refine chk_elim hs fun hs => ?_
       | (have hs := letv_out hs)
       | exact fin_some hs rfl
       | (intro b hb; first | have hs := nilq_elim hs b hb | have hs := nilqn_elim hs b hb)
       | (have hs := cT rfl hs)
       | (have hs := cF rfl hs)
       | exact (none_ne hs).elim)
theorem cq_handle_Gen : PCon Go.Proofs.Try.prog 30 (liftF (.pair (.int .i64) .unit) (unpack (.int .i64)) (fun x => handle_Gen x.1)) := lq_handle_Gen ▸ c_handle_Gen
noncomputable def lf_handle_Make : List AV → Option AV := liftF (.pair (.int .i64) (.pair (.int .i64) .unit)) (unpR (.pair (.int .i64) (.pair (.int .i64) .unit))) (fun x => handle_Make x.1 x.2.1)
theorem lq_handle_Make : lf_handle_Make = liftF (.pair (.int .i64) (.pair (.int .i64) .unit)) (unpR (.pair (.int .i64) (.pair (.int .i64) .unit))) (fun x => handle_Make x.1 x.2.1) := rfl
attribute [irreducible] lf_handle_Make
theorem ck_handle_Make {vs : List AV} {k : AV → Prop} {x : ((.pair (.int .i64) (.pair (.int .i64) .unit)) : Ty).den} {v : Int × Int × Unit} (h1 : pks (.pair (.int .i64) (.pair (.int .i64) .unit)) vs = some x) (h2 : handle_Make x.1 x.2.1 = some v) (h3 : k ((unpR (.pair (.int .i64) (.pair (.int .i64) .unit))) v)) : callK (lf_handle_Make vs) k := by
  rw [lq_handle_Make]; exact callK_lift h1 h2 h3
def tt_handle_Make : List (Nat × Ty) := [(3, .int .i64), (4, .bool), (27, .int .i64)]
def et_handle_Make : List (Nat × Nat) := []
theorem tt_handle_Make_ok : subT tt tt_handle_Make = true := by kernel_rfl
theorem et_handle_Make_ok : subE et et_handle_Make = true := by kernel_rfl
noncomputable def fns_handle_Make : List (Nat × (List AV → Option AV)) := [(53, lf_handle_within)]
theorem fns_handle_Make_ok : FnsOk Go.Proofs.Try.prog fns_handle_Make := FnsOk.cons c_handle_within (FnsOk.nil _)
def kp_handle_Make : List (Nat × List Nat) := [(0, [0, 1]), (1, [0, 1, 13]), (2, [4, 5]), (3, [4, 5]), (4000000, []), (4000001, []), (4000002, []), (4000003, [])]
def od_handle_Make : List (Nat × Ord) := []
noncomputable def E_handle_Make : Env := ⟨0, 0, et_handle_Make, tt_handle_Make, fns_handle_Make, [], od_handle_Make, kp_handle_Make, none, []⟩
set_option maxRecDepth 100000 in
set_option maxHeartbeats 40000000 in
theorem c_handle_Make : PCon Go.Proofs.Try.prog 36 lf_handle_Make := by
  rw [lq_handle_Make]
  refine lift_conR (E := E_handle_Make) (c := bodyOf Try.f36) (nt := 18) (rs := [.tmp 4, .tmp 5]) (ts := [3, 27]) (EnvC.sub (off := 0) (nt := 0) (ords := od_handle_Make) (keep := kp_handle_Make) (yl := none) tt_ok et_ok fns_handle_Make_ok (PrsOk.nil _) (ItsOk.nil _) tt_handle_Make_ok et_handle_Make_ok) (PrOk.of mixed_ok) Go.Proofs.Try.func36 rfl (by decide) rfl rfl rfl (pureR_many (e := (.pair (.int .i64) (.pair (.int .i64) .unit))) rfl) ?_
  intro x r hw hs
  repeat'
    (try (conv => whnf)
     first
       | (with_reducible have hs := letv_out hs)
       | (refine draw_and (by kernel_rfl) ?_)
       | (refine both_mk ?_ ?_)
       | (refine br_bool (fun h => ?_) (fun h => ?_) <;> first | have hs := cT h hs | have hs := cF h hs)
       | (refine bind_elim hs fun v hb hs => ?_; first | refine ck_handle_within rfl hb ?_)
       | refine chk_elim hs fun hs => ?_
       | (have hs := letv_out hs)
       | exact fin_some hs rfl
       | (intro b hb; first | have hs := nilq_elim hs b hb | have hs := nilqn_elim hs b hb)
       | (have hs := cT rfl hs)
       | (have hs := cF rfl hs)
       | exact (none_ne hs).elim)
theorem cq_handle_Make : PCon Go.Proofs.Try.prog 36 (liftF (.pair (.int .i64) (.pair (.int .i64) .unit)) (unpR (.pair (.int .i64) (.pair (.int .i64) .unit))) (fun x => handle_Make x.1 x.2.1)) := lq_handle_Make ▸ c_handle_Make
end Go.Proofs.YtejedlpnejjnbaaSV
