import Derived.Test.YtkpobmmabmelfaaDoorVcTab
import Derived.Test.YtkpobmmabmelfaaDoorDL21
import Derived.Test.YtkpobmmabmelfaaDoorCR02
import Derived.Test.YtkpobmmabmelfaaDoorCR04
import Derived.Test.YtkpobmmabmelfaaDoorCbitset
namespace Go.Proofs.YtkpobmmabmelfaaDoorV
open Go.Proofs
set_option linter.unusedVariables false
noncomputable def lf_L21_Plain : List AV → Option AV := liftF (.pair (.pair (.sl (.int .i64)) (.pair (.sl (.int .i64)) .unit)) .unit) (unpack (.pair (.sl (.int .i64)) (.pair (.sl (.int .i64)) .unit))) (fun x => L21_Plain x.1)
theorem lq_L21_Plain : lf_L21_Plain = liftF (.pair (.pair (.sl (.int .i64)) (.pair (.sl (.int .i64)) .unit)) .unit) (unpack (.pair (.sl (.int .i64)) (.pair (.sl (.int .i64)) .unit))) (fun x => L21_Plain x.1) := rfl
attribute [irreducible] lf_L21_Plain
theorem ck_L21_Plain {vs : List AV} {k : AV → Prop} {x : ((.pair (.pair (.sl (.int .i64)) (.pair (.sl (.int .i64)) .unit)) .unit) : Ty).den} {v : (List Int) × (List Int) × Unit} (h1 : pks (.pair (.pair (.sl (.int .i64)) (.pair (.sl (.int .i64)) .unit)) .unit) vs = some x) (h2 : L21_Plain x.1 = some v) (h3 : k ((unpack (.pair (.sl (.int .i64)) (.pair (.sl (.int .i64)) .unit))) v)) : callK (lf_L21_Plain vs) k := by
  rw [lq_L21_Plain]; exact callK_lift h1 h2 h3
def tt_L21_Plain : List (Nat × Ty) := [(24, .sl (.int .i64)), (26, .pair (.sl (.int .i64)) (.pair (.sl (.int .i64)) .unit))]
def et_L21_Plain : List (Nat × Nat) := [(24, 3)]
theorem tt_L21_Plain_ok : subT tt tt_L21_Plain = true := by kernel_rfl
theorem et_L21_Plain_ok : subE et et_L21_Plain = true := by kernel_rfl
noncomputable def fns_L21_Plain : List (Nat × (List AV → Option AV)) := [(92, lf_R04_Of)]
theorem fns_L21_Plain_ok : FnsOk Go.Proofs.Tryd.prog fns_L21_Plain := FnsOk.cons c_R04_Of (FnsOk.nil _)
def kp_L21_Plain : List (Nat × List Nat) := [(0, [1, 2]), (1, [2]), (4000000, [1, 2]), (4000001, [2])]
def od_L21_Plain : List (Nat × Ord) := [(1, (.one 0 (.one 1 (.one 3 (.one 4 (.one 2 (.one 100005 (.one 6 (.one 100007 .nil)))))))))]
noncomputable def E_L21_Plain : Env := ⟨0, 0, et_L21_Plain, tt_L21_Plain, fns_L21_Plain, [], od_L21_Plain, kp_L21_Plain, none, []⟩
set_option maxRecDepth 100000 in
set_option maxHeartbeats 40000000 in
theorem c_L21_Plain : PCon Go.Proofs.Tryd.prog 59 lf_L21_Plain := by
  rw [lq_L21_Plain]
  refine lift_conR (E := E_L21_Plain) (c := bodyOf Tryd.f59) (nt := 10) (rs := [.cell 2 26]) (ts := [26]) (EnvC.sub (off := 0) (nt := 0) (ords := od_L21_Plain) (keep := kp_L21_Plain) (yl := none) tt_ok et_ok fns_L21_Plain_ok (PrsOk.nil _) (ItsOk.nil _) tt_L21_Plain_ok et_L21_Plain_ok) (PrOk.of mixed_ok) Go.Proofs.Tryd.func59 rfl (by decide) rfl rfl rfl (pureR_one (e := (.pair (.sl (.int .i64)) (.pair (.sl (.int .i64)) .unit))) rfl) ?_
  intro x r hw hs
  repeat'
    (try (conv => whnf)
     first
       | (with_reducible have hs := letv_out hs)
       | (refine draw_and (by kernel_rfl) ?_)
       | (refine both_mk ?_ ?_)
       | (refine br_bool (fun h => ?_) (fun h => ?_) <;> first | have hs := cT h hs | have hs := cF h hs)
       | (refine bind_elim hs fun v hb hs => ?_; first | refine ck_R04_Of rfl hb ?_)
       | refine chk_elim hs fun hs => ?_
       | (have hs := letv_out hs)
       | exact fin_some hs rfl
       | (intro b hb; first | have hs := nilq_elim hs b hb | have hs := nilqn_elim hs b hb)
       | (have hs := cT rfl hs)
       | (have hs := cF rfl hs)
       | exact (none_ne hs).elim)
theorem cq_L21_Plain : PCon Go.Proofs.Tryd.prog 59 (liftF (.pair (.pair (.sl (.int .i64)) (.pair (.sl (.int .i64)) .unit)) .unit) (unpack (.pair (.sl (.int .i64)) (.pair (.sl (.int .i64)) .unit))) (fun x => L21_Plain x.1)) := lq_L21_Plain ▸ c_L21_Plain
noncomputable def lf_L21_To : List AV → Option AV := liftF (.pair (.pair (.sl (.int .i64)) (.pair (.sl (.int .i64)) .unit)) .unit) (unpack (.pair (.arr 4 (.int .u64)) (.pair (.arr 4 (.int .u64)) .unit))) (fun x => L21_To x.1)
theorem lq_L21_To : lf_L21_To = liftF (.pair (.pair (.sl (.int .i64)) (.pair (.sl (.int .i64)) .unit)) .unit) (unpack (.pair (.arr 4 (.int .u64)) (.pair (.arr 4 (.int .u64)) .unit))) (fun x => L21_To x.1) := rfl
attribute [irreducible] lf_L21_To
theorem ck_L21_To {vs : List AV} {k : AV → Prop} {x : ((.pair (.pair (.sl (.int .i64)) (.pair (.sl (.int .i64)) .unit)) .unit) : Ty).den} {v : (List Int) × (List Int) × Unit} (h1 : pks (.pair (.pair (.sl (.int .i64)) (.pair (.sl (.int .i64)) .unit)) .unit) vs = some x) (h2 : L21_To x.1 = some v) (h3 : k ((unpack (.pair (.arr 4 (.int .u64)) (.pair (.arr 4 (.int .u64)) .unit))) v)) : callK (lf_L21_To vs) k := by
  rw [lq_L21_To]; exact callK_lift h1 h2 h3
def tt_L21_To : List (Nat × Ty) := [(24, .sl (.int .i64)), (26, .pair (.sl (.int .i64)) (.pair (.sl (.int .i64)) .unit)), (36, .pair (.arr 4 (.int .u64)) (.pair (.arr 4 (.int .u64)) .unit))]
def et_L21_To : List (Nat × Nat) := [(24, 3)]
theorem tt_L21_To_ok : subT tt tt_L21_To = true := by kernel_rfl
theorem et_L21_To_ok : subE et et_L21_To = true := by kernel_rfl
noncomputable def fns_L21_To : List (Nat × (List AV → Option AV)) := [(93, lf_R04_Words)]
theorem fns_L21_To_ok : FnsOk Go.Proofs.Tryd.prog fns_L21_To := FnsOk.cons c_R04_Words (FnsOk.nil _)
def kp_L21_To : List (Nat × List Nat) := [(0, [1, 2]), (1, [2]), (4000000, [1, 2]), (4000001, [2])]
def od_L21_To : List (Nat × Ord) := [(1, (.one 0 (.one 1 (.one 3 (.one 4 (.one 2 (.one 100005 (.one 6 (.one 100007 .nil)))))))))]
noncomputable def E_L21_To : Env := ⟨0, 0, et_L21_To, tt_L21_To, fns_L21_To, [], od_L21_To, kp_L21_To, none, []⟩
set_option maxRecDepth 100000 in
set_option maxHeartbeats 40000000 in
theorem c_L21_To : PCon Go.Proofs.Tryd.prog 60 lf_L21_To := by
  rw [lq_L21_To]
  refine lift_conR (E := E_L21_To) (c := bodyOf Tryd.f60) (nt := 10) (rs := [.cell 2 36]) (ts := [36]) (EnvC.sub (off := 0) (nt := 0) (ords := od_L21_To) (keep := kp_L21_To) (yl := none) tt_ok et_ok fns_L21_To_ok (PrsOk.nil _) (ItsOk.nil _) tt_L21_To_ok et_L21_To_ok) (PrOk.of mixed_ok) Go.Proofs.Tryd.func60 rfl (by decide) rfl rfl rfl (pureR_one (e := (.pair (.arr 4 (.int .u64)) (.pair (.arr 4 (.int .u64)) .unit))) rfl) ?_
  intro x r hw hs
  repeat'
    (try (conv => whnf)
     first
       | (with_reducible have hs := letv_out hs)
       | (refine draw_and (by kernel_rfl) ?_)
       | (refine both_mk ?_ ?_)
       | (refine br_bool (fun h => ?_) (fun h => ?_) <;> first | have hs := cT h hs | have hs := cF h hs)
       | (refine bind_elim hs fun v hb hs => ?_; first | refine ck_R04_Words rfl hb ?_)
       | refine chk_elim hs fun hs => ?_
       | (have hs := letv_out hs)
       | exact fin_some hs rfl
       | (intro b hb; first | have hs := nilq_elim hs b hb | have hs := nilqn_elim hs b hb)
       | (have hs := cT rfl hs)
       | (have hs := cF rfl hs)
       | exact (none_ne hs).elim)
theorem cq_L21_To : PCon Go.Proofs.Tryd.prog 60 (liftF (.pair (.pair (.sl (.int .i64)) (.pair (.sl (.int .i64)) .unit)) .unit) (unpack (.pair (.arr 4 (.int .u64)) (.pair (.arr 4 (.int .u64)) .unit))) (fun x => L21_To x.1)) := lq_L21_To ▸ c_L21_To
noncomputable def lf_L21_Same : List AV → Option AV := liftF (.pair (.pair (.sl (.int .i64)) (.pair (.sl (.int .i64)) .unit)) (.pair (.pair (.sl (.int .i64)) (.pair (.sl (.int .i64)) .unit)) .unit)) (unpack .bool) (fun x => L21_Same x.1 x.2.1)
theorem lq_L21_Same : lf_L21_Same = liftF (.pair (.pair (.sl (.int .i64)) (.pair (.sl (.int .i64)) .unit)) (.pair (.pair (.sl (.int .i64)) (.pair (.sl (.int .i64)) .unit)) .unit)) (unpack .bool) (fun x => L21_Same x.1 x.2.1) := rfl
attribute [irreducible] lf_L21_Same
theorem ck_L21_Same {vs : List AV} {k : AV → Prop} {x : ((.pair (.pair (.sl (.int .i64)) (.pair (.sl (.int .i64)) .unit)) (.pair (.pair (.sl (.int .i64)) (.pair (.sl (.int .i64)) .unit)) .unit)) : Ty).den} {v : Bool} (h1 : pks (.pair (.pair (.sl (.int .i64)) (.pair (.sl (.int .i64)) .unit)) (.pair (.pair (.sl (.int .i64)) (.pair (.sl (.int .i64)) .unit)) .unit)) vs = some x) (h2 : L21_Same x.1 x.2.1 = some v) (h3 : k ((unpack .bool) v)) : callK (lf_L21_Same vs) k := by
  rw [lq_L21_Same]; exact callK_lift h1 h2 h3
def tt_L21_Same : List (Nat × Ty) := [(4, .bool), (24, .sl (.int .i64)), (26, .pair (.sl (.int .i64)) (.pair (.sl (.int .i64)) .unit))]
def et_L21_Same : List (Nat × Nat) := [(24, 3)]
theorem tt_L21_Same_ok : subT tt tt_L21_Same = true := by kernel_rfl
theorem et_L21_Same_ok : subE et et_L21_Same = true := by kernel_rfl
noncomputable def fns_L21_Same : List (Nat × (List AV → Option AV)) := [(20, lf_R02_Same)]
theorem fns_L21_Same_ok : FnsOk Go.Proofs.Tryd.prog fns_L21_Same := FnsOk.cons c_R02_Same (FnsOk.nil _)
def kp_L21_Same : List (Nat × List Nat) := [(0, [2, 3]), (1, [4]), (4000000, [2, 3]), (4000001, [])]
def od_L21_Same : List (Nat × Ord) := []
noncomputable def E_L21_Same : Env := ⟨0, 0, et_L21_Same, tt_L21_Same, fns_L21_Same, [], od_L21_Same, kp_L21_Same, none, []⟩
set_option maxRecDepth 100000 in
set_option maxHeartbeats 40000000 in
theorem c_L21_Same : PCon Go.Proofs.Tryd.prog 67 lf_L21_Same := by
  rw [lq_L21_Same]
  refine lift_conR (E := E_L21_Same) (c := bodyOf Tryd.f67) (nt := 17) (rs := [.tmp 4]) (ts := [4]) (EnvC.sub (off := 0) (nt := 0) (ords := od_L21_Same) (keep := kp_L21_Same) (yl := none) tt_ok et_ok fns_L21_Same_ok (PrsOk.nil _) (ItsOk.nil _) tt_L21_Same_ok et_L21_Same_ok) (PrOk.of mixed_ok) Go.Proofs.Tryd.func67 rfl (by decide) rfl rfl rfl (pureR_one (e := .bool) rfl) ?_
  intro x r hw hs
  repeat'
    (try (conv => whnf)
     first
       | (with_reducible have hs := letv_out hs)
       | (refine draw_and (by kernel_rfl) ?_)
       | (refine both_mk ?_ ?_)
       | (refine br_bool (fun h => ?_) (fun h => ?_) <;> first | have hs := cT h hs | have hs := cF h hs)
       | (refine bind_elim hs fun v hb hs => ?_; first | refine ck_R02_Same rfl hb ?_)
       | refine chk_elim hs fun hs => ?_
       | (have hs := letv_out hs)
       | exact fin_some hs rfl
       | (intro b hb; first | have hs := nilq_elim hs b hb | have hs := nilqn_elim hs b hb)
       | (have hs := cT rfl hs)
       | (have hs := cF rfl hs)
       | exact (none_ne hs).elim)
theorem cq_L21_Same : PCon Go.Proofs.Tryd.prog 67 (liftF (.pair (.pair (.sl (.int .i64)) (.pair (.sl (.int .i64)) .unit)) (.pair (.pair (.sl (.int .i64)) (.pair (.sl (.int .i64)) .unit)) .unit)) (unpack .bool) (fun x => L21_Same x.1 x.2.1)) := lq_L21_Same ▸ c_L21_Same
noncomputable def lf_L21_From : List AV → Option AV := liftF (.pair (.pair (.arr 4 (.int .u64)) (.pair (.arr 4 (.int .u64)) .unit)) .unit) (unpack (.pair (.sl (.int .i64)) (.pair (.sl (.int .i64)) .unit))) (fun x => L21_From x.1)
theorem lq_L21_From : lf_L21_From = liftF (.pair (.pair (.arr 4 (.int .u64)) (.pair (.arr 4 (.int .u64)) .unit)) .unit) (unpack (.pair (.sl (.int .i64)) (.pair (.sl (.int .i64)) .unit))) (fun x => L21_From x.1) := rfl
attribute [irreducible] lf_L21_From
theorem ck_L21_From {vs : List AV} {k : AV → Prop} {x : ((.pair (.pair (.arr 4 (.int .u64)) (.pair (.arr 4 (.int .u64)) .unit)) .unit) : Ty).den} {v : (List Int) × (List Int) × Unit} (h1 : pks (.pair (.pair (.arr 4 (.int .u64)) (.pair (.arr 4 (.int .u64)) .unit)) .unit) vs = some x) (h2 : L21_From x.1 = some v) (h3 : k ((unpack (.pair (.sl (.int .i64)) (.pair (.sl (.int .i64)) .unit))) v)) : callK (lf_L21_From vs) k := by
  rw [lq_L21_From]; exact callK_lift h1 h2 h3
def tt_L21_From : List (Nat × Ty) := [(26, .pair (.sl (.int .i64)) (.pair (.sl (.int .i64)) .unit)), (34, .arr 4 (.int .u64)), (36, .pair (.arr 4 (.int .u64)) (.pair (.arr 4 (.int .u64)) .unit))]
def et_L21_From : List (Nat × Nat) := []
theorem tt_L21_From_ok : subT tt tt_L21_From = true := by kernel_rfl
theorem et_L21_From_ok : subE et et_L21_From = true := by kernel_rfl
noncomputable def fns_L21_From : List (Nat × (List AV → Option AV)) := [(94, lf_bitset_List)]
theorem fns_L21_From_ok : FnsOk Go.Proofs.Tryd.prog fns_L21_From := FnsOk.cons c_bitset_List (FnsOk.nil _)
def kp_L21_From : List (Nat × List Nat) := [(0, [1, 2]), (1, [2]), (4000000, [1, 2]), (4000001, [2])]
def od_L21_From : List (Nat × Ord) := [(1, (.one 0 (.one 1 (.one 3 (.one 4 (.one 2 (.one 100005 (.one 6 (.one 100007 .nil)))))))))]
noncomputable def E_L21_From : Env := ⟨0, 0, et_L21_From, tt_L21_From, fns_L21_From, [], od_L21_From, kp_L21_From, none, []⟩
set_option maxRecDepth 100000 in
set_option maxHeartbeats 40000000 in
theorem c_L21_From : PCon Go.Proofs.Tryd.prog 68 lf_L21_From := by
  rw [lq_L21_From]
  refine lift_conR (E := E_L21_From) (c := bodyOf Tryd.f68) (nt := 10) (rs := [.cell 2 26]) (ts := [26]) (EnvC.sub (off := 0) (nt := 0) (ords := od_L21_From) (keep := kp_L21_From) (yl := none) tt_ok et_ok fns_L21_From_ok (PrsOk.nil _) (ItsOk.nil _) tt_L21_From_ok et_L21_From_ok) (PrOk.of mixed_ok) Go.Proofs.Tryd.func68 rfl (by decide) rfl rfl rfl (pureR_one (e := (.pair (.sl (.int .i64)) (.pair (.sl (.int .i64)) .unit))) rfl) ?_
  intro x r hw hs
  repeat'
    (try (conv => whnf)
     first
       | (with_reducible have hs := letv_out hs)
       | (refine draw_and (by kernel_rfl) ?_)
       | (refine both_mk ?_ ?_)
       | (refine br_bool (fun h => ?_) (fun h => ?_) <;> first | have hs := cT h hs | have hs := cF h hs)
       | (refine bind_elim hs fun v hb hs => ?_; first | refine ck_bitset_List rfl hb ?_)
       | refine chk_elim hs fun hs => ?_
       | (have hs := letv_out hs)
       | exact fin_some hs rfl
       | (intro b hb; first | have hs := nilq_elim hs b hb | have hs := nilqn_elim hs b hb)
       | (have hs := cT rfl hs)
       | (have hs := cF rfl hs)
       | exact (none_ne hs).elim)
theorem cq_L21_From : PCon Go.Proofs.Tryd.prog 68 (liftF (.pair (.pair (.arr 4 (.int .u64)) (.pair (.arr 4 (.int .u64)) .unit)) .unit) (unpack (.pair (.sl (.int .i64)) (.pair (.sl (.int .i64)) .unit))) (fun x => L21_From x.1)) := lq_L21_From ▸ c_L21_From
end Go.Proofs.YtkpobmmabmelfaaDoorV
