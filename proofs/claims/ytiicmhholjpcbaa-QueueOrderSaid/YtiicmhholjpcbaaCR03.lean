import Derived.Test.YtiicmhholjpcbaaVcTab
import Derived.Test.YtiicmhholjpcbaaDR03
namespace Go.Proofs.YtiicmhholjpcbaaV
open Go.Proofs
set_option linter.unusedVariables false
noncomputable def lf_R03_New : List AV → Option AV := liftF (.pair (.int .i64) (.pair (.int .i64) .unit)) (unpR (.pair (.pair (.int .i64) (.pair (.sl (.sl (.int .i64))) .unit)) (.pair (.int .i64) .unit))) (fun x => R03_New x.1 x.2.1)
theorem lq_R03_New : lf_R03_New = liftF (.pair (.int .i64) (.pair (.int .i64) .unit)) (unpR (.pair (.pair (.int .i64) (.pair (.sl (.sl (.int .i64))) .unit)) (.pair (.int .i64) .unit))) (fun x => R03_New x.1 x.2.1) := rfl
attribute [irreducible] lf_R03_New
theorem ck_R03_New {vs : List AV} {k : AV → Prop} {x : ((.pair (.int .i64) (.pair (.int .i64) .unit)) : Ty).den} {v : (Int × (List (List Int)) × Unit) × Int × Unit} (h1 : pks (.pair (.int .i64) (.pair (.int .i64) .unit)) vs = some x) (h2 : R03_New x.1 x.2.1 = some v) (h3 : k ((unpR (.pair (.pair (.int .i64) (.pair (.sl (.sl (.int .i64))) .unit)) (.pair (.int .i64) .unit))) v)) : callK (lf_R03_New vs) k := by
  rw [lq_R03_New]; exact callK_lift h1 h2 h3
def tt_R03_New : List (Nat × Ty) := [(3, .int .i64), (59, .sl (.sl (.int .i64))), (61, .pair (.int .i64) (.pair (.sl (.sl (.int .i64))) .unit))]
def et_R03_New : List (Nat × Nat) := [(59, 36)]
theorem tt_R03_New_ok : subT tt tt_R03_New = true := by kernel_rfl
theorem et_R03_New_ok : subE et et_R03_New = true := by kernel_rfl
noncomputable def fns_R03_New : List (Nat × (List AV → Option AV)) := []
theorem fns_R03_New_ok : FnsOk Go.Proofs.Try.prog fns_R03_New := FnsOk.nil _
def kp_R03_New : List (Nat × List Nat) := [(0, [0, 1, 4]), (1, [0, 1, 4, 19]), (2, [4, 5]), (3, [4, 5]), (4000000, [4]), (4000001, [4]), (4000002, [4]), (4000003, [4, 23])]
def od_R03_New : List (Nat × Ord) := []
noncomputable def E_R03_New : Env := ⟨0, 0, et_R03_New, tt_R03_New, fns_R03_New, [], od_R03_New, kp_R03_New, none, []⟩
set_option maxRecDepth 100000 in
set_option maxHeartbeats 40000000 in
theorem c_R03_New : PCon Go.Proofs.Try.prog 31 lf_R03_New := by
  rw [lq_R03_New]
  refine lift_conR (E := E_R03_New) (c := bodyOf Try.f31) (nt := 25) (rs := [.cell 4 61, .tmp 5]) (ts := [61, 3]) (EnvC.sub (off := 0) (nt := 0) (ords := od_R03_New) (keep := kp_R03_New) (yl := none) tt_ok et_ok fns_R03_New_ok (PrsOk.nil _) (ItsOk.nil _) tt_R03_New_ok et_R03_New_ok) (PrOk.of mixed_ok) Go.Proofs.Try.func31 rfl (by decide) rfl rfl rfl (pureR_many (e := (.pair (.pair (.int .i64) (.pair (.sl (.sl (.int .i64))) .unit)) (.pair (.int .i64) .unit))) rfl) ?_
  intro x r hw hs
  repeat'
    (try (conv => whnf)
     first
       | (with_reducible have hs := letv_out hs)
       | (refine draw_and (by kernel_rfl) ?_)
       | (refine both_mk ?_ ?_)
       | (refine br_bool (fun h => ?_) (fun h => ?_) <;> first | have hs := cT h hs | have hs := cF h hs)
       | refine chk_elim hs fun hs => ?_
       | (have hs := letv_out hs)
       | exact fin_some hs rfl
       | (intro b hb; first | have hs := nilq_elim hs b hb | have hs := nilqn_elim hs b hb)
       | (have hs := cT rfl hs)
       | (have hs := cF rfl hs)
       | exact (none_ne hs).elim)
theorem cq_R03_New : PCon Go.Proofs.Try.prog 31 (liftF (.pair (.int .i64) (.pair (.int .i64) .unit)) (unpR (.pair (.pair (.int .i64) (.pair (.sl (.sl (.int .i64))) .unit)) (.pair (.int .i64) .unit))) (fun x => R03_New x.1 x.2.1)) := lq_R03_New ▸ c_R03_New
noncomputable def lf_R03_is : List AV → Option AV := liftF (.pair (.pair (.int .i64) (.pair (.sl (.sl (.int .i64))) .unit)) (.pair (.int .i64) .unit)) (unpack .bool) (fun x => R03_is x.1 x.2.1)
theorem lq_R03_is : lf_R03_is = liftF (.pair (.pair (.int .i64) (.pair (.sl (.sl (.int .i64))) .unit)) (.pair (.int .i64) .unit)) (unpack .bool) (fun x => R03_is x.1 x.2.1) := rfl
attribute [irreducible] lf_R03_is
theorem ck_R03_is {vs : List AV} {k : AV → Prop} {x : ((.pair (.pair (.int .i64) (.pair (.sl (.sl (.int .i64))) .unit)) (.pair (.int .i64) .unit)) : Ty).den} {v : Bool} (h1 : pks (.pair (.pair (.int .i64) (.pair (.sl (.sl (.int .i64))) .unit)) (.pair (.int .i64) .unit)) vs = some x) (h2 : R03_is x.1 x.2.1 = some v) (h3 : k ((unpack .bool) v)) : callK (lf_R03_is vs) k := by
  rw [lq_R03_is]; exact callK_lift h1 h2 h3
def tt_R03_is : List (Nat × Ty) := [(3, .int .i64), (4, .bool), (59, .sl (.sl (.int .i64))), (61, .pair (.int .i64) (.pair (.sl (.sl (.int .i64))) .unit))]
def et_R03_is : List (Nat × Nat) := [(59, 36)]
theorem tt_R03_is_ok : subT tt tt_R03_is = true := by kernel_rfl
theorem et_R03_is_ok : subE et et_R03_is = true := by kernel_rfl
noncomputable def fns_R03_is : List (Nat × (List AV → Option AV)) := []
theorem fns_R03_is_ok : FnsOk Go.Proofs.Try.prog fns_R03_is := FnsOk.nil _
def kp_R03_is : List (Nat × List Nat) := [(0, [1, 2]), (1, [4]), (4000000, [2]), (4000001, [])]
def od_R03_is : List (Nat × Ord) := []
noncomputable def E_R03_is : Env := ⟨0, 0, et_R03_is, tt_R03_is, fns_R03_is, [], od_R03_is, kp_R03_is, none, []⟩
set_option maxRecDepth 100000 in
set_option maxHeartbeats 40000000 in
theorem c_R03_is : PCon Go.Proofs.Try.prog 87 lf_R03_is := by
  rw [lq_R03_is]
  refine lift_conR (E := E_R03_is) (c := bodyOf Try.f87) (nt := 14) (rs := [.tmp 4]) (ts := [4]) (EnvC.sub (off := 0) (nt := 0) (ords := od_R03_is) (keep := kp_R03_is) (yl := none) tt_ok et_ok fns_R03_is_ok (PrsOk.nil _) (ItsOk.nil _) tt_R03_is_ok et_R03_is_ok) (PrOk.of mixed_ok) Go.Proofs.Try.func87 rfl (by decide) rfl rfl rfl (pureR_one (e := .bool) rfl) ?_
  intro x r hw hs
  repeat'
    (try (conv => whnf)
     first
       | (with_reducible have hs := letv_out hs)
       | (refine draw_and (by kernel_rfl) ?_)
       | (refine both_mk ?_ ?_)
       | (refine br_bool (fun h => ?_) (fun h => ?_) <;> first | have hs := cT h hs | have hs := cF h hs)
       | refine chk_elim hs fun hs => ?_
       | (have hs := letv_out hs)
       | exact fin_some hs rfl
       | (intro b hb; first | have hs := nilq_elim hs b hb | have hs := nilqn_elim hs b hb)
       | (have hs := cT rfl hs)
       | (have hs := cF rfl hs)
       | exact (none_ne hs).elim)
theorem cq_R03_is : PCon Go.Proofs.Try.prog 87 (liftF (.pair (.pair (.int .i64) (.pair (.sl (.sl (.int .i64))) .unit)) (.pair (.int .i64) .unit)) (unpack .bool) (fun x => R03_is x.1 x.2.1)) := lq_R03_is ▸ c_R03_is
noncomputable def lf_R03_put : List AV → Option AV := liftF (.pair (.pair (.int .i64) (.pair (.sl (.sl (.int .i64))) .unit)) (.pair (.int .i64) (.pair (.sl (.int .i64)) .unit))) (unpack (.pair (.int .i64) (.pair (.sl (.sl (.int .i64))) .unit))) (fun x => R03_put x.1 x.2.1 x.2.2.1)
theorem lq_R03_put : lf_R03_put = liftF (.pair (.pair (.int .i64) (.pair (.sl (.sl (.int .i64))) .unit)) (.pair (.int .i64) (.pair (.sl (.int .i64)) .unit))) (unpack (.pair (.int .i64) (.pair (.sl (.sl (.int .i64))) .unit))) (fun x => R03_put x.1 x.2.1 x.2.2.1) := rfl
attribute [irreducible] lf_R03_put
theorem ck_R03_put {vs : List AV} {k : AV → Prop} {x : ((.pair (.pair (.int .i64) (.pair (.sl (.sl (.int .i64))) .unit)) (.pair (.int .i64) (.pair (.sl (.int .i64)) .unit))) : Ty).den} {v : Int × (List (List Int)) × Unit} (h1 : pks (.pair (.pair (.int .i64) (.pair (.sl (.sl (.int .i64))) .unit)) (.pair (.int .i64) (.pair (.sl (.int .i64)) .unit))) vs = some x) (h2 : R03_put x.1 x.2.1 x.2.2.1 = some v) (h3 : k ((unpack (.pair (.int .i64) (.pair (.sl (.sl (.int .i64))) .unit))) v)) : callK (lf_R03_put vs) k := by
  rw [lq_R03_put]; exact callK_lift h1 h2 h3
def tt_R03_put : List (Nat × Ty) := [(36, .sl (.int .i64)), (59, .sl (.sl (.int .i64))), (61, .pair (.int .i64) (.pair (.sl (.sl (.int .i64))) .unit))]
def et_R03_put : List (Nat × Nat) := [(36, 3), (59, 36)]
theorem tt_R03_put_ok : subT tt tt_R03_put = true := by kernel_rfl
theorem et_R03_put_ok : subE et et_R03_put = true := by kernel_rfl
noncomputable def fns_R03_put : List (Nat × (List AV → Option AV)) := []
theorem fns_R03_put_ok : FnsOk Go.Proofs.Try.prog fns_R03_put := FnsOk.nil _
def kp_R03_put : List (Nat × List Nat) := [(0, [1, 2, 3, 6]), (1, [1, 2, 3, 6]), (2, [3, 6]), (3, [6]), (4000000, [3, 6]), (4000001, [3, 6, 9]), (4000002, [3, 6, 9]), (4000003, [6, 9])]
def od_R03_put : List (Nat × Ord) := []
noncomputable def E_R03_put : Env := ⟨0, 0, et_R03_put, tt_R03_put, fns_R03_put, [], od_R03_put, kp_R03_put, none, []⟩
set_option maxRecDepth 100000 in
set_option maxHeartbeats 40000000 in
theorem c_R03_put : PCon Go.Proofs.Try.prog 88 lf_R03_put := by
  rw [lq_R03_put]
  refine lift_conR (E := E_R03_put) (c := bodyOf Try.f88) (nt := 17) (rs := [.cell 6 61]) (ts := [61]) (EnvC.sub (off := 0) (nt := 0) (ords := od_R03_put) (keep := kp_R03_put) (yl := none) tt_ok et_ok fns_R03_put_ok (PrsOk.nil _) (ItsOk.nil _) tt_R03_put_ok et_R03_put_ok) (PrOk.of mixed_ok) Go.Proofs.Try.func88 rfl (by decide) rfl rfl rfl (pureR_one (e := (.pair (.int .i64) (.pair (.sl (.sl (.int .i64))) .unit))) rfl) ?_
  intro x r hw hs
  repeat'
    (try (conv => whnf)
     first
       | (with_reducible have hs := letv_out hs)
       | (refine draw_and (by kernel_rfl) ?_)
       | (refine both_mk ?_ ?_)
       | (refine br_bool (fun h => ?_) (fun h => ?_) <;> first | have hs := cT h hs | have hs := cF h hs)
       | refine chk_elim hs fun hs => ?_
       | (have hs := letv_out hs)
       | exact fin_some hs rfl
       | (intro b hb; first | have hs := nilq_elim hs b hb | have hs := nilqn_elim hs b hb)
       | (have hs := cT rfl hs)
       | (have hs := cF rfl hs)
       | exact (none_ne hs).elim)
theorem cq_R03_put : PCon Go.Proofs.Try.prog 88 (liftF (.pair (.pair (.int .i64) (.pair (.sl (.sl (.int .i64))) .unit)) (.pair (.int .i64) (.pair (.sl (.int .i64)) .unit))) (unpack (.pair (.int .i64) (.pair (.sl (.sl (.int .i64))) .unit))) (fun x => R03_put x.1 x.2.1 x.2.2.1)) := lq_R03_put ▸ c_R03_put
noncomputable def lf_R03_Remove : List AV → Option AV := liftF (.pair (.pair (.int .i64) (.pair (.sl (.sl (.int .i64))) .unit)) (.pair (.int .i64) (.pair (.int .i64) .unit))) (unpR (.pair (.pair (.int .i64) (.pair (.sl (.sl (.int .i64))) .unit)) (.pair .bool .unit))) (fun x => R03_Remove x.1 x.2.1 x.2.2.1)
theorem lq_R03_Remove : lf_R03_Remove = liftF (.pair (.pair (.int .i64) (.pair (.sl (.sl (.int .i64))) .unit)) (.pair (.int .i64) (.pair (.int .i64) .unit))) (unpR (.pair (.pair (.int .i64) (.pair (.sl (.sl (.int .i64))) .unit)) (.pair .bool .unit))) (fun x => R03_Remove x.1 x.2.1 x.2.2.1) := rfl
attribute [irreducible] lf_R03_Remove
theorem ck_R03_Remove {vs : List AV} {k : AV → Prop} {x : ((.pair (.pair (.int .i64) (.pair (.sl (.sl (.int .i64))) .unit)) (.pair (.int .i64) (.pair (.int .i64) .unit))) : Ty).den} {v : (Int × (List (List Int)) × Unit) × Bool × Unit} (h1 : pks (.pair (.pair (.int .i64) (.pair (.sl (.sl (.int .i64))) .unit)) (.pair (.int .i64) (.pair (.int .i64) .unit))) vs = some x) (h2 : R03_Remove x.1 x.2.1 x.2.2.1 = some v) (h3 : k ((unpR (.pair (.pair (.int .i64) (.pair (.sl (.sl (.int .i64))) .unit)) (.pair .bool .unit))) v)) : callK (lf_R03_Remove vs) k := by
  rw [lq_R03_Remove]; exact callK_lift h1 h2 h3
def tt_R03_Remove : List (Nat × Ty) := [(3, .int .i64), (4, .bool), (36, .sl (.int .i64)), (59, .sl (.sl (.int .i64))), (61, .pair (.int .i64) (.pair (.sl (.sl (.int .i64))) .unit))]
def et_R03_Remove : List (Nat × Nat) := [(36, 3), (59, 36)]
theorem tt_R03_Remove_ok : subT tt tt_R03_Remove = true := by kernel_rfl
theorem et_R03_Remove_ok : subE et et_R03_Remove = true := by kernel_rfl
noncomputable def fns_R03_Remove : List (Nat × (List AV → Option AV)) := [(87, lf_R03_is), (88, lf_R03_put)]
theorem fns_R03_Remove_ok : FnsOk Go.Proofs.Try.prog fns_R03_Remove := FnsOk.cons c_R03_is (FnsOk.cons c_R03_put (FnsOk.nil _))
def R03_Remove_S1 (u0 : AV) (u1 : AV) (u2 : AV) (u3 : AV) (u4 : AV) (B6 : Blk) (B8 : Blk) (x1 : Int) : St :=
  ⟨[(1, u0), (2, u1), (3, u2), (6, u3), (8, u4), (9, .int .i64 x1)], [(3, B6), (6, B8)], none⟩
def R03_Remove_M1 : Msk := ⟨[1, 2, 3, 6, 8, 9], [3, 6], [], [], [], [], [], [], []⟩
def R03_Remove_Q1 (x2 : Int × List (List Int)) : St :=
  ⟨[(6, .ptr 6 []), (7, .bool true)], [(6, .var (.pair (.int .i64) (.pair (.sl (.sl (.int .i64))) .unit)) (.agg [.int .i64 x2.1, .ro (.sl (.int .i64)) x2.2]) false)], none⟩
def kp_R03_Remove : List (Nat × List Nat) := [(0, [1, 2, 3, 6]), (1, [1, 2, 3, 6, 13]), (2, [6, 7]), (3, [1, 2, 3, 6, 8]), (4, [1, 2, 3, 6, 8, 9]), (5, [1, 2, 3, 6, 8, 9, 23]), (6, [1, 2, 3, 6, 8, 9]), (7, [1, 2, 3, 6, 8, 9, 31]), (8, [6, 7]), (9, [6, 7]), (5000008, []), (4000008, [6]), (6000008, []), (4000000, [3, 6]), (4000001, [3, 6]), (4000002, [6]), (4000003, [3, 6]), (4000004, [3, 6]), (4000005, [3, 6]), (4000006, [3, 6]), (4000007, [3, 6]), (4000009, [6])]
def od_R03_Remove : List (Nat × Ord) := [(8, (.one 1 (.one 2 (.one 3 (.one 6 (.one 7 (.one 8 (.alt (.cons 0 (.alt (.cons 4 (.alt (.cons 5 (.one 200009 (.one 200010 (.one 200011 (.one 200012 (.one 13 .nil))))) (.cons 9 (.one 200005 (.one 200010 (.one 200011 (.one 200012 (.one 13 .nil))))) .nil))) (.cons 9 (.one 200004 (.one 200005 (.one 200010 (.one 200011 (.one 200012 (.one 13 .nil)))))) .nil))) (.cons 4 (.alt (.cons 0 (.alt (.cons 5 (.one 200009 (.one 200010 (.one 200011 (.one 200012 (.one 13 .nil))))) (.cons 9 (.one 200005 (.one 200010 (.one 200011 (.one 200012 (.one 13 .nil))))) .nil))) (.cons 5 (.alt (.cons 0 (.one 200009 (.one 200010 (.one 200011 (.one 200012 (.one 13 .nil))))) (.cons 9 (.alt (.cons 0 (.one 200010 (.one 200011 (.one 200012 (.one 13 .nil)))) (.cons 10 (.one 200000 (.one 200011 (.one 200012 (.one 13 .nil)))) .nil))) .nil))) (.cons 9 (.alt (.cons 0 (.one 200005 (.one 200010 (.one 200011 (.one 200012 (.one 13 .nil))))) (.cons 5 (.alt (.cons 0 (.one 200010 (.one 200011 (.one 200012 (.one 13 .nil)))) (.cons 10 (.one 200000 (.one 200011 (.one 200012 (.one 13 .nil)))) .nil))) .nil))) .nil)))) (.cons 9 (.alt (.cons 0 (.one 200004 (.one 200005 (.one 200010 (.one 200011 (.one 200012 (.one 13 .nil)))))) (.cons 4 (.alt (.cons 0 (.one 200005 (.one 200010 (.one 200011 (.one 200012 (.one 13 .nil))))) (.cons 5 (.alt (.cons 0 (.one 200010 (.one 200011 (.one 200012 (.one 13 .nil)))) (.cons 10 (.one 200000 (.one 200011 (.one 200012 (.one 13 .nil)))) .nil))) .nil))) .nil))) .nil))))))))))), (1000088, .nil)]
noncomputable def E_R03_Remove : Env := ⟨0, 0, et_R03_Remove, tt_R03_Remove, fns_R03_Remove, [], od_R03_Remove, kp_R03_Remove, none, []⟩
set_option maxRecDepth 100000 in
set_option maxHeartbeats 40000000 in
theorem c_R03_Remove : PCon Go.Proofs.Try.prog 33 lf_R03_Remove := by
  rw [lq_R03_Remove]
  refine lift_conR (E := E_R03_Remove) (c := bodyOf Try.f33) (nt := 45) (rs := [.cell 6 61, .tmp 7]) (ts := [61, 4]) (EnvC.sub (off := 0) (nt := 0) (ords := od_R03_Remove) (keep := kp_R03_Remove) (yl := none) tt_ok et_ok fns_R03_Remove_ok (PrsOk.nil _) (ItsOk.nil _) tt_R03_Remove_ok et_R03_Remove_ok) (PrOk.of mixed_ok) Go.Proofs.Try.func33 rfl (by decide) rfl rfl rfl (pureR_many (e := (.pair (.pair (.int .i64) (.pair (.sl (.sl (.int .i64))) .unit)) (.pair .bool .unit))) rfl) ?_
  intro x r hw hs
  have hks := True.intro
  have hbs := True.intro
  repeat'
    (try (conv => whnf)
     first
       | (with_reducible have hs := letv_out hs)
       | (refine draw_and (by kernel_rfl) ?_)
       | (refine both_mk ?_ ?_)
       | (refine br_bool (fun h => ?_) (fun h => ?_) <;> first | have hs := cT h hs | have hs := cF h hs)
       | (refine bind_elim hs fun v hb hs => ?_; first | refine ck_R03_is rfl hb ?_ | refine ck_R03_put rfl hb ?_)
       | refine chk_elim hs fun hs => ?_
       | (have hs := letv_out hs)
       | exact fin_some hs rfl
       | (intro b hb; first | have hs := nilq_elim hs b hb | have hs := nilqn_elim hs b hb)
       | exact hJ1 _ hs
       | exact hC1 _ hs
       | (refine cut_out 1 R03_Remove_Q1 hs (fun Jc1 kc1 hC1 hs => ?_) (fun xc1 hs => ?_))
       | (have hs := cT rfl hs)
       | (have hs := cF rfl hs)
       | (refine vc_loopR (R03_Remove_S1 _ _ _ _ _ _ _) R03_Remove_M1 hs rfl ?_; intro J1 k1 x1 hJ1 hs)
       | (refine And.intro (by first | exact hks.1 | exact hks.2.1 | exact hks.2.2.1 | exact hks.2.2.2.1 | exact hks.2.2.2.2.1 | exact hks.2.2.2.2.2.1 | exact hks.2.2.2.2.2.2.1 | exact hks.2.2.2.2.2.2.2.1) ?_)
       | (first | refine ck_R03_is rfl hbs.1 ?_ | refine ck_R03_put rfl hbs.1 ?_ | refine ck_R03_is rfl hbs.2.1 ?_ | refine ck_R03_put rfl hbs.2.1 ?_ | refine ck_R03_is rfl hbs.2.2.1 ?_ | refine ck_R03_put rfl hbs.2.2.1 ?_)
       | (obtain ⟨hk, hs⟩ := chk_some hs; have hks := And.intro hk hks)
       | (obtain ⟨vb, hb, hs⟩ := bind_some hs; have hbs := And.intro hb hbs)
       | exact (none_ne hs).elim)
theorem cq_R03_Remove : PCon Go.Proofs.Try.prog 33 (liftF (.pair (.pair (.int .i64) (.pair (.sl (.sl (.int .i64))) .unit)) (.pair (.int .i64) (.pair (.int .i64) .unit))) (unpR (.pair (.pair (.int .i64) (.pair (.sl (.sl (.int .i64))) .unit)) (.pair .bool .unit))) (fun x => R03_Remove x.1 x.2.1 x.2.2.1)) := lq_R03_Remove ▸ c_R03_Remove
noncomputable def lf_R03_First : List AV → Option AV := liftF (.pair (.pair (.int .i64) (.pair (.sl (.sl (.int .i64))) .unit)) (.pair (.int .i64) .unit)) (unpR (.pair (.int .i64) (.pair (.int .i64) .unit))) (fun x => R03_First x.1 x.2.1)
theorem lq_R03_First : lf_R03_First = liftF (.pair (.pair (.int .i64) (.pair (.sl (.sl (.int .i64))) .unit)) (.pair (.int .i64) .unit)) (unpR (.pair (.int .i64) (.pair (.int .i64) .unit))) (fun x => R03_First x.1 x.2.1) := rfl
attribute [irreducible] lf_R03_First
theorem ck_R03_First {vs : List AV} {k : AV → Prop} {x : ((.pair (.pair (.int .i64) (.pair (.sl (.sl (.int .i64))) .unit)) (.pair (.int .i64) .unit)) : Ty).den} {v : Int × Int × Unit} (h1 : pks (.pair (.pair (.int .i64) (.pair (.sl (.sl (.int .i64))) .unit)) (.pair (.int .i64) .unit)) vs = some x) (h2 : R03_First x.1 x.2.1 = some v) (h3 : k ((unpR (.pair (.int .i64) (.pair (.int .i64) .unit))) v)) : callK (lf_R03_First vs) k := by
  rw [lq_R03_First]; exact callK_lift h1 h2 h3
def tt_R03_First : List (Nat × Ty) := [(3, .int .i64), (4, .bool), (36, .sl (.int .i64)), (59, .sl (.sl (.int .i64))), (61, .pair (.int .i64) (.pair (.sl (.sl (.int .i64))) .unit))]
def et_R03_First : List (Nat × Nat) := [(36, 3), (59, 36)]
theorem tt_R03_First_ok : subT tt tt_R03_First = true := by kernel_rfl
theorem et_R03_First_ok : subE et et_R03_First = true := by kernel_rfl
noncomputable def fns_R03_First : List (Nat × (List AV → Option AV)) := [(87, lf_R03_is)]
theorem fns_R03_First_ok : FnsOk Go.Proofs.Try.prog fns_R03_First := FnsOk.cons c_R03_is (FnsOk.nil _)
def kp_R03_First : List (Nat × List Nat) := [(0, [1, 2]), (1, [1, 2, 9]), (2, [4, 5]), (3, [1, 2, 16]), (4, [4, 5]), (5, [4, 5]), (4000000, [2]), (4000001, [2]), (4000002, []), (4000003, [2]), (4000004, []), (4000005, [])]
def od_R03_First : List (Nat × Ord) := []
noncomputable def E_R03_First : Env := ⟨0, 0, et_R03_First, tt_R03_First, fns_R03_First, [], od_R03_First, kp_R03_First, none, []⟩
set_option maxRecDepth 100000 in
set_option maxHeartbeats 40000000 in
theorem c_R03_First : PCon Go.Proofs.Try.prog 89 lf_R03_First := by
  rw [lq_R03_First]
  refine lift_conR (E := E_R03_First) (c := bodyOf Try.f89) (nt := 24) (rs := [.tmp 4, .tmp 5]) (ts := [3, 3]) (EnvC.sub (off := 0) (nt := 0) (ords := od_R03_First) (keep := kp_R03_First) (yl := none) tt_ok et_ok fns_R03_First_ok (PrsOk.nil _) (ItsOk.nil _) tt_R03_First_ok et_R03_First_ok) (PrOk.of mixed_ok) Go.Proofs.Try.func89 rfl (by decide) rfl rfl rfl (pureR_many (e := (.pair (.int .i64) (.pair (.int .i64) .unit))) rfl) ?_
  intro x r hw hs
  repeat'
    (try (conv => whnf)
     first
       | (with_reducible have hs := letv_out hs)
       | (refine draw_and (by kernel_rfl) ?_)
       | (refine both_mk ?_ ?_)
       | (refine br_bool (fun h => ?_) (fun h => ?_) <;> first | have hs := cT h hs | have hs := cF h hs)
       | (refine bind_elim hs fun v hb hs => ?_; first | refine ck_R03_is rfl hb ?_)
       | refine chk_elim hs fun hs => ?_
       | (have hs := letv_out hs)
       | exact fin_some hs rfl
       | (intro b hb; first | have hs := nilq_elim hs b hb | have hs := nilqn_elim hs b hb)
       | (have hs := cT rfl hs)
       | (have hs := cF rfl hs)
       | exact (none_ne hs).elim)
theorem cq_R03_First : PCon Go.Proofs.Try.prog 89 (liftF (.pair (.pair (.int .i64) (.pair (.sl (.sl (.int .i64))) .unit)) (.pair (.int .i64) .unit)) (unpR (.pair (.int .i64) (.pair (.int .i64) .unit))) (fun x => R03_First x.1 x.2.1)) := lq_R03_First ▸ c_R03_First
noncomputable def lf_R03_Pop : List AV → Option AV := liftF (.pair (.pair (.int .i64) (.pair (.sl (.sl (.int .i64))) .unit)) (.pair (.int .i64) .unit)) (unpR (.pair (.pair (.int .i64) (.pair (.sl (.sl (.int .i64))) .unit)) (.pair (.int .i64) (.pair (.int .i64) .unit)))) (fun x => R03_Pop x.1 x.2.1)
theorem lq_R03_Pop : lf_R03_Pop = liftF (.pair (.pair (.int .i64) (.pair (.sl (.sl (.int .i64))) .unit)) (.pair (.int .i64) .unit)) (unpR (.pair (.pair (.int .i64) (.pair (.sl (.sl (.int .i64))) .unit)) (.pair (.int .i64) (.pair (.int .i64) .unit)))) (fun x => R03_Pop x.1 x.2.1) := rfl
attribute [irreducible] lf_R03_Pop
theorem ck_R03_Pop {vs : List AV} {k : AV → Prop} {x : ((.pair (.pair (.int .i64) (.pair (.sl (.sl (.int .i64))) .unit)) (.pair (.int .i64) .unit)) : Ty).den} {v : (Int × (List (List Int)) × Unit) × Int × Int × Unit} (h1 : pks (.pair (.pair (.int .i64) (.pair (.sl (.sl (.int .i64))) .unit)) (.pair (.int .i64) .unit)) vs = some x) (h2 : R03_Pop x.1 x.2.1 = some v) (h3 : k ((unpR (.pair (.pair (.int .i64) (.pair (.sl (.sl (.int .i64))) .unit)) (.pair (.int .i64) (.pair (.int .i64) .unit)))) v)) : callK (lf_R03_Pop vs) k := by
  rw [lq_R03_Pop]; exact callK_lift h1 h2 h3
def tt_R03_Pop : List (Nat × Ty) := [(3, .int .i64), (36, .sl (.int .i64)), (59, .sl (.sl (.int .i64))), (61, .pair (.int .i64) (.pair (.sl (.sl (.int .i64))) .unit))]
def et_R03_Pop : List (Nat × Nat) := [(36, 3), (59, 36)]
theorem tt_R03_Pop_ok : subT tt tt_R03_Pop = true := by kernel_rfl
theorem et_R03_Pop_ok : subE et et_R03_Pop = true := by kernel_rfl
noncomputable def fns_R03_Pop : List (Nat × (List AV → Option AV)) := [(88, lf_R03_put), (89, lf_R03_First)]
theorem fns_R03_Pop_ok : FnsOk Go.Proofs.Try.prog fns_R03_Pop := FnsOk.cons c_R03_put (FnsOk.cons c_R03_First (FnsOk.nil _))
def kp_R03_Pop : List (Nat × List Nat) := [(0, [1, 2, 4]), (1, [1, 2, 4, 7, 8]), (2, [1, 2, 4, 7, 8, 16]), (3, [4, 5, 6]), (4, [4, 5, 6]), (2000004, [4]), (3000004, []), (4000000, [2, 4]), (4000001, [2, 4]), (4000002, [2, 4]), (4000003, [4]), (4000004, [4])]
def od_R03_Pop : List (Nat × Ord) := [(4, (.one 0 (.one 1 (.one 2 (.one 3 (.one 4 (.one 5 (.one 6 (.one 7 (.one 9 (.one 8 (.alt (.cons 10 (.one 11 (.one 12 .nil)) .nil)))))))))))))]
noncomputable def E_R03_Pop : Env := ⟨0, 0, et_R03_Pop, tt_R03_Pop, fns_R03_Pop, [], od_R03_Pop, kp_R03_Pop, none, []⟩
set_option maxRecDepth 100000 in
set_option maxHeartbeats 40000000 in
theorem c_R03_Pop : PCon Go.Proofs.Try.prog 35 lf_R03_Pop := by
  rw [lq_R03_Pop]
  refine lift_conR (E := E_R03_Pop) (c := bodyOf Try.f35) (nt := 29) (rs := [.cell 4 61, .tmp 5, .tmp 6]) (ts := [61, 3, 3]) (EnvC.sub (off := 0) (nt := 0) (ords := od_R03_Pop) (keep := kp_R03_Pop) (yl := none) tt_ok et_ok fns_R03_Pop_ok (PrsOk.nil _) (ItsOk.nil _) tt_R03_Pop_ok et_R03_Pop_ok) (PrOk.of mixed_ok) Go.Proofs.Try.func35 rfl (by decide) rfl rfl rfl (pureR_many (e := (.pair (.pair (.int .i64) (.pair (.sl (.sl (.int .i64))) .unit)) (.pair (.int .i64) (.pair (.int .i64) .unit)))) rfl) ?_
  intro x r hw hs
  repeat'
    (try (conv => whnf)
     first
       | (with_reducible have hs := letv_out hs)
       | (refine draw_and (by kernel_rfl) ?_)
       | (refine both_mk ?_ ?_)
       | (refine br_bool (fun h => ?_) (fun h => ?_) <;> first | have hs := cT h hs | have hs := cF h hs)
       | (refine bind_elim hs fun v hb hs => ?_; first | refine ck_R03_put rfl hb ?_ | refine ck_R03_First rfl hb ?_)
       | refine chk_elim hs fun hs => ?_
       | (have hs := letv_out hs)
       | exact fin_some hs rfl
       | (intro b hb; first | have hs := nilq_elim hs b hb | have hs := nilqn_elim hs b hb)
       | (have hs := cT rfl hs)
       | (have hs := cF rfl hs)
       | exact (none_ne hs).elim)
theorem cq_R03_Pop : PCon Go.Proofs.Try.prog 35 (liftF (.pair (.pair (.int .i64) (.pair (.sl (.sl (.int .i64))) .unit)) (.pair (.int .i64) .unit)) (unpR (.pair (.pair (.int .i64) (.pair (.sl (.sl (.int .i64))) .unit)) (.pair (.int .i64) (.pair (.int .i64) .unit)))) (fun x => R03_Pop x.1 x.2.1)) := lq_R03_Pop ▸ c_R03_Pop
noncomputable def lf_R03_Free : List AV → Option AV := liftF (.pair (.pair (.int .i64) (.pair (.sl (.sl (.int .i64))) .unit)) .unit) (unpack (.int .i64)) (fun x => R03_Free x.1)
theorem lq_R03_Free : lf_R03_Free = liftF (.pair (.pair (.int .i64) (.pair (.sl (.sl (.int .i64))) .unit)) .unit) (unpack (.int .i64)) (fun x => R03_Free x.1) := rfl
attribute [irreducible] lf_R03_Free
theorem ck_R03_Free {vs : List AV} {k : AV → Prop} {x : ((.pair (.pair (.int .i64) (.pair (.sl (.sl (.int .i64))) .unit)) .unit) : Ty).den} {v : Int} (h1 : pks (.pair (.pair (.int .i64) (.pair (.sl (.sl (.int .i64))) .unit)) .unit) vs = some x) (h2 : R03_Free x.1 = some v) (h3 : k ((unpack (.int .i64)) v)) : callK (lf_R03_Free vs) k := by
  rw [lq_R03_Free]; exact callK_lift h1 h2 h3
def tt_R03_Free : List (Nat × Ty) := [(3, .int .i64), (36, .sl (.int .i64)), (59, .sl (.sl (.int .i64))), (61, .pair (.int .i64) (.pair (.sl (.sl (.int .i64))) .unit))]
def et_R03_Free : List (Nat × Nat) := [(36, 3), (59, 36)]
theorem tt_R03_Free_ok : subT tt tt_R03_Free = true := by kernel_rfl
theorem et_R03_Free_ok : subE et et_R03_Free = true := by kernel_rfl
noncomputable def fns_R03_Free : List (Nat × (List AV → Option AV)) := []
theorem fns_R03_Free_ok : FnsOk Go.Proofs.Try.prog fns_R03_Free := FnsOk.nil _
def R03_Free_S1 (u0 : AV) (B2 : Blk) (x1 : Int × Int) : St :=
  ⟨[(1, u0), (3, .int .i64 x1.1), (4, .int .i64 x1.2)], [(1, B2)], none⟩
def R03_Free_M1 : Msk := ⟨[1, 3, 4], [1], [], [], [], [], [], [], []⟩
def kp_R03_Free : List (Nat × List Nat) := [(0, [1]), (1, [1, 3]), (2, [1, 3, 4]), (3, [1, 3, 4, 11]), (4, [1, 3, 4]), (5, [1, 3, 4]), (6, [2]), (4000000, [1]), (4000001, [1]), (4000002, [1]), (4000003, [1]), (4000004, [1]), (4000005, [1]), (4000006, [])]
def od_R03_Free : List (Nat × Ord) := []
noncomputable def E_R03_Free : Env := ⟨0, 0, et_R03_Free, tt_R03_Free, fns_R03_Free, [], od_R03_Free, kp_R03_Free, none, []⟩
set_option maxRecDepth 100000 in
set_option maxHeartbeats 40000000 in
theorem c_R03_Free : PCon Go.Proofs.Try.prog 90 lf_R03_Free := by
  rw [lq_R03_Free]
  refine lift_conR (E := E_R03_Free) (c := bodyOf Try.f90) (nt := 23) (rs := [.tmp 2]) (ts := [3]) (EnvC.sub (off := 0) (nt := 0) (ords := od_R03_Free) (keep := kp_R03_Free) (yl := none) tt_ok et_ok fns_R03_Free_ok (PrsOk.nil _) (ItsOk.nil _) tt_R03_Free_ok et_R03_Free_ok) (PrOk.of mixed_ok) Go.Proofs.Try.func90 rfl (by decide) rfl rfl rfl (pureR_one (e := (.int .i64)) rfl) ?_
  intro x r hw hs
  repeat'
    (try (conv => whnf)
     first
       | (with_reducible have hs := letv_out hs)
       | (refine draw_and (by kernel_rfl) ?_)
       | (refine both_mk ?_ ?_)
       | (refine br_bool (fun h => ?_) (fun h => ?_) <;> first | have hs := cT h hs | have hs := cF h hs)
       | refine chk_elim hs fun hs => ?_
       | (have hs := letv_out hs)
       | exact fin_some hs rfl
       | (intro b hb; first | have hs := nilq_elim hs b hb | have hs := nilqn_elim hs b hb)
       | exact hJ1 _ hs
       | (have hs := cT rfl hs)
       | (have hs := cF rfl hs)
       | (refine vc_loopR (R03_Free_S1 _ _) R03_Free_M1 hs rfl ?_; intro J1 k1 x1 hJ1 hs)
       | exact (none_ne hs).elim)
theorem cq_R03_Free : PCon Go.Proofs.Try.prog 90 (liftF (.pair (.pair (.int .i64) (.pair (.sl (.sl (.int .i64))) .unit)) .unit) (unpack (.int .i64)) (fun x => R03_Free x.1)) := lq_R03_Free ▸ c_R03_Free
noncomputable def lf_R03_Push : List AV → Option AV := liftF (.pair (.pair (.int .i64) (.pair (.sl (.sl (.int .i64))) .unit)) (.pair (.int .i64) (.pair (.int .i64) .unit))) (unpR (.pair (.pair (.int .i64) (.pair (.sl (.sl (.int .i64))) .unit)) (.pair (.int .i64) .unit))) (fun x => R03_Push x.1 x.2.1 x.2.2.1)
theorem lq_R03_Push : lf_R03_Push = liftF (.pair (.pair (.int .i64) (.pair (.sl (.sl (.int .i64))) .unit)) (.pair (.int .i64) (.pair (.int .i64) .unit))) (unpR (.pair (.pair (.int .i64) (.pair (.sl (.sl (.int .i64))) .unit)) (.pair (.int .i64) .unit))) (fun x => R03_Push x.1 x.2.1 x.2.2.1) := rfl
attribute [irreducible] lf_R03_Push
theorem ck_R03_Push {vs : List AV} {k : AV → Prop} {x : ((.pair (.pair (.int .i64) (.pair (.sl (.sl (.int .i64))) .unit)) (.pair (.int .i64) (.pair (.int .i64) .unit))) : Ty).den} {v : (Int × (List (List Int)) × Unit) × Int × Unit} (h1 : pks (.pair (.pair (.int .i64) (.pair (.sl (.sl (.int .i64))) .unit)) (.pair (.int .i64) (.pair (.int .i64) .unit))) vs = some x) (h2 : R03_Push x.1 x.2.1 x.2.2.1 = some v) (h3 : k ((unpR (.pair (.pair (.int .i64) (.pair (.sl (.sl (.int .i64))) .unit)) (.pair (.int .i64) .unit))) v)) : callK (lf_R03_Push vs) k := by
  rw [lq_R03_Push]; exact callK_lift h1 h2 h3
def tt_R03_Push : List (Nat × Ty) := [(3, .int .i64), (4, .bool), (36, .sl (.int .i64)), (59, .sl (.sl (.int .i64))), (61, .pair (.int .i64) (.pair (.sl (.sl (.int .i64))) .unit))]
def et_R03_Push : List (Nat × Nat) := [(36, 3), (59, 36)]
theorem tt_R03_Push_ok : subT tt tt_R03_Push = true := by kernel_rfl
theorem et_R03_Push_ok : subE et et_R03_Push = true := by kernel_rfl
noncomputable def fns_R03_Push : List (Nat × (List AV → Option AV)) := [(87, lf_R03_is), (88, lf_R03_put), (90, lf_R03_Free)]
theorem fns_R03_Push_ok : FnsOk Go.Proofs.Try.prog fns_R03_Push := FnsOk.cons c_R03_is (FnsOk.cons c_R03_put (FnsOk.cons c_R03_Free (FnsOk.nil _)))
def R03_Push_Q1 (x1 : Int × List (List Int)) : St :=
  ⟨[(6, .ptr 6 []), (7, .int .i64 0)], [(6, .var (.pair (.int .i64) (.pair (.sl (.sl (.int .i64))) .unit)) (.agg [.int .i64 x1.1, .ro (.sl (.int .i64)) x1.2]) false)], none⟩
def kp_R03_Push : List (Nat × List Nat) := [(0, [1, 2, 3, 6]), (1, [1, 2, 3, 6, 11]), (2, [6, 7]), (3, [1, 2, 3, 6, 15]), (4, [6, 7]), (5, [6, 7]), (5000005, []), (4000005, [6]), (6000005, []), (4000000, [3, 6]), (4000001, [3, 6]), (4000002, [6]), (4000003, [3, 6]), (4000004, [6])]
def od_R03_Push : List (Nat × Ord) := [(5, (.one 1 (.one 2 (.one 4 (.one 8 (.alt (.cons 0 (.alt (.cons 3 (.one 5 (.alt (.cons 6 (.alt (.cons 7 (.one 200009 (.one 200010 (.one 200011 (.one 200012 (.one 13 .nil))))) (.cons 9 (.one 200007 (.one 200010 (.one 200011 (.one 200012 (.one 13 .nil))))) .nil))) (.cons 9 (.one 200006 (.one 200007 (.one 200010 (.one 200011 (.one 200012 (.one 13 .nil)))))) .nil)))) (.cons 9 (.one 200003 (.one 5 (.one 200006 (.one 200007 (.one 200010 (.one 200011 (.one 200012 (.one 13 .nil)))))))) .nil))) (.cons 3 (.one 5 (.alt (.cons 0 (.alt (.cons 6 (.alt (.cons 7 (.one 200009 (.one 200010 (.one 200011 (.one 200012 (.one 13 .nil))))) (.cons 9 (.one 200007 (.one 200010 (.one 200011 (.one 200012 (.one 13 .nil))))) .nil))) (.cons 9 (.one 200006 (.one 200007 (.one 200010 (.one 200011 (.one 200012 (.one 13 .nil)))))) .nil))) (.cons 6 (.alt (.cons 0 (.alt (.cons 7 (.one 200009 (.one 200010 (.one 200011 (.one 200012 (.one 13 .nil))))) (.cons 9 (.one 200007 (.one 200010 (.one 200011 (.one 200012 (.one 13 .nil))))) .nil))) (.cons 7 (.alt (.cons 0 (.one 200009 (.one 200010 (.one 200011 (.one 200012 (.one 13 .nil))))) (.cons 9 (.alt (.cons 0 (.one 200010 (.one 200011 (.one 200012 (.one 13 .nil)))) (.cons 10 (.one 200000 (.one 200011 (.one 200012 (.one 13 .nil)))) .nil))) .nil))) (.cons 9 (.alt (.cons 0 (.one 200007 (.one 200010 (.one 200011 (.one 200012 (.one 13 .nil))))) (.cons 7 (.alt (.cons 0 (.one 200010 (.one 200011 (.one 200012 (.one 13 .nil)))) (.cons 10 (.one 200000 (.one 200011 (.one 200012 (.one 13 .nil)))) .nil))) .nil))) .nil)))) (.cons 9 (.alt (.cons 0 (.one 200006 (.one 200007 (.one 200010 (.one 200011 (.one 200012 (.one 13 .nil)))))) (.cons 6 (.alt (.cons 0 (.one 200007 (.one 200010 (.one 200011 (.one 200012 (.one 13 .nil))))) (.cons 7 (.alt (.cons 0 (.one 200010 (.one 200011 (.one 200012 (.one 13 .nil)))) (.cons 10 (.one 200000 (.one 200011 (.one 200012 (.one 13 .nil)))) .nil))) .nil))) .nil))) .nil))))) (.cons 9 (.alt (.cons 0 (.one 200003 (.one 5 (.one 200006 (.one 200007 (.one 200010 (.one 200011 (.one 200012 (.one 13 .nil)))))))) (.cons 3 (.one 5 (.alt (.cons 0 (.one 200006 (.one 200007 (.one 200010 (.one 200011 (.one 200012 (.one 13 .nil)))))) (.cons 6 (.alt (.cons 0 (.one 200007 (.one 200010 (.one 200011 (.one 200012 (.one 13 .nil))))) (.cons 7 (.alt (.cons 0 (.one 200010 (.one 200011 (.one 200012 (.one 13 .nil)))) (.cons 10 (.one 200000 (.one 200011 (.one 200012 (.one 13 .nil)))) .nil))) .nil))) .nil)))) .nil))) .nil))))))))), (1000088, .nil)]
noncomputable def E_R03_Push : Env := ⟨0, 0, et_R03_Push, tt_R03_Push, fns_R03_Push, [], od_R03_Push, kp_R03_Push, none, []⟩
set_option maxRecDepth 100000 in
set_option maxHeartbeats 40000000 in
theorem c_R03_Push : PCon Go.Proofs.Try.prog 37 lf_R03_Push := by
  rw [lq_R03_Push]
  refine lift_conR (E := E_R03_Push) (c := bodyOf Try.f37) (nt := 29) (rs := [.cell 6 61, .tmp 7]) (ts := [61, 3]) (EnvC.sub (off := 0) (nt := 0) (ords := od_R03_Push) (keep := kp_R03_Push) (yl := none) tt_ok et_ok fns_R03_Push_ok (PrsOk.nil _) (ItsOk.nil _) tt_R03_Push_ok et_R03_Push_ok) (PrOk.of mixed_ok) Go.Proofs.Try.func37 rfl (by decide) rfl rfl rfl (pureR_many (e := (.pair (.pair (.int .i64) (.pair (.sl (.sl (.int .i64))) .unit)) (.pair (.int .i64) .unit))) rfl) ?_
  intro x r hw hs
  have hks := True.intro
  have hbs := True.intro
  repeat'
    (try (conv => whnf)
     first
       | (with_reducible have hs := letv_out hs)
       | (refine draw_and (by kernel_rfl) ?_)
       | (refine both_mk ?_ ?_)
       | (refine br_bool (fun h => ?_) (fun h => ?_) <;> first | have hs := cT h hs | have hs := cF h hs)
       | (refine bind_elim hs fun v hb hs => ?_; first | refine ck_R03_is rfl hb ?_ | refine ck_R03_put rfl hb ?_ | refine ck_R03_Free rfl hb ?_)
       | refine chk_elim hs fun hs => ?_
       | (have hs := letv_out hs)
       | exact fin_some hs rfl
       | (intro b hb; first | have hs := nilq_elim hs b hb | have hs := nilqn_elim hs b hb)
       | exact hC1 _ hs
       | (refine cut_out 1 R03_Push_Q1 hs (fun Jc1 kc1 hC1 hs => ?_) (fun xc1 hs => ?_))
       | (have hs := cT rfl hs)
       | (have hs := cF rfl hs)
       | (refine And.intro (by first | exact hks.1 | exact hks.2.1 | exact hks.2.2.1 | exact hks.2.2.2.1 | exact hks.2.2.2.2.1 | exact hks.2.2.2.2.2.1 | exact hks.2.2.2.2.2.2.1 | exact hks.2.2.2.2.2.2.2.1) ?_)
       | (first | refine ck_R03_is rfl hbs.1 ?_ | refine ck_R03_put rfl hbs.1 ?_ | refine ck_R03_Free rfl hbs.1 ?_ | refine ck_R03_is rfl hbs.2.1 ?_ | refine ck_R03_put rfl hbs.2.1 ?_ | refine ck_R03_Free rfl hbs.2.1 ?_ | refine ck_R03_is rfl hbs.2.2.1 ?_ | refine ck_R03_put rfl hbs.2.2.1 ?_ | refine ck_R03_Free rfl hbs.2.2.1 ?_)
       | (obtain ⟨hk, hs⟩ := chk_some hs; have hks := And.intro hk hks)
       | (obtain ⟨vb, hb, hs⟩ := bind_some hs; have hbs := And.intro hb hbs)
       | exact (none_ne hs).elim)
theorem cq_R03_Push : PCon Go.Proofs.Try.prog 37 (liftF (.pair (.pair (.int .i64) (.pair (.sl (.sl (.int .i64))) .unit)) (.pair (.int .i64) (.pair (.int .i64) .unit))) (unpR (.pair (.pair (.int .i64) (.pair (.sl (.sl (.int .i64))) .unit)) (.pair (.int .i64) .unit))) (fun x => R03_Push x.1 x.2.1 x.2.2.1)) := lq_R03_Push ▸ c_R03_Push
noncomputable def lf_R03_List : List AV → Option AV := liftF (.pair (.pair (.int .i64) (.pair (.sl (.sl (.int .i64))) .unit)) (.pair (.int .i64) .unit)) (unpack (.sl (.int .i64))) (fun x => R03_List x.1 x.2.1)
theorem lq_R03_List : lf_R03_List = liftF (.pair (.pair (.int .i64) (.pair (.sl (.sl (.int .i64))) .unit)) (.pair (.int .i64) .unit)) (unpack (.sl (.int .i64))) (fun x => R03_List x.1 x.2.1) := rfl
attribute [irreducible] lf_R03_List
theorem ck_R03_List {vs : List AV} {k : AV → Prop} {x : ((.pair (.pair (.int .i64) (.pair (.sl (.sl (.int .i64))) .unit)) (.pair (.int .i64) .unit)) : Ty).den} {v : List Int} (h1 : pks (.pair (.pair (.int .i64) (.pair (.sl (.sl (.int .i64))) .unit)) (.pair (.int .i64) .unit)) vs = some x) (h2 : R03_List x.1 x.2.1 = some v) (h3 : k ((unpack (.sl (.int .i64))) v)) : callK (lf_R03_List vs) k := by
  rw [lq_R03_List]; exact callK_lift h1 h2 h3
def tt_R03_List : List (Nat × Ty) := [(3, .int .i64), (4, .bool), (36, .sl (.int .i64)), (59, .sl (.sl (.int .i64))), (61, .pair (.int .i64) (.pair (.sl (.sl (.int .i64))) .unit))]
def et_R03_List : List (Nat × Nat) := [(36, 3), (59, 36)]
theorem tt_R03_List_ok : subT tt tt_R03_List = true := by kernel_rfl
theorem et_R03_List_ok : subE et et_R03_List = true := by kernel_rfl
noncomputable def fns_R03_List : List (Nat × (List AV → Option AV)) := [(87, lf_R03_is)]
theorem fns_R03_List_ok : FnsOk Go.Proofs.Try.prog fns_R03_List := FnsOk.cons c_R03_is (FnsOk.nil _)
def kp_R03_List : List (Nat × List Nat) := [(0, [1, 2]), (1, [1, 2, 8]), (2, [4]), (3, [4]), (4000000, [2]), (4000001, [2]), (4000002, []), (4000003, [])]
def od_R03_List : List (Nat × Ord) := []
noncomputable def E_R03_List : Env := ⟨0, 0, et_R03_List, tt_R03_List, fns_R03_List, [], od_R03_List, kp_R03_List, none, []⟩
set_option maxRecDepth 100000 in
set_option maxHeartbeats 40000000 in
theorem c_R03_List : PCon Go.Proofs.Try.prog 91 lf_R03_List := by
  rw [lq_R03_List]
  refine lift_conR (E := E_R03_List) (c := bodyOf Try.f91) (nt := 14) (rs := [.tmp 4]) (ts := [36]) (EnvC.sub (off := 0) (nt := 0) (ords := od_R03_List) (keep := kp_R03_List) (yl := none) tt_ok et_ok fns_R03_List_ok (PrsOk.nil _) (ItsOk.nil _) tt_R03_List_ok et_R03_List_ok) (PrOk.of mixed_ok) Go.Proofs.Try.func91 rfl (by decide) rfl rfl rfl (pureR_one (e := (.sl (.int .i64))) rfl) ?_
  intro x r hw hs
  repeat'
    (try (conv => whnf)
     first
       | (with_reducible have hs := letv_out hs)
       | (refine draw_and (by kernel_rfl) ?_)
       | (refine both_mk ?_ ?_)
       | (refine br_bool (fun h => ?_) (fun h => ?_) <;> first | have hs := cT h hs | have hs := cF h hs)
       | (refine bind_elim hs fun v hb hs => ?_; first | refine ck_R03_is rfl hb ?_)
       | refine chk_elim hs fun hs => ?_
       | (have hs := letv_out hs)
       | exact fin_some hs rfl
       | (intro b hb; first | have hs := nilq_elim hs b hb | have hs := nilqn_elim hs b hb)
       | (have hs := cT rfl hs)
       | (have hs := cF rfl hs)
       | exact (none_ne hs).elim)
theorem cq_R03_List : PCon Go.Proofs.Try.prog 91 (liftF (.pair (.pair (.int .i64) (.pair (.sl (.sl (.int .i64))) .unit)) (.pair (.int .i64) .unit)) (unpack (.sl (.int .i64))) (fun x => R03_List x.1 x.2.1)) := lq_R03_List ▸ c_R03_List
end Go.Proofs.YtiicmhholjpcbaaV
