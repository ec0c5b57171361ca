import Derived.Test.YtkpobmmabmelfaaDoorVcTab
import Derived.Test.YtkpobmmabmelfaaDoorDbitset
import Derived.Test.YtkpobmmabmelfaaDoorCbits
namespace Go.Proofs.YtkpobmmabmelfaaDoorV
open Go.Proofs
set_option linter.unusedVariables false
noncomputable def lf_bitset_Less_1 : List AV → Option AV := liftF (.pair (.int .u64) (.pair (.int .u64) .unit)) (unpack (.int .u64)) (fun x => bitset_Less_1 x.1 x.2.1)
theorem lq_bitset_Less_1 : lf_bitset_Less_1 = liftF (.pair (.int .u64) (.pair (.int .u64) .unit)) (unpack (.int .u64)) (fun x => bitset_Less_1 x.1 x.2.1) := rfl
attribute [irreducible] lf_bitset_Less_1
theorem ck_bitset_Less_1 {vs : List AV} {k : AV → Prop} {x : ((.pair (.int .u64) (.pair (.int .u64) .unit)) : Ty).den} {v : Int} (h1 : pks (.pair (.int .u64) (.pair (.int .u64) .unit)) vs = some x) (h2 : bitset_Less_1 x.1 x.2.1 = some v) (h3 : k ((unpack (.int .u64)) v)) : callK (lf_bitset_Less_1 vs) k := by
  rw [lq_bitset_Less_1]; exact callK_lift h1 h2 h3
def tt_bitset_Less_1 : List (Nat × Ty) := [(32, .int .u64)]
def et_bitset_Less_1 : List (Nat × Nat) := []
theorem tt_bitset_Less_1_ok : subT tt tt_bitset_Less_1 = true := by kernel_rfl
theorem et_bitset_Less_1_ok : subE et et_bitset_Less_1 = true := by kernel_rfl
noncomputable def fns_bitset_Less_1 : List (Nat × (List AV → Option AV)) := []
theorem fns_bitset_Less_1_ok : FnsOk Go.Proofs.Tryd.prog fns_bitset_Less_1 := FnsOk.nil _
def kp_bitset_Less_1 : List (Nat × List Nat) := [(0, [0, 1]), (1, [4]), (4000000, []), (4000001, [])]
def od_bitset_Less_1 : List (Nat × Ord) := []
noncomputable def E_bitset_Less_1 : Env := ⟨0, 0, et_bitset_Less_1, tt_bitset_Less_1, fns_bitset_Less_1, [], od_bitset_Less_1, kp_bitset_Less_1, none, []⟩
set_option maxRecDepth 100000 in
set_option maxHeartbeats 40000000 in
theorem c_bitset_Less_1 : PCon Go.Proofs.Tryd.prog 110 lf_bitset_Less_1 := by
  rw [lq_bitset_Less_1]
  refine lift_conR (E := E_bitset_Less_1) (c := bodyOf Tryd.f110) (nt := 8) (rs := [.tmp 4]) (ts := [32]) (EnvC.sub (off := 0) (nt := 0) (ords := od_bitset_Less_1) (keep := kp_bitset_Less_1) (yl := none) tt_ok et_ok fns_bitset_Less_1_ok (PrsOk.nil _) (ItsOk.nil _) tt_bitset_Less_1_ok et_bitset_Less_1_ok) (PrOk.of mixed_ok) Go.Proofs.Tryd.func110 rfl (by decide) rfl rfl rfl (pureR_one (e := (.int .u64)) rfl) ?_
  intro x r hw hs
  repeat'
    (try (conv => whnf)
     first
       | (with_reducible have hs := letv_out hs)
       | (refine draw_and (by kernel_rfl) ?_)
       | (refine both_mk ?_ ?_)
       | (refine br_bool (fun h => ?_) (fun h => ?_) <;> first | have hs := cT h hs | have hs := cF h hs)
       | refine chk_elim hs fun hs => ?_
       | (have hs := letv_out hs)
       | exact fin_some hs rfl
       | (intro b hb; first | have hs := nilq_elim hs b hb | have hs := nilqn_elim hs b hb)
       | (have hs := cT rfl hs)
       | (have hs := cF rfl hs)
       | exact (none_ne hs).elim)
theorem cq_bitset_Less_1 : PCon Go.Proofs.Tryd.prog 110 (liftF (.pair (.int .u64) (.pair (.int .u64) .unit)) (unpack (.int .u64)) (fun x => bitset_Less_1 x.1 x.2.1)) := lq_bitset_Less_1 ▸ c_bitset_Less_1
noncomputable def lf_bitset_Less : List AV → Option AV := liftF (.pair (.arr 4 (.int .u64)) (.pair (.arr 4 (.int .u64)) .unit)) (unpack (.arr 4 (.int .u64))) (fun x => bitset_Less x.1 x.2.1)
theorem lq_bitset_Less : lf_bitset_Less = liftF (.pair (.arr 4 (.int .u64)) (.pair (.arr 4 (.int .u64)) .unit)) (unpack (.arr 4 (.int .u64))) (fun x => bitset_Less x.1 x.2.1) := rfl
attribute [irreducible] lf_bitset_Less
theorem ck_bitset_Less {vs : List AV} {k : AV → Prop} {x : ((.pair (.arr 4 (.int .u64)) (.pair (.arr 4 (.int .u64)) .unit)) : Ty).den} {v : List Int} (h1 : pks (.pair (.arr 4 (.int .u64)) (.pair (.arr 4 (.int .u64)) .unit)) vs = some x) (h2 : bitset_Less x.1 x.2.1 = some v) (h3 : k ((unpack (.arr 4 (.int .u64))) v)) : callK (lf_bitset_Less vs) k := by
  rw [lq_bitset_Less]; exact callK_lift h1 h2 h3
def tt_bitset_Less : List (Nat × Ty) := [(3, .int .i64), (32, .int .u64), (34, .arr 4 (.int .u64)), (151, .opq 1)]
def et_bitset_Less : List (Nat × Nat) := []
theorem tt_bitset_Less_ok : subT tt tt_bitset_Less = true := by kernel_rfl
theorem et_bitset_Less_ok : subE et et_bitset_Less = true := by kernel_rfl
noncomputable def fns_bitset_Less : List (Nat × (List AV → Option AV)) := [(110, lf_bitset_Less_1)]
theorem fns_bitset_Less_ok : FnsOk Go.Proofs.Tryd.prog fns_bitset_Less := FnsOk.cons c_bitset_Less_1 (FnsOk.nil _)
def kp_bitset_Less_109 : List (Nat × List Nat) := [(0, [2, 3, 4, 6]), (1, [2, 3, 4, 6, 8]), (2, [2, 3, 4, 6, 8, 9]), (3, [2, 3, 4, 6, 7, 8]), (4, [2, 3, 4, 6, 8]), (5, [2, 3, 4, 6, 8]), (6, [6]), (5000004, []), (819204000004, [2, 3, 4, 8195, 8196, 8198]), (819206000004, [])]
def od_bitset_Less_109 : List (Nat × Ord) := [(4, (.one 0 (.one 1 (.one 2 (.one 3 (.one 5 (.one 6 (.alt (.cons 4 (.one 200007 (.one 200008 (.one 9 (.one 200010 .nil)))) (.cons 7 (.one 200004 (.one 200008 (.one 9 (.one 200010 .nil)))) .nil))))))))))]
noncomputable def E_bitset_Less_109 : Env := ⟨0, 0, et_bitset_Less, tt_bitset_Less, fns_bitset_Less, [], od_bitset_Less_109, kp_bitset_Less_109, none, []⟩
noncomputable def pr_bitset_Less_109 : List (Nat × Proc) := (109, procR E_bitset_Less_109 23 [.cell 6 34] (bodyOf Tryd.f109)) :: []
theorem pr_bitset_Less_109_ok : PrsOk Go.Proofs.Tryd.prog pr_bitset_Less_109 :=
  PrsOk.cons (proc_conR (E := E_bitset_Less_109) (EnvC.sub (off := 0) (nt := 0) (ords := od_bitset_Less_109) (keep := kp_bitset_Less_109) (yl := none) tt_ok et_ok fns_bitset_Less_ok (PrsOk.nil _) (ItsOk.nil _) tt_bitset_Less_ok et_bitset_Less_ok) (PrOk.of mixed_ok) Go.Proofs.Tryd.func109 rfl (by decide) rfl rfl) (PrsOk.nil _)
def bitset_Less_S1 (u0 : AV) (u1 : AV) (u2 : AV) (u3 : AV) (x2 : Int × List Int × List Int × List Int × List Int × List Int × List Int) : St :=
  ⟨[(2, u0), (3, u1), (4, u2), (6, u3), (8, .int .i64 x2.1)], [(2, .var (.arr 4 (.int .u64)) (.arr 4 (.int .u64) x2.2.1) false), (3, .var (.arr 4 (.int .u64)) (.arr 4 (.int .u64) x2.2.2.1) false), (4, .var (.arr 4 (.int .u64)) (.arr 4 (.int .u64) x2.2.2.2.1) false), (8195, .var (.arr 4 (.int .u64)) (.arr 4 (.int .u64) x2.2.2.2.2.1) false), (8196, .var (.arr 4 (.int .u64)) (.arr 4 (.int .u64) x2.2.2.2.2.2.1) false), (8198, .var (.arr 4 (.int .u64)) (.arr 4 (.int .u64) x2.2.2.2.2.2.2) false)], (some ([], 0))⟩
def bitset_Less_M1 : Msk := ⟨[2, 3, 4, 6, 8], [2, 3, 4, 8195, 8196, 8198], [], [], [], [], [], [], []⟩
def bitset_Less_Q1 (x3 : Int × List Int × List Int × List Int × List Int × List Int × List Int) : St :=
  ⟨[(2, .fn (.func 110) [] []), (3, .ptr 8195 []), (4, .ptr 8196 []), (6, .ptr 8198 []), (8, .int .i64 x3.1)], [(2, .var (.arr 4 (.int .u64)) (.arr 4 (.int .u64) x3.2.1) false), (3, .var (.arr 4 (.int .u64)) (.arr 4 (.int .u64) x3.2.2.1) false), (4, .var (.arr 4 (.int .u64)) (.arr 4 (.int .u64) x3.2.2.2.1) false), (8195, .var (.arr 4 (.int .u64)) (.arr 4 (.int .u64) x3.2.2.2.2.1) false), (8196, .var (.arr 4 (.int .u64)) (.arr 4 (.int .u64) x3.2.2.2.2.2.1) false), (8198, .var (.arr 4 (.int .u64)) (.arr 4 (.int .u64) x3.2.2.2.2.2.2) false)], (some ([], 0))⟩
def bitset_Less_Q2 (x1 : List Int × List Int) : St :=
  ⟨[(4, .ptr 4 []), (7, .arr 4 (.int .u64) x1.1)], [(4, .var (.arr 4 (.int .u64)) (.arr 4 (.int .u64) x1.2) false)], none⟩
def kp_bitset_Less : List (Nat × List Nat) := [(0, [2, 3, 4]), (1, [4]), (25000007, []), (20000007, [4, 7]), (24000007, [4]), (26000007, []), (4000000, [2, 3, 4]), (4000001, [4])]
def od_bitset_Less : List (Nat × Ord) := []
noncomputable def E_bitset_Less : Env := ⟨0, 0, et_bitset_Less, tt_bitset_Less, fns_bitset_Less, pr_bitset_Less_109, od_bitset_Less, kp_bitset_Less, none, []⟩
set_option maxRecDepth 100000 in
set_option maxHeartbeats 40000000 in
theorem c_bitset_Less : PCon Go.Proofs.Tryd.prog 106 lf_bitset_Less := by
  rw [lq_bitset_Less]
  refine lift_conR (E := E_bitset_Less) (c := bodyOf Tryd.f106) (nt := 8) (rs := [.cell 4 34]) (ts := [34]) (EnvC.sub (off := 0) (nt := 0) (ords := od_bitset_Less) (keep := kp_bitset_Less) (yl := none) tt_ok et_ok fns_bitset_Less_ok (pr_bitset_Less_109_ok) (ItsOk.nil _) tt_bitset_Less_ok et_bitset_Less_ok) (PrOk.of mixed_ok) Go.Proofs.Tryd.func106 rfl (by decide) rfl rfl rfl (pureR_one (e := (.arr 4 (.int .u64))) rfl) ?_
  intro x r hw hs
  have hks := True.intro
  have hbs := True.intro
  repeat'
    (try (conv => whnf)
     first
       | (with_reducible have hs := letv_out hs)
       | (refine draw_and (by kernel_rfl) ?_)
       | (refine both_mk ?_ ?_)
       | (refine br_bool (fun h => ?_) (fun h => ?_) <;> first | have hs := cT h hs | have hs := cF h hs)
       | (refine bind_elim hs fun v hb hs => ?_; first | refine ck_bitset_Less_1 rfl hb ?_)
       | refine chk_elim hs fun hs => ?_
       | (have hs := letv_out hs)
       | exact fin_some hs rfl
       | (intro b hb; first | have hs := nilq_elim hs b hb | have hs := nilqn_elim hs b hb)
       | exact hJ1 _ hs
       | exact hC1 _ hs
       | exact hC2 _ hs
       | (refine cut_out 1 bitset_Less_Q1 hs (fun Jc1 kc1 hC1 hs => ?_) (fun xc1 hs => ?_))
       | (refine cut_out 2 bitset_Less_Q2 hs (fun Jc2 kc2 hC2 hs => ?_) (fun xc2 hs => ?_))
       | (have hs := cT rfl hs)
       | (have hs := cF rfl hs)
       | (refine vc_loopR (bitset_Less_S1 _ _ _ _) bitset_Less_M1 hs rfl ?_; intro J1 k1 x1 hJ1 hs)
       | (refine And.intro (by first | exact hks.1 | exact hks.2.1 | exact hks.2.2.1 | exact hks.2.2.2.1 | exact hks.2.2.2.2.1 | exact hks.2.2.2.2.2.1 | exact hks.2.2.2.2.2.2.1 | exact hks.2.2.2.2.2.2.2.1) ?_)
       | (first | refine ck_bitset_Less_1 rfl hbs.1 ?_ | refine ck_bitset_Less_1 rfl hbs.2.1 ?_ | refine ck_bitset_Less_1 rfl hbs.2.2.1 ?_)
       | (obtain ⟨hk, hs⟩ := chk_some hs; have hks := And.intro hk hks)
       | (obtain ⟨vb, hb, hs⟩ := bind_some hs; have hbs := And.intro hb hbs)
       | exact (none_ne hs).elim)
theorem cq_bitset_Less : PCon Go.Proofs.Tryd.prog 106 (liftF (.pair (.arr 4 (.int .u64)) (.pair (.arr 4 (.int .u64)) .unit)) (unpack (.arr 4 (.int .u64))) (fun x => bitset_Less x.1 x.2.1)) := lq_bitset_Less ▸ c_bitset_Less
noncomputable def lf_bitset_Sub : List AV → Option AV := liftF (.pair (.arr 4 (.int .u64)) (.pair (.arr 4 (.int .u64)) .unit)) (unpack .bool) (fun x => bitset_Sub x.1 x.2.1)
theorem lq_bitset_Sub : lf_bitset_Sub = liftF (.pair (.arr 4 (.int .u64)) (.pair (.arr 4 (.int .u64)) .unit)) (unpack .bool) (fun x => bitset_Sub x.1 x.2.1) := rfl
attribute [irreducible] lf_bitset_Sub
theorem ck_bitset_Sub {vs : List AV} {k : AV → Prop} {x : ((.pair (.arr 4 (.int .u64)) (.pair (.arr 4 (.int .u64)) .unit)) : Ty).den} {v : Bool} (h1 : pks (.pair (.arr 4 (.int .u64)) (.pair (.arr 4 (.int .u64)) .unit)) vs = some x) (h2 : bitset_Sub x.1 x.2.1 = some v) (h3 : k ((unpack .bool) v)) : callK (lf_bitset_Sub vs) k := by
  rw [lq_bitset_Sub]; exact callK_lift h1 h2 h3
def tt_bitset_Sub : List (Nat × Ty) := [(4, .bool), (34, .arr 4 (.int .u64))]
def et_bitset_Sub : List (Nat × Nat) := []
theorem tt_bitset_Sub_ok : subT tt tt_bitset_Sub = true := by kernel_rfl
theorem et_bitset_Sub_ok : subE et et_bitset_Sub = true := by kernel_rfl
noncomputable def fns_bitset_Sub : List (Nat × (List AV → Option AV)) := [(106, lf_bitset_Less)]
theorem fns_bitset_Sub_ok : FnsOk Go.Proofs.Tryd.prog fns_bitset_Sub := FnsOk.cons c_bitset_Less (FnsOk.nil _)
def kp_bitset_Sub : List (Nat × List Nat) := [(0, [2, 3]), (1, [4]), (4000000, [2, 3]), (4000001, [])]
def od_bitset_Sub : List (Nat × Ord) := []
noncomputable def E_bitset_Sub : Env := ⟨0, 0, et_bitset_Sub, tt_bitset_Sub, fns_bitset_Sub, [], od_bitset_Sub, kp_bitset_Sub, none, []⟩
set_option maxRecDepth 100000 in
set_option maxHeartbeats 40000000 in
theorem c_bitset_Sub : PCon Go.Proofs.Tryd.prog 102 lf_bitset_Sub := by
  rw [lq_bitset_Sub]
  refine lift_conR (E := E_bitset_Sub) (c := bodyOf Tryd.f102) (nt := 10) (rs := [.tmp 4]) (ts := [4]) (EnvC.sub (off := 0) (nt := 0) (ords := od_bitset_Sub) (keep := kp_bitset_Sub) (yl := none) tt_ok et_ok fns_bitset_Sub_ok (PrsOk.nil _) (ItsOk.nil _) tt_bitset_Sub_ok et_bitset_Sub_ok) (PrOk.of mixed_ok) Go.Proofs.Tryd.func102 rfl (by decide) rfl rfl rfl (pureR_one (e := .bool) rfl) ?_
  intro x r hw hs
  repeat'
    (try (conv => whnf)
     first
       | (with_reducible have hs := letv_out hs)
       | (refine draw_and (by kernel_rfl) ?_)
       | (refine both_mk ?_ ?_)
       | (refine br_bool (fun h => ?_) (fun h => ?_) <;> first | have hs := cT h hs | have hs := cF h hs)
       | (refine bind_elim hs fun v hb hs => ?_; first | refine ck_bitset_Less rfl hb ?_)
       | refine chk_elim hs fun hs => ?_
       | (have hs := letv_out hs)
       | exact fin_some hs rfl
       | (intro b hb; first | have hs := nilq_elim hs b hb | have hs := nilqn_elim hs b hb)
       | (have hs := cT rfl hs)
       | (have hs := cF rfl hs)
       | exact (none_ne hs).elim)
theorem cq_bitset_Sub : PCon Go.Proofs.Tryd.prog 102 (liftF (.pair (.arr 4 (.int .u64)) (.pair (.arr 4 (.int .u64)) .unit)) (unpack .bool) (fun x => bitset_Sub x.1 x.2.1)) := lq_bitset_Sub ▸ c_bitset_Sub
noncomputable def lf_bitset_Next : List AV → Option AV := liftF (.pair (.arr 4 (.int .u64)) (.pair (.int .i64) .unit)) (unpR (.pair (.int .i64) (.pair .bool .unit))) (fun x => bitset_Next x.1 x.2.1)
theorem lq_bitset_Next : lf_bitset_Next = liftF (.pair (.arr 4 (.int .u64)) (.pair (.int .i64) .unit)) (unpR (.pair (.int .i64) (.pair .bool .unit))) (fun x => bitset_Next x.1 x.2.1) := rfl
attribute [irreducible] lf_bitset_Next
theorem ck_bitset_Next {vs : List AV} {k : AV → Prop} {x : ((.pair (.arr 4 (.int .u64)) (.pair (.int .i64) .unit)) : Ty).den} {v : Int × Bool × Unit} (h1 : pks (.pair (.arr 4 (.int .u64)) (.pair (.int .i64) .unit)) vs = some x) (h2 : bitset_Next x.1 x.2.1 = some v) (h3 : k ((unpR (.pair (.int .i64) (.pair .bool .unit))) v)) : callK (lf_bitset_Next vs) k := by
  rw [lq_bitset_Next]; exact callK_lift h1 h2 h3
def tt_bitset_Next : List (Nat × Ty) := [(3, .int .i64), (4, .bool), (32, .int .u64), (34, .arr 4 (.int .u64))]
def et_bitset_Next : List (Nat × Nat) := []
theorem tt_bitset_Next_ok : subT tt tt_bitset_Next = true := by kernel_rfl
theorem et_bitset_Next_ok : subE et et_bitset_Next = true := by kernel_rfl
noncomputable def fns_bitset_Next : List (Nat × (List AV → Option AV)) := [(111, lf_math_bits_TrailingZeros64)]
theorem fns_bitset_Next_ok : FnsOk Go.Proofs.Tryd.prog fns_bitset_Next := FnsOk.cons c_math_bits_TrailingZeros64 (FnsOk.nil _)
def bitset_Next_S1 (u0 : AV) (u1 : AV) (B3 : Blk) (x1 : Int) : St :=
  ⟨[(1, u0), (2, u1), (6, .int .i64 x1)], [(2, B3)], none⟩
def bitset_Next_M1 : Msk := ⟨[1, 2, 6], [2], [], [], [], [], [], [], []⟩
def kp_bitset_Next : List (Nat × List Nat) := [(0, [1, 2]), (1, [1, 2]), (2, [1, 2, 6]), (3, [1, 2, 6, 13]), (4, [1, 2, 6]), (5, [1, 2, 6, 7]), (6, [1, 2, 6, 7, 22]), (7, [1, 2, 6, 7]), (8, [1, 2, 6, 7, 31]), (9, [4, 5]), (10, [4, 5]), (4000000, [2]), (4000001, [2]), (4000002, [2]), (4000003, [2]), (4000004, [2]), (4000005, [2]), (4000006, [2]), (4000007, [2]), (4000008, [2]), (4000009, []), (4000010, [])]
def od_bitset_Next : List (Nat × Ord) := []
noncomputable def E_bitset_Next : Env := ⟨0, 0, et_bitset_Next, tt_bitset_Next, fns_bitset_Next, [], od_bitset_Next, kp_bitset_Next, none, []⟩
set_option maxRecDepth 100000 in
set_option maxHeartbeats 40000000 in
theorem c_bitset_Next : PCon Go.Proofs.Tryd.prog 108 lf_bitset_Next := by
  rw [lq_bitset_Next]
  refine lift_conR (E := E_bitset_Next) (c := bodyOf Tryd.f108) (nt := 37) (rs := [.tmp 4, .tmp 5]) (ts := [3, 4]) (EnvC.sub (off := 0) (nt := 0) (ords := od_bitset_Next) (keep := kp_bitset_Next) (yl := none) tt_ok et_ok fns_bitset_Next_ok (PrsOk.nil _) (ItsOk.nil _) tt_bitset_Next_ok et_bitset_Next_ok) (PrOk.of mixed_ok) Go.Proofs.Tryd.func108 rfl (by decide) rfl rfl rfl (pureR_many (e := (.pair (.int .i64) (.pair .bool .unit))) rfl) ?_
  intro x r hw hs
  repeat'
    (try (conv => whnf)
     first
       | (with_reducible have hs := letv_out hs)
       | (refine draw_and (by kernel_rfl) ?_)
       | (refine both_mk ?_ ?_)
       | (refine br_bool (fun h => ?_) (fun h => ?_) <;> first | have hs := cT h hs | have hs := cF h hs)
       | (refine bind_elim hs fun v hb hs => ?_; first | refine ck_math_bits_TrailingZeros64 rfl hb ?_)
       | refine chk_elim hs fun hs => ?_
       | (have hs := letv_out hs)
       | exact fin_some hs rfl
       | (intro b hb; first | have hs := nilq_elim hs b hb | have hs := nilqn_elim hs b hb)
       | exact hJ1 _ hs
       | (have hs := cT rfl hs)
       | (have hs := cF rfl hs)
       | (refine vc_loopR (bitset_Next_S1 _ _ _) bitset_Next_M1 hs rfl ?_; intro J1 k1 x1 hJ1 hs)
       | exact (none_ne hs).elim)
theorem cq_bitset_Next : PCon Go.Proofs.Tryd.prog 108 (liftF (.pair (.arr 4 (.int .u64)) (.pair (.int .i64) .unit)) (unpR (.pair (.int .i64) (.pair .bool .unit))) (fun x => bitset_Next x.1 x.2.1)) := lq_bitset_Next ▸ c_bitset_Next
noncomputable def lf_bitset_List : List AV → Option AV := liftF (.pair (.arr 4 (.int .u64)) .unit) (unpack (.sl (.int .i64))) (fun x => bitset_List x.1)
theorem lq_bitset_List : lf_bitset_List = liftF (.pair (.arr 4 (.int .u64)) .unit) (unpack (.sl (.int .i64))) (fun x => bitset_List x.1) := rfl
attribute [irreducible] lf_bitset_List
theorem ck_bitset_List {vs : List AV} {k : AV → Prop} {x : ((.pair (.arr 4 (.int .u64)) .unit) : Ty).den} {v : List Int} (h1 : pks (.pair (.arr 4 (.int .u64)) .unit) vs = some x) (h2 : bitset_List x.1 = some v) (h3 : k ((unpack (.sl (.int .i64))) v)) : callK (lf_bitset_List vs) k := by
  rw [lq_bitset_List]; exact callK_lift h1 h2 h3
def tt_bitset_List : List (Nat × Ty) := [(3, .int .i64), (4, .bool), (24, .sl (.int .i64)), (34, .arr 4 (.int .u64)), (145, .opq 1)]
def et_bitset_List : List (Nat × Nat) := [(24, 3)]
theorem tt_bitset_List_ok : subT tt tt_bitset_List = true := by kernel_rfl
theorem et_bitset_List_ok : subE et et_bitset_List = true := by kernel_rfl
noncomputable def fns_bitset_List : List (Nat × (List AV → Option AV)) := [(108, lf_bitset_Next)]
theorem fns_bitset_List_ok : FnsOk Go.Proofs.Tryd.prog fns_bitset_List := FnsOk.cons c_bitset_Next (FnsOk.nil _)
def kp_bitset_List_107 : List (Nat × List Nat) := [(0, [0, 1, 3, 4]), (1, [0, 1, 3, 10]), (2, [0, 1, 3, 4]), (3, [0, 1, 3, 21])]
def od_bitset_List_107 : List (Nat × Ord) := []
noncomputable def E_bitset_List_107 : Env := ⟨0, 0, et_bitset_List, tt_bitset_List, fns_bitset_List, [], od_bitset_List_107, kp_bitset_List_107, none, []⟩
noncomputable def it_bitset_List_107 : List (Nat × (Nat → (List Nat → Proc) → Proc)) := (107, itR E_bitset_List_107 22 [] (bodyOf Tryd.f107)) :: []
theorem it_bitset_List_107_ok : ItsOk Go.Proofs.Tryd.prog it_bitset_List_107 :=
  ItsOk.cons (it_conR (E := E_bitset_List_107) (EnvC.sub (off := 0) (nt := 0) (ords := od_bitset_List_107) (keep := kp_bitset_List_107) (yl := none) tt_ok et_ok fns_bitset_List_ok (PrsOk.nil _) (ItsOk.nil _) tt_bitset_List_ok et_bitset_List_ok) (PrOk.of mixed_ok) Go.Proofs.Tryd.func107 rfl (by decide) rfl rfl) (ItsOk.nil _)
def kp_bitset_List_105 : List (Nat × List Nat) := [(0, [1]), (1, [2])]
def od_bitset_List_105 : List (Nat × Ord) := []
noncomputable def E_bitset_List_105 : Env := ⟨0, 0, et_bitset_List, tt_bitset_List, fns_bitset_List, [], od_bitset_List_105, kp_bitset_List_105, none, it_bitset_List_107⟩
noncomputable def pr_bitset_List_105 : List (Nat × Proc) := (105, procR E_bitset_List_105 4 [.tmp 2] (bodyOf Tryd.f105)) :: []
theorem pr_bitset_List_105_ok : PrsOk Go.Proofs.Tryd.prog pr_bitset_List_105 :=
  PrsOk.cons (proc_conR (E := E_bitset_List_105) (EnvC.sub (off := 0) (nt := 0) (ords := od_bitset_List_105) (keep := kp_bitset_List_105) (yl := none) tt_ok et_ok fns_bitset_List_ok (PrsOk.nil _) (it_bitset_List_107_ok) tt_bitset_List_ok et_bitset_List_ok) (PrOk.of mixed_ok) Go.Proofs.Tryd.func105 rfl (by decide) rfl rfl) (PrsOk.nil _)
def bitset_List_S1 (u0 : AV) (u1 : AV) (B3 : Blk) (B5 : Blk) (x2 : Int × Bool × List Int) : St :=
  ⟨[(0, u0), (1, u1), (3, .int .i64 x2.1), (4, .bool x2.2.1)], [(3, B3), (11, .row 3 (.int .i64) x2.2.2 false), (7169, B5)], (some ([10, 11], 0))⟩
def bitset_List_M1 : Msk := ⟨[0, 1, 3, 4], [3, 11, 7169], [], [(3, [], 11, 24)], [10, 11], [], [], [], []⟩
def bitset_List_Q1 (x1 : List Int) : St :=
  ⟨[(3, .ptr 3 []), (6, .fn (.func 107) [] [.ptr 7169 []])], [(3, .var (.sl (.int .i64)) (.con (.slice none 0 0)) false), (7169, .var (.arr 4 (.int .u64)) (.arr 4 (.int .u64) x1) false)], none⟩
def kp_bitset_List : List (Nat × List Nat) := [(0, [1]), (1, [1, 3]), (2, [3, 6]), (3, [3, 4]), (4, []), (5, [2]), (25000006, []), (20000006, [3, 6]), (24000006, [3, 7169]), (26000006, []), (4000000, [1]), (4000001, [1, 3]), (4000002, [3, 7169]), (4000003, [3, 11, 7169]), (4000004, [3, 11, 7169]), (4000005, [11])]
def od_bitset_List : List (Nat × Ord) := []
noncomputable def E_bitset_List : Env := ⟨0, 0, et_bitset_List, tt_bitset_List, fns_bitset_List, pr_bitset_List_105, od_bitset_List, kp_bitset_List, none, it_bitset_List_107⟩
set_option maxRecDepth 100000 in
set_option maxHeartbeats 40000000 in
theorem c_bitset_List : PCon Go.Proofs.Tryd.prog 94 lf_bitset_List := by
  rw [lq_bitset_List]
  refine lift_conR (E := E_bitset_List) (c := bodyOf Tryd.f94) (nt := 13) (rs := [.tmp 2]) (ts := [24]) (EnvC.sub (off := 0) (nt := 0) (ords := od_bitset_List) (keep := kp_bitset_List) (yl := none) tt_ok et_ok fns_bitset_List_ok (pr_bitset_List_105_ok) (it_bitset_List_107_ok) tt_bitset_List_ok et_bitset_List_ok) (PrOk.of mixed_ok) Go.Proofs.Tryd.func94 rfl (by decide) rfl rfl rfl (pureR_one (e := (.sl (.int .i64))) rfl) ?_
  intro x r hw hs
  repeat'
    (try (conv => whnf)
     first
       | (with_reducible have hs := letv_out hs)
       | (refine draw_and (by kernel_rfl) ?_)
       | (refine both_mk ?_ ?_)
       | (refine br_bool (fun h => ?_) (fun h => ?_) <;> first | have hs := cT h hs | have hs := cF h hs)
       | (refine bind_elim hs fun v hb hs => ?_; first | refine ck_bitset_Next rfl hb ?_)
       | refine chk_elim hs fun hs => ?_
       | (have hs := letv_out hs)
       | exact fin_some hs rfl
       | (intro b hb; first | have hs := nilq_elim hs b hb | have hs := nilqn_elim hs b hb)
       | exact hJ1 _ hs
       | exact hC1 _ hs
       | (refine cut_out 1 bitset_List_Q1 hs (fun Jc1 kc1 hC1 hs => ?_) (fun xc1 hs => ?_))
       | (have hs := cT rfl hs)
       | (have hs := cF rfl hs)
       | (refine vc_loopR (bitset_List_S1 _ _ _ _) bitset_List_M1 hs rfl ?_; intro J1 k1 x1 hJ1 hs)
       | (refine eqP_mk ?_)
       | (intro l)
       | exact (none_ne hs).elim)
theorem cq_bitset_List : PCon Go.Proofs.Tryd.prog 94 (liftF (.pair (.arr 4 (.int .u64)) .unit) (unpack (.sl (.int .i64))) (fun x => bitset_List x.1)) := lq_bitset_List ▸ c_bitset_List
noncomputable def lf_bitset_fine : List AV → Option AV := liftF (.pair (.int .i64) .unit) (unpack .bool) (fun x => bitset_fine x.1)
theorem lq_bitset_fine : lf_bitset_fine = liftF (.pair (.int .i64) .unit) (unpack .bool) (fun x => bitset_fine x.1) := rfl
attribute [irreducible] lf_bitset_fine
theorem ck_bitset_fine {vs : List AV} {k : AV → Prop} {x : ((.pair (.int .i64) .unit) : Ty).den} {v : Bool} (h1 : pks (.pair (.int .i64) .unit) vs = some x) (h2 : bitset_fine x.1 = some v) (h3 : k ((unpack .bool) v)) : callK (lf_bitset_fine vs) k := by
  rw [lq_bitset_fine]; exact callK_lift h1 h2 h3
def tt_bitset_fine : List (Nat × Ty) := [(3, .int .i64), (4, .bool)]
def et_bitset_fine : List (Nat × Nat) := []
theorem tt_bitset_fine_ok : subT tt tt_bitset_fine = true := by kernel_rfl
theorem et_bitset_fine_ok : subE et et_bitset_fine = true := by kernel_rfl
noncomputable def fns_bitset_fine : List (Nat × (List AV → Option AV)) := []
theorem fns_bitset_fine_ok : FnsOk Go.Proofs.Tryd.prog fns_bitset_fine := FnsOk.nil _
def kp_bitset_fine : List (Nat × List Nat) := [(0, [0]), (1, [2]), (4000000, []), (4000001, [])]
def od_bitset_fine : List (Nat × Ord) := []
noncomputable def E_bitset_fine : Env := ⟨0, 0, et_bitset_fine, tt_bitset_fine, fns_bitset_fine, [], od_bitset_fine, kp_bitset_fine, none, []⟩
set_option maxRecDepth 100000 in
set_option maxHeartbeats 40000000 in
theorem c_bitset_fine : PCon Go.Proofs.Tryd.prog 83 lf_bitset_fine := by
  rw [lq_bitset_fine]
  refine lift_conR (E := E_bitset_fine) (c := bodyOf Tryd.f83) (nt := 9) (rs := [.tmp 2]) (ts := [4]) (EnvC.sub (off := 0) (nt := 0) (ords := od_bitset_fine) (keep := kp_bitset_fine) (yl := none) tt_ok et_ok fns_bitset_fine_ok (PrsOk.nil _) (ItsOk.nil _) tt_bitset_fine_ok et_bitset_fine_ok) (PrOk.of mixed_ok) Go.Proofs.Tryd.func83 rfl (by decide) rfl rfl rfl (pureR_one (e := .bool) rfl) ?_
  intro x r hw hs
  repeat'
    (try (conv => whnf)
     first
       | (with_reducible have hs := letv_out hs)
       | (refine draw_and (by kernel_rfl) ?_)
       | (refine both_mk ?_ ?_)
       | (refine br_bool (fun h => ?_) (fun h => ?_) <;> first | have hs := cT h hs | have hs := cF h hs)
       | refine chk_elim hs fun hs => ?_
       | (have hs := letv_out hs)
       | exact fin_some hs rfl
       | (intro b hb; first | have hs := nilq_elim hs b hb | have hs := nilqn_elim hs b hb)
       | (have hs := cT rfl hs)
       | (have hs := cF rfl hs)
       | exact (none_ne hs).elim)
theorem cq_bitset_fine : PCon Go.Proofs.Tryd.prog 83 (liftF (.pair (.int .i64) .unit) (unpack .bool) (fun x => bitset_fine x.1)) := lq_bitset_fine ▸ c_bitset_fine
noncomputable def lf_bitset_Has : List AV → Option AV := liftF (.pair (.arr 4 (.int .u64)) (.pair (.int .i64) .unit)) (unpack .bool) (fun x => bitset_Has x.1 x.2.1)
theorem lq_bitset_Has : lf_bitset_Has = liftF (.pair (.arr 4 (.int .u64)) (.pair (.int .i64) .unit)) (unpack .bool) (fun x => bitset_Has x.1 x.2.1) := rfl
attribute [irreducible] lf_bitset_Has
theorem ck_bitset_Has {vs : List AV} {k : AV → Prop} {x : ((.pair (.arr 4 (.int .u64)) (.pair (.int .i64) .unit)) : Ty).den} {v : Bool} (h1 : pks (.pair (.arr 4 (.int .u64)) (.pair (.int .i64) .unit)) vs = some x) (h2 : bitset_Has x.1 x.2.1 = some v) (h3 : k ((unpack .bool) v)) : callK (lf_bitset_Has vs) k := by
  rw [lq_bitset_Has]; exact callK_lift h1 h2 h3
def tt_bitset_Has : List (Nat × Ty) := [(3, .int .i64), (4, .bool), (32, .int .u64), (34, .arr 4 (.int .u64))]
def et_bitset_Has : List (Nat × Nat) := []
theorem tt_bitset_Has_ok : subT tt tt_bitset_Has = true := by kernel_rfl
theorem et_bitset_Has_ok : subE et et_bitset_Has = true := by kernel_rfl
noncomputable def fns_bitset_Has : List (Nat × (List AV → Option AV)) := [(83, lf_bitset_fine)]
theorem fns_bitset_Has_ok : FnsOk Go.Proofs.Tryd.prog fns_bitset_Has := FnsOk.cons c_bitset_fine (FnsOk.nil _)
def kp_bitset_Has : List (Nat × List Nat) := [(0, [1, 2]), (1, [4]), (4000000, [2]), (4000001, [])]
def od_bitset_Has : List (Nat × Ord) := []
noncomputable def E_bitset_Has : Env := ⟨0, 0, et_bitset_Has, tt_bitset_Has, fns_bitset_Has, [], od_bitset_Has, kp_bitset_Has, none, []⟩
set_option maxRecDepth 100000 in
set_option maxHeartbeats 40000000 in
theorem c_bitset_Has : PCon Go.Proofs.Tryd.prog 36 lf_bitset_Has := by
  rw [lq_bitset_Has]
  refine lift_conR (E := E_bitset_Has) (c := bodyOf Tryd.f36) (nt := 18) (rs := [.tmp 4]) (ts := [4]) (EnvC.sub (off := 0) (nt := 0) (ords := od_bitset_Has) (keep := kp_bitset_Has) (yl := none) tt_ok et_ok fns_bitset_Has_ok (PrsOk.nil _) (ItsOk.nil _) tt_bitset_Has_ok et_bitset_Has_ok) (PrOk.of mixed_ok) Go.Proofs.Tryd.func36 rfl (by decide) rfl rfl rfl (pureR_one (e := .bool) rfl) ?_
  intro x r hw hs
  repeat'
    (try (conv => whnf)
     first
       | (with_reducible have hs := letv_out hs)
       | (refine draw_and (by kernel_rfl) ?_)
       | (refine both_mk ?_ ?_)
       | (refine br_bool (fun h => ?_) (fun h => ?_) <;> first | have hs := cT h hs | have hs := cF h hs)
       | (refine bind_elim hs fun v hb hs => ?_; first | refine ck_bitset_fine rfl hb ?_)
       | refine chk_elim hs fun hs => ?_
       | (have hs := letv_out hs)
       | exact fin_some hs rfl
       | (intro b hb; first | have hs := nilq_elim hs b hb | have hs := nilqn_elim hs b hb)
       | (have hs := cT rfl hs)
       | (have hs := cF rfl hs)
       | exact (none_ne hs).elim)
theorem cq_bitset_Has : PCon Go.Proofs.Tryd.prog 36 (liftF (.pair (.arr 4 (.int .u64)) (.pair (.int .i64) .unit)) (unpack .bool) (fun x => bitset_Has x.1 x.2.1)) := lq_bitset_Has ▸ c_bitset_Has
noncomputable def lf_bitset_Add : List AV → Option AV := liftF (.pair (.arr 4 (.int .u64)) (.pair (.int .i64) .unit)) (unpack (.arr 4 (.int .u64))) (fun x => bitset_Add x.1 x.2.1)
theorem lq_bitset_Add : lf_bitset_Add = liftF (.pair (.arr 4 (.int .u64)) (.pair (.int .i64) .unit)) (unpack (.arr 4 (.int .u64))) (fun x => bitset_Add x.1 x.2.1) := rfl
attribute [irreducible] lf_bitset_Add
theorem ck_bitset_Add {vs : List AV} {k : AV → Prop} {x : ((.pair (.arr 4 (.int .u64)) (.pair (.int .i64) .unit)) : Ty).den} {v : List Int} (h1 : pks (.pair (.arr 4 (.int .u64)) (.pair (.int .i64) .unit)) vs = some x) (h2 : bitset_Add x.1 x.2.1 = some v) (h3 : k ((unpack (.arr 4 (.int .u64))) v)) : callK (lf_bitset_Add vs) k := by
  rw [lq_bitset_Add]; exact callK_lift h1 h2 h3
def tt_bitset_Add : List (Nat × Ty) := [(3, .int .i64), (32, .int .u64), (34, .arr 4 (.int .u64))]
def et_bitset_Add : List (Nat × Nat) := []
theorem tt_bitset_Add_ok : subT tt tt_bitset_Add = true := by kernel_rfl
theorem et_bitset_Add_ok : subE et et_bitset_Add = true := by kernel_rfl
noncomputable def fns_bitset_Add : List (Nat × (List AV → Option AV)) := [(83, lf_bitset_fine)]
theorem fns_bitset_Add_ok : FnsOk Go.Proofs.Tryd.prog fns_bitset_Add := FnsOk.cons c_bitset_fine (FnsOk.nil _)
def kp_bitset_Add : List (Nat × List Nat) := [(0, [1, 2, 4]), (1, [1, 2, 4, 6]), (2, [2, 4]), (3, [4]), (4000000, [2, 4]), (4000001, [2, 4]), (4000002, [2, 4]), (4000003, [4])]
def od_bitset_Add : List (Nat × Ord) := [(2, (.one 0 (.one 1 (.one 2 (.one 3 (.one 4 (.one 5 (.one 6 (.one 7 (.one 8 (.one 100009 .nil)))))))))))]
noncomputable def E_bitset_Add : Env := ⟨0, 0, et_bitset_Add, tt_bitset_Add, fns_bitset_Add, [], od_bitset_Add, kp_bitset_Add, none, []⟩
set_option maxRecDepth 100000 in
set_option maxHeartbeats 40000000 in
theorem c_bitset_Add : PCon Go.Proofs.Tryd.prog 96 lf_bitset_Add := by
  rw [lq_bitset_Add]
  refine lift_conR (E := E_bitset_Add) (c := bodyOf Tryd.f96) (nt := 17) (rs := [.cell 4 34]) (ts := [34]) (EnvC.sub (off := 0) (nt := 0) (ords := od_bitset_Add) (keep := kp_bitset_Add) (yl := none) tt_ok et_ok fns_bitset_Add_ok (PrsOk.nil _) (ItsOk.nil _) tt_bitset_Add_ok et_bitset_Add_ok) (PrOk.of mixed_ok) Go.Proofs.Tryd.func96 rfl (by decide) rfl rfl rfl (pureR_one (e := (.arr 4 (.int .u64))) rfl) ?_
  intro x r hw hs
  repeat'
    (try (conv => whnf)
     first
       | (with_reducible have hs := letv_out hs)
       | (refine draw_and (by kernel_rfl) ?_)
       | (refine both_mk ?_ ?_)
       | (refine br_bool (fun h => ?_) (fun h => ?_) <;> first | have hs := cT h hs | have hs := cF h hs)
       | (refine bind_elim hs fun v hb hs => ?_; first | refine ck_bitset_fine rfl hb ?_)
       | refine chk_elim hs fun hs => ?_
       | (have hs := letv_out hs)
       | exact fin_some hs rfl
       | (intro b hb; first | have hs := nilq_elim hs b hb | have hs := nilqn_elim hs b hb)
       | (have hs := cT rfl hs)
       | (have hs := cF rfl hs)
       | exact (none_ne hs).elim)
theorem cq_bitset_Add : PCon Go.Proofs.Tryd.prog 96 (liftF (.pair (.arr 4 (.int .u64)) (.pair (.int .i64) .unit)) (unpack (.arr 4 (.int .u64))) (fun x => bitset_Add x.1 x.2.1)) := lq_bitset_Add ▸ c_bitset_Add
noncomputable def lf_bitset_Drop : List AV → Option AV := liftF (.pair (.arr 4 (.int .u64)) (.pair (.int .i64) .unit)) (unpack (.arr 4 (.int .u64))) (fun x => bitset_Drop x.1 x.2.1)
theorem lq_bitset_Drop : lf_bitset_Drop = liftF (.pair (.arr 4 (.int .u64)) (.pair (.int .i64) .unit)) (unpack (.arr 4 (.int .u64))) (fun x => bitset_Drop x.1 x.2.1) := rfl
attribute [irreducible] lf_bitset_Drop
theorem ck_bitset_Drop {vs : List AV} {k : AV → Prop} {x : ((.pair (.arr 4 (.int .u64)) (.pair (.int .i64) .unit)) : Ty).den} {v : List Int} (h1 : pks (.pair (.arr 4 (.int .u64)) (.pair (.int .i64) .unit)) vs = some x) (h2 : bitset_Drop x.1 x.2.1 = some v) (h3 : k ((unpack (.arr 4 (.int .u64))) v)) : callK (lf_bitset_Drop vs) k := by
  rw [lq_bitset_Drop]; exact callK_lift h1 h2 h3
def tt_bitset_Drop : List (Nat × Ty) := [(3, .int .i64), (32, .int .u64), (34, .arr 4 (.int .u64))]
def et_bitset_Drop : List (Nat × Nat) := []
theorem tt_bitset_Drop_ok : subT tt tt_bitset_Drop = true := by kernel_rfl
theorem et_bitset_Drop_ok : subE et et_bitset_Drop = true := by kernel_rfl
noncomputable def fns_bitset_Drop : List (Nat × (List AV → Option AV)) := [(83, lf_bitset_fine)]
theorem fns_bitset_Drop_ok : FnsOk Go.Proofs.Tryd.prog fns_bitset_Drop := FnsOk.cons c_bitset_fine (FnsOk.nil _)
def kp_bitset_Drop : List (Nat × List Nat) := [(0, [1, 2, 4]), (1, [1, 2, 4, 6]), (2, [2, 4]), (3, [4]), (4000000, [2, 4]), (4000001, [2, 4]), (4000002, [2, 4]), (4000003, [4])]
def od_bitset_Drop : List (Nat × Ord) := [(2, (.one 0 (.one 1 (.one 2 (.one 3 (.one 4 (.one 5 (.one 6 (.one 7 (.one 8 (.one 100009 .nil)))))))))))]
noncomputable def E_bitset_Drop : Env := ⟨0, 0, et_bitset_Drop, tt_bitset_Drop, fns_bitset_Drop, [], od_bitset_Drop, kp_bitset_Drop, none, []⟩
set_option maxRecDepth 100000 in
set_option maxHeartbeats 40000000 in
theorem c_bitset_Drop : PCon Go.Proofs.Tryd.prog 100 lf_bitset_Drop := by
  rw [lq_bitset_Drop]
  refine lift_conR (E := E_bitset_Drop) (c := bodyOf Tryd.f100) (nt := 17) (rs := [.cell 4 34]) (ts := [34]) (EnvC.sub (off := 0) (nt := 0) (ords := od_bitset_Drop) (keep := kp_bitset_Drop) (yl := none) tt_ok et_ok fns_bitset_Drop_ok (PrsOk.nil _) (ItsOk.nil _) tt_bitset_Drop_ok et_bitset_Drop_ok) (PrOk.of mixed_ok) Go.Proofs.Tryd.func100 rfl (by decide) rfl rfl rfl (pureR_one (e := (.arr 4 (.int .u64))) rfl) ?_
  intro x r hw hs
  repeat'
    (try (conv => whnf)
     first
       | (with_reducible have hs := letv_out hs)
       | (refine draw_and (by kernel_rfl) ?_)
       | (refine both_mk ?_ ?_)
       | (refine br_bool (fun h => ?_) (fun h => ?_) <;> first | have hs := cT h hs | have hs := cF h hs)
       | (refine bind_elim hs fun v hb hs => ?_; first | refine ck_bitset_fine rfl hb ?_)
       | refine chk_elim hs fun hs => ?_
       | (have hs := letv_out hs)
       | exact fin_some hs rfl
       | (intro b hb; first | have hs := nilq_elim hs b hb | have hs := nilqn_elim hs b hb)
       | (have hs := cT rfl hs)
       | (have hs := cF rfl hs)
       | exact (none_ne hs).elim)
theorem cq_bitset_Drop : PCon Go.Proofs.Tryd.prog 100 (liftF (.pair (.arr 4 (.int .u64)) (.pair (.int .i64) .unit)) (unpack (.arr 4 (.int .u64))) (fun x => bitset_Drop x.1 x.2.1)) := lq_bitset_Drop ▸ c_bitset_Drop
noncomputable def lf_bitset_Len : List AV → Option AV := liftF (.pair (.arr 4 (.int .u64)) .unit) (unpack (.int .i64)) (fun x => bitset_Len x.1)
theorem lq_bitset_Len : lf_bitset_Len = liftF (.pair (.arr 4 (.int .u64)) .unit) (unpack (.int .i64)) (fun x => bitset_Len x.1) := rfl
attribute [irreducible] lf_bitset_Len
theorem ck_bitset_Len {vs : List AV} {k : AV → Prop} {x : ((.pair (.arr 4 (.int .u64)) .unit) : Ty).den} {v : Int} (h1 : pks (.pair (.arr 4 (.int .u64)) .unit) vs = some x) (h2 : bitset_Len x.1 = some v) (h3 : k ((unpack (.int .i64)) v)) : callK (lf_bitset_Len vs) k := by
  rw [lq_bitset_Len]; exact callK_lift h1 h2 h3
def tt_bitset_Len : List (Nat × Ty) := [(3, .int .i64), (32, .int .u64), (34, .arr 4 (.int .u64))]
def et_bitset_Len : List (Nat × Nat) := []
theorem tt_bitset_Len_ok : subT tt tt_bitset_Len = true := by kernel_rfl
theorem et_bitset_Len_ok : subE et et_bitset_Len = true := by kernel_rfl
noncomputable def fns_bitset_Len : List (Nat × (List AV → Option AV)) := [(82, lf_math_bits_OnesCount64)]
theorem fns_bitset_Len_ok : FnsOk Go.Proofs.Tryd.prog fns_bitset_Len := FnsOk.cons c_math_bits_OnesCount64 (FnsOk.nil _)
def bitset_Len_S1 (u0 : AV) (x1 : Int × Int) : St :=
  ⟨[(3, .int .i64 x1.1), (6, u0), (7, .int .i64 x1.2)], [], none⟩
def bitset_Len_M1 : Msk := ⟨[3, 6, 7], [], [], [], [], [], [], [], []⟩
def kp_bitset_Len : List (Nat × List Nat) := [(0, [1]), (1, [1, 3]), (2, [3, 6, 7]), (3, [3, 6, 7, 8]), (4, [3, 5, 6, 7]), (5, [3, 6, 7]), (6, [3, 6, 7]), (7, [2]), (4000000, [1]), (4000001, [1]), (4000002, []), (4000003, []), (4000004, []), (4000005, []), (4000006, []), (4000007, [])]
def od_bitset_Len : List (Nat × Ord) := []
noncomputable def E_bitset_Len : Env := ⟨0, 0, et_bitset_Len, tt_bitset_Len, fns_bitset_Len, [], od_bitset_Len, kp_bitset_Len, none, []⟩
set_option maxRecDepth 100000 in
set_option maxHeartbeats 40000000 in
theorem c_bitset_Len : PCon Go.Proofs.Tryd.prog 35 lf_bitset_Len := by
  rw [lq_bitset_Len]
  refine lift_conR (E := E_bitset_Len) (c := bodyOf Tryd.f35) (nt := 16) (rs := [.tmp 2]) (ts := [3]) (EnvC.sub (off := 0) (nt := 0) (ords := od_bitset_Len) (keep := kp_bitset_Len) (yl := none) tt_ok et_ok fns_bitset_Len_ok (PrsOk.nil _) (ItsOk.nil _) tt_bitset_Len_ok et_bitset_Len_ok) (PrOk.of mixed_ok) Go.Proofs.Tryd.func35 rfl (by decide) rfl rfl rfl (pureR_one (e := (.int .i64)) rfl) ?_
  intro x r hw hs
  repeat'
    (try (conv => whnf)
     first
       | (with_reducible have hs := letv_out hs)
       | (refine draw_and (by kernel_rfl) ?_)
       | (refine both_mk ?_ ?_)
       | (refine br_bool (fun h => ?_) (fun h => ?_) <;> first | have hs := cT h hs | have hs := cF h hs)
       | (refine bind_elim hs fun v hb hs => ?_; first | refine ck_math_bits_OnesCount64 rfl hb ?_)
       | refine chk_elim hs fun hs => ?_
       | (have hs := letv_out hs)
       | exact fin_some hs rfl
       | (intro b hb; first | have hs := nilq_elim hs b hb | have hs := nilqn_elim hs b hb)
       | exact hJ1 _ hs
       | (have hs := cT rfl hs)
       | (have hs := cF rfl hs)
       | (refine vc_loopR (bitset_Len_S1 _) bitset_Len_M1 hs rfl ?_; intro J1 k1 x1 hJ1 hs)
       | exact (none_ne hs).elim)
theorem cq_bitset_Len : PCon Go.Proofs.Tryd.prog 35 (liftF (.pair (.arr 4 (.int .u64)) .unit) (unpack (.int .i64)) (fun x => bitset_Len x.1)) := lq_bitset_Len ▸ c_bitset_Len
end Go.Proofs.YtkpobmmabmelfaaDoorV
