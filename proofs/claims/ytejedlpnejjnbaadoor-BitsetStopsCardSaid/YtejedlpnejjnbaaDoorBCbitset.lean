import Derived.Test.YtejedlpnejjnbaaDoorBVcTab
import Derived.Test.YtejedlpnejjnbaaDoorBDbitset
import Derived.Test.YtejedlpnejjnbaaDoorBCbits
namespace Go.Proofs.YtejedlpnejjnbaaDoorBV
open Go.Proofs
set_option linter.unusedVariables false
noncomputable def lf_bitset_fine : List AV → Option AV := liftF (.pair (.int .i64) .unit) (unpack .bool) (fun x => bitset_fine x.1)
theorem lq_bitset_fine : lf_bitset_fine = liftF (.pair (.int .i64) .unit) (unpack .bool) (fun x => bitset_fine x.1) := rfl
attribute [irreducible] lf_bitset_fine
theorem ck_bitset_fine {vs : List AV} {k : AV → Prop} {x : ((.pair (.int .i64) .unit) : Ty).den} {v : Bool} (h1 : pks (.pair (.int .i64) .unit) vs = some x) (h2 : bitset_fine x.1 = some v) (h3 : k ((unpack .bool) v)) : callK (lf_bitset_fine vs) k := by
  rw [lq_bitset_fine]; exact callK_lift h1 h2 h3
def tt_bitset_fine : List (Nat × Ty) := [(3, .int .i64), (4, .bool)]
def et_bitset_fine : List (Nat × Nat) := []
theorem tt_bitset_fine_ok : subT tt tt_bitset_fine = true := by kernel_rfl
theorem et_bitset_fine_ok : subE et et_bitset_fine = true := by kernel_rfl
noncomputable def fns_bitset_fine : List (Nat × (List AV → Option AV)) := []
theorem fns_bitset_fine_ok : FnsOk Go.Proofs.Tryd.prog fns_bitset_fine := FnsOk.nil _
def kp_bitset_fine : List (Nat × List Nat) := [(0, [0]), (1, [2]), (4000000, []), (4000001, [])]
def od_bitset_fine : List (Nat × Ord) := []
noncomputable def E_bitset_fine : Env := ⟨0, 0, et_bitset_fine, tt_bitset_fine, fns_bitset_fine, [], od_bitset_fine, kp_bitset_fine, none, []⟩
set_option maxRecDepth 100000 in
set_option maxHeartbeats 40000000 in
theorem c_bitset_fine : PCon Go.Proofs.Tryd.prog 55 lf_bitset_fine := by
  rw [lq_bitset_fine]
  refine lift_conR (E := E_bitset_fine) (c := bodyOf Tryd.f55) (nt := 9) (rs := [.tmp 2]) (ts := [4]) (EnvC.sub (off := 0) (nt := 0) (ords := od_bitset_fine) (keep := kp_bitset_fine) (yl := none) tt_ok et_ok fns_bitset_fine_ok (PrsOk.nil _) (ItsOk.nil _) tt_bitset_fine_ok et_bitset_fine_ok) (PrOk.of mixed_ok) Go.Proofs.Tryd.func55 rfl (by decide) rfl rfl rfl (pureR_one (e := .bool) rfl) ?_
  intro x r hw hs
  repeat'
    (try (conv => whnf)
     first
       | (with_reducible have hs := letv_out hs)
       | (refine draw_and (by kernel_rfl) ?_)
       | (refine both_mk ?_ ?_)
       | (refine br_bool (fun h => ?_) (fun h => ?_) <;> first | have hs := cT h hs | have hs := cF h hs)
       | refine chk_elim hs fun hs => ?_
       | (have hs := letv_out hs)
       | exact fin_some hs rfl
       | (intro b hb; first | have hs := nilq_elim hs b hb | have hs := nilqn_elim hs b hb)
       | (have hs := cT rfl hs)
       | (have hs := cF rfl hs)
       | exact (none_ne hs).elim)
theorem cq_bitset_fine : PCon Go.Proofs.Tryd.prog 55 (liftF (.pair (.int .i64) .unit) (unpack .bool) (fun x => bitset_fine x.1)) := lq_bitset_fine ▸ c_bitset_fine
noncomputable def lf_bitset_Add : List AV → Option AV := liftF (.pair (.arr 4 (.int .u64)) (.pair (.int .i64) .unit)) (unpack (.arr 4 (.int .u64))) (fun x => bitset_Add x.1 x.2.1)
theorem lq_bitset_Add : lf_bitset_Add = liftF (.pair (.arr 4 (.int .u64)) (.pair (.int .i64) .unit)) (unpack (.arr 4 (.int .u64))) (fun x => bitset_Add x.1 x.2.1) := rfl
attribute [irreducible] lf_bitset_Add
theorem ck_bitset_Add {vs : List AV} {k : AV → Prop} {x : ((.pair (.arr 4 (.int .u64)) (.pair (.int .i64) .unit)) : Ty).den} {v : List Int} (h1 : pks (.pair (.arr 4 (.int .u64)) (.pair (.int .i64) .unit)) vs = some x) (h2 : bitset_Add x.1 x.2.1 = some v) (h3 : k ((unpack (.arr 4 (.int .u64))) v)) : callK (lf_bitset_Add vs) k := by
  rw [lq_bitset_Add]; exact callK_lift h1 h2 h3
def tt_bitset_Add : List (Nat × Ty) := [(3, .int .i64), (24, .int .u64), (26, .arr 4 (.int .u64))]
def et_bitset_Add : List (Nat × Nat) := []
theorem tt_bitset_Add_ok : subT tt tt_bitset_Add = true := by kernel_rfl
theorem et_bitset_Add_ok : subE et et_bitset_Add = true := by kernel_rfl
noncomputable def fns_bitset_Add : List (Nat × (List AV → Option AV)) := [(55, lf_bitset_fine)]
theorem fns_bitset_Add_ok : FnsOk Go.Proofs.Tryd.prog fns_bitset_Add := FnsOk.cons c_bitset_fine (FnsOk.nil _)
def kp_bitset_Add : List (Nat × List Nat) := [(0, [1, 2, 4]), (1, [1, 2, 4, 6]), (2, [2, 4]), (3, [4]), (4000000, [2, 4]), (4000001, [2, 4]), (4000002, [2, 4]), (4000003, [4])]
def od_bitset_Add : List (Nat × Ord) := [(2, (.one 0 (.one 1 (.one 2 (.one 3 (.one 4 (.one 5 (.one 6 (.one 7 (.one 8 (.one 100009 .nil)))))))))))]
noncomputable def E_bitset_Add : Env := ⟨0, 0, et_bitset_Add, tt_bitset_Add, fns_bitset_Add, [], od_bitset_Add, kp_bitset_Add, none, []⟩
set_option maxRecDepth 100000 in
set_option maxHeartbeats 40000000 in
theorem c_bitset_Add : PCon Go.Proofs.Tryd.prog 21 lf_bitset_Add := by
  rw [lq_bitset_Add]
  refine lift_conR (E := E_bitset_Add) (c := bodyOf Tryd.f21) (nt := 17) (rs := [.cell 4 26]) (ts := [26]) (EnvC.sub (off := 0) (nt := 0) (ords := od_bitset_Add) (keep := kp_bitset_Add) (yl := none) tt_ok et_ok fns_bitset_Add_ok (PrsOk.nil _) (ItsOk.nil _) tt_bitset_Add_ok et_bitset_Add_ok) (PrOk.of mixed_ok) Go.Proofs.Tryd.func21 rfl (by decide) rfl rfl rfl (pureR_one (e := (.arr 4 (.int .u64))) rfl) ?_
  intro x r hw hs
  repeat'
    (try (conv => whnf)
     first
       | (with_reducible have hs := letv_out hs)
       | (refine draw_and (by kernel_rfl) ?_)
       | (refine both_mk ?_ ?_)
       | (refine br_bool (fun h => ?_) (fun h => ?_) <;> first | have hs := cT h hs | have hs := cF h hs)
       | (refine bind_elim hs fun v hb hs => ?_; first | refine ck_bitset_fine rfl hb ?_)
       | refine chk_elim hs fun hs => ?_
       | (have hs := letv_out hs)
       | exact fin_some hs rfl
       | (intro b hb; first | have hs := nilq_elim hs b hb | have hs := nilqn_elim hs b hb)
       | (have hs := cT rfl hs)
       | (have hs := cF rfl hs)
       | exact (none_ne hs).elim)
theorem cq_bitset_Add : PCon Go.Proofs.Tryd.prog 21 (liftF (.pair (.arr 4 (.int .u64)) (.pair (.int .i64) .unit)) (unpack (.arr 4 (.int .u64))) (fun x => bitset_Add x.1 x.2.1)) := lq_bitset_Add ▸ c_bitset_Add
noncomputable def lf_bitset_Of : List AV → Option AV := liftF (.pair (.sl (.int .i64)) .unit) (unpack (.arr 4 (.int .u64))) (fun x => bitset_Of x.1)
theorem lq_bitset_Of : lf_bitset_Of = liftF (.pair (.sl (.int .i64)) .unit) (unpack (.arr 4 (.int .u64))) (fun x => bitset_Of x.1) := rfl
attribute [irreducible] lf_bitset_Of
theorem ck_bitset_Of {vs : List AV} {k : AV → Prop} {x : ((.pair (.sl (.int .i64)) .unit) : Ty).den} {v : List Int} (h1 : pks (.pair (.sl (.int .i64)) .unit) vs = some x) (h2 : bitset_Of x.1 = some v) (h3 : k ((unpack (.arr 4 (.int .u64))) v)) : callK (lf_bitset_Of vs) k := by
  rw [lq_bitset_Of]; exact callK_lift h1 h2 h3
def tt_bitset_Of : List (Nat × Ty) := [(3, .int .i64), (22, .sl (.int .i64)), (26, .arr 4 (.int .u64))]
def et_bitset_Of : List (Nat × Nat) := [(22, 3)]
theorem tt_bitset_Of_ok : subT tt tt_bitset_Of = true := by kernel_rfl
theorem et_bitset_Of_ok : subE et et_bitset_Of = true := by kernel_rfl
noncomputable def fns_bitset_Of : List (Nat × (List AV → Option AV)) := [(21, lf_bitset_Add)]
theorem fns_bitset_Of_ok : FnsOk Go.Proofs.Tryd.prog fns_bitset_Of := FnsOk.cons c_bitset_Add (FnsOk.nil _)
def bitset_Of_S1 (u0 : AV) (u1 : AV) (u2 : AV) (u3 : AV) (B5 : Blk) (x1 : Int × List Int) : St :=
  ⟨[(2, u0), (3, u1), (6, u2), (7, u3), (8, .int .i64 x1.1)], [(2, B5), (3, .var (.arr 4 (.int .u64)) (.arr 4 (.int .u64) x1.2) false)], none⟩
def bitset_Of_M1 : Msk := ⟨[2, 3, 6, 7, 8], [2, 3], [], [], [], [], [], [], []⟩
def kp_bitset_Of : List (Nat × List Nat) := [(0, [0, 2]), (1, [0, 2, 3]), (2, [2, 3, 6, 7, 8]), (3, [2, 3, 6, 7, 8, 9]), (4, [2, 3, 5, 6, 7, 8]), (5, [2, 3, 6, 7, 8]), (6, [2, 3, 6, 7, 8]), (7, [2]), (4000000, [2]), (4000001, [2, 3]), (4000002, [2, 3]), (4000003, [2, 3]), (4000004, [2, 3]), (4000005, [2, 3]), (4000006, [2, 3]), (4000007, [2])]
def od_bitset_Of : List (Nat × Ord) := []
noncomputable def E_bitset_Of : Env := ⟨0, 0, et_bitset_Of, tt_bitset_Of, fns_bitset_Of, [], od_bitset_Of, kp_bitset_Of, none, []⟩
set_option maxRecDepth 100000 in
set_option maxHeartbeats 40000000 in
theorem c_bitset_Of : PCon Go.Proofs.Tryd.prog 11 lf_bitset_Of := by
  rw [lq_bitset_Of]
  refine lift_conR (E := E_bitset_Of) (c := bodyOf Tryd.f11) (nt := 17) (rs := [.cell 2 26]) (ts := [26]) (EnvC.sub (off := 0) (nt := 0) (ords := od_bitset_Of) (keep := kp_bitset_Of) (yl := none) tt_ok et_ok fns_bitset_Of_ok (PrsOk.nil _) (ItsOk.nil _) tt_bitset_Of_ok et_bitset_Of_ok) (PrOk.of mixed_ok) Go.Proofs.Tryd.func11 rfl (by decide) rfl rfl rfl (pureR_one (e := (.arr 4 (.int .u64))) rfl) ?_
  intro x r hw hs
  repeat'
    (try (conv => whnf)
     first
       | (with_reducible have hs := letv_out hs)
       | (refine draw_and (by kernel_rfl) ?_)
       | (refine both_mk ?_ ?_)
       | (refine br_bool (fun h => ?_) (fun h => ?_) <;> first | have hs := cT h hs | have hs := cF h hs)
       | (refine bind_elim hs fun v hb hs => ?_; first | refine ck_bitset_Add rfl hb ?_)
       | refine chk_elim hs fun hs => ?_
       | (have hs := letv_out hs)
       | exact fin_some hs rfl
       | (intro b hb; first | have hs := nilq_elim hs b hb | have hs := nilqn_elim hs b hb)
       | exact hJ1 _ hs
       | (have hs := cT rfl hs)
       | (have hs := cF rfl hs)
       | (refine vc_loopR (bitset_Of_S1 _ _ _ _ _) bitset_Of_M1 hs rfl ?_; intro J1 k1 x1 hJ1 hs)
       | exact (none_ne hs).elim)
theorem cq_bitset_Of : PCon Go.Proofs.Tryd.prog 11 (liftF (.pair (.sl (.int .i64)) .unit) (unpack (.arr 4 (.int .u64))) (fun x => bitset_Of x.1)) := lq_bitset_Of ▸ c_bitset_Of
noncomputable def lf_bitset_Next : List AV → Option AV := liftF (.pair (.arr 4 (.int .u64)) (.pair (.int .i64) .unit)) (unpR (.pair (.int .i64) (.pair .bool .unit))) (fun x => bitset_Next x.1 x.2.1)
theorem lq_bitset_Next : lf_bitset_Next = liftF (.pair (.arr 4 (.int .u64)) (.pair (.int .i64) .unit)) (unpR (.pair (.int .i64) (.pair .bool .unit))) (fun x => bitset_Next x.1 x.2.1) := rfl
attribute [irreducible] lf_bitset_Next
theorem ck_bitset_Next {vs : List AV} {k : AV → Prop} {x : ((.pair (.arr 4 (.int .u64)) (.pair (.int .i64) .unit)) : Ty).den} {v : Int × Bool × Unit} (h1 : pks (.pair (.arr 4 (.int .u64)) (.pair (.int .i64) .unit)) vs = some x) (h2 : bitset_Next x.1 x.2.1 = some v) (h3 : k ((unpR (.pair (.int .i64) (.pair .bool .unit))) v)) : callK (lf_bitset_Next vs) k := by
  rw [lq_bitset_Next]; exact callK_lift h1 h2 h3
def tt_bitset_Next : List (Nat × Ty) := [(3, .int .i64), (4, .bool), (24, .int .u64), (26, .arr 4 (.int .u64))]
def et_bitset_Next : List (Nat × Nat) := []
theorem tt_bitset_Next_ok : subT tt tt_bitset_Next = true := by kernel_rfl
theorem et_bitset_Next_ok : subE et et_bitset_Next = true := by kernel_rfl
noncomputable def fns_bitset_Next : List (Nat × (List AV → Option AV)) := [(52, lf_math_bits_TrailingZeros64)]
theorem fns_bitset_Next_ok : FnsOk Go.Proofs.Tryd.prog fns_bitset_Next := FnsOk.cons c_math_bits_TrailingZeros64 (FnsOk.nil _)
def bitset_Next_S1 (u0 : AV) (u1 : AV) (B3 : Blk) (x1 : Int) : St :=
  ⟨[(1, u0), (2, u1), (6, .int .i64 x1)], [(2, B3)], none⟩
def bitset_Next_M1 : Msk := ⟨[1, 2, 6], [2], [], [], [], [], [], [], []⟩
def kp_bitset_Next : List (Nat × List Nat) := [(0, [1, 2]), (1, [1, 2]), (2, [1, 2, 6]), (3, [1, 2, 6, 13]), (4, [1, 2, 6]), (5, [1, 2, 6, 7]), (6, [1, 2, 6, 7, 22]), (7, [1, 2, 6, 7]), (8, [1, 2, 6, 7, 31]), (9, [4, 5]), (10, [4, 5]), (4000000, [2]), (4000001, [2]), (4000002, [2]), (4000003, [2]), (4000004, [2]), (4000005, [2]), (4000006, [2]), (4000007, [2]), (4000008, [2]), (4000009, []), (4000010, [])]
def od_bitset_Next : List (Nat × Ord) := []
noncomputable def E_bitset_Next : Env := ⟨0, 0, et_bitset_Next, tt_bitset_Next, fns_bitset_Next, [], od_bitset_Next, kp_bitset_Next, none, []⟩
set_option maxRecDepth 100000 in
set_option maxHeartbeats 40000000 in
theorem c_bitset_Next : PCon Go.Proofs.Tryd.prog 13 lf_bitset_Next := by
  rw [lq_bitset_Next]
  refine lift_conR (E := E_bitset_Next) (c := bodyOf Tryd.f13) (nt := 37) (rs := [.tmp 4, .tmp 5]) (ts := [3, 4]) (EnvC.sub (off := 0) (nt := 0) (ords := od_bitset_Next) (keep := kp_bitset_Next) (yl := none) tt_ok et_ok fns_bitset_Next_ok (PrsOk.nil _) (ItsOk.nil _) tt_bitset_Next_ok et_bitset_Next_ok) (PrOk.of mixed_ok) Go.Proofs.Tryd.func13 rfl (by decide) rfl rfl rfl (pureR_many (e := (.pair (.int .i64) (.pair .bool .unit))) rfl) ?_
  intro x r hw hs
  repeat'
    (try (conv => whnf)
     first
       | (with_reducible have hs := letv_out hs)
       | (refine draw_and (by kernel_rfl) ?_)
       | (refine both_mk ?_ ?_)
       | (refine br_bool (fun h => ?_) (fun h => ?_) <;> first | have hs := cT h hs | have hs := cF h hs)
       | (refine bind_elim hs fun v hb hs => ?_; first | refine ck_math_bits_TrailingZeros64 rfl hb ?_)
       | refine chk_elim hs fun hs => ?_
       | (have hs := letv_out hs)
       | exact fin_some hs rfl
       | (intro b hb; first | have hs := nilq_elim hs b hb | have hs := nilqn_elim hs b hb)
       | exact hJ1 _ hs
       | (have hs := cT rfl hs)
       | (have hs := cF rfl hs)
       | (refine vc_loopR (bitset_Next_S1 _ _ _) bitset_Next_M1 hs rfl ?_; intro J1 k1 x1 hJ1 hs)
       | exact (none_ne hs).elim)
theorem cq_bitset_Next : PCon Go.Proofs.Tryd.prog 13 (liftF (.pair (.arr 4 (.int .u64)) (.pair (.int .i64) .unit)) (unpR (.pair (.int .i64) (.pair .bool .unit))) (fun x => bitset_Next x.1 x.2.1)) := lq_bitset_Next ▸ c_bitset_Next
noncomputable def lf_bitset_List : List AV → Option AV := liftF (.pair (.arr 4 (.int .u64)) .unit) (unpack (.sl (.int .i64))) (fun x => bitset_List x.1)
theorem lq_bitset_List : lf_bitset_List = liftF (.pair (.arr 4 (.int .u64)) .unit) (unpack (.sl (.int .i64))) (fun x => bitset_List x.1) := rfl
attribute [irreducible] lf_bitset_List
theorem ck_bitset_List {vs : List AV} {k : AV → Prop} {x : ((.pair (.arr 4 (.int .u64)) .unit) : Ty).den} {v : List Int} (h1 : pks (.pair (.arr 4 (.int .u64)) .unit) vs = some x) (h2 : bitset_List x.1 = some v) (h3 : k ((unpack (.sl (.int .i64))) v)) : callK (lf_bitset_List vs) k := by
  rw [lq_bitset_List]; exact callK_lift h1 h2 h3
def tt_bitset_List : List (Nat × Ty) := [(3, .int .i64), (4, .bool), (22, .sl (.int .i64)), (26, .arr 4 (.int .u64)), (41, .opq 1)]
def et_bitset_List : List (Nat × Nat) := [(22, 3)]
theorem tt_bitset_List_ok : subT tt tt_bitset_List = true := by kernel_rfl
theorem et_bitset_List_ok : subE et et_bitset_List = true := by kernel_rfl
noncomputable def fns_bitset_List : List (Nat × (List AV → Option AV)) := [(13, lf_bitset_Next)]
theorem fns_bitset_List_ok : FnsOk Go.Proofs.Tryd.prog fns_bitset_List := FnsOk.cons c_bitset_Next (FnsOk.nil _)
def kp_bitset_List_56 : List (Nat × List Nat) := [(0, [0, 1, 3, 4]), (1, [0, 1, 3, 10]), (2, [0, 1, 3, 4]), (3, [0, 1, 3, 21])]
def od_bitset_List_56 : List (Nat × Ord) := []
noncomputable def E_bitset_List_56 : Env := ⟨0, 0, et_bitset_List, tt_bitset_List, fns_bitset_List, [], od_bitset_List_56, kp_bitset_List_56, none, []⟩
noncomputable def it_bitset_List_56 : List (Nat × (Nat → (List Nat → Proc) → Proc)) := (56, itR E_bitset_List_56 22 [] (bodyOf Tryd.f56)) :: []
theorem it_bitset_List_56_ok : ItsOk Go.Proofs.Tryd.prog it_bitset_List_56 :=
  ItsOk.cons (it_conR (E := E_bitset_List_56) (EnvC.sub (off := 0) (nt := 0) (ords := od_bitset_List_56) (keep := kp_bitset_List_56) (yl := none) tt_ok et_ok fns_bitset_List_ok (PrsOk.nil _) (ItsOk.nil _) tt_bitset_List_ok et_bitset_List_ok) (PrOk.of mixed_ok) Go.Proofs.Tryd.func56 rfl (by decide) rfl rfl) (ItsOk.nil _)
def kp_bitset_List_25 : List (Nat × List Nat) := [(0, [1]), (1, [2])]
def od_bitset_List_25 : List (Nat × Ord) := []
noncomputable def E_bitset_List_25 : Env := ⟨0, 0, et_bitset_List, tt_bitset_List, fns_bitset_List, [], od_bitset_List_25, kp_bitset_List_25, none, it_bitset_List_56⟩
noncomputable def pr_bitset_List_25 : List (Nat × Proc) := (25, procR E_bitset_List_25 4 [.tmp 2] (bodyOf Tryd.f25)) :: []
theorem pr_bitset_List_25_ok : PrsOk Go.Proofs.Tryd.prog pr_bitset_List_25 :=
  PrsOk.cons (proc_conR (E := E_bitset_List_25) (EnvC.sub (off := 0) (nt := 0) (ords := od_bitset_List_25) (keep := kp_bitset_List_25) (yl := none) tt_ok et_ok fns_bitset_List_ok (PrsOk.nil _) (it_bitset_List_56_ok) tt_bitset_List_ok et_bitset_List_ok) (PrOk.of mixed_ok) Go.Proofs.Tryd.func25 rfl (by decide) rfl rfl) (PrsOk.nil _)
def bitset_List_S1 (u0 : AV) (u1 : AV) (B3 : Blk) (B5 : Blk) (x2 : Int × Bool × List Int) : St :=
  ⟨[(0, u0), (1, u1), (3, .int .i64 x2.1), (4, .bool x2.2.1)], [(3, B3), (11, .row 3 (.int .i64) x2.2.2 false), (7169, B5)], (some ([10, 11], 0))⟩
def bitset_List_M1 : Msk := ⟨[0, 1, 3, 4], [3, 11, 7169], [], [(3, [], 11, 22)], [10, 11], [], [], [], []⟩
def bitset_List_Q1 (x1 : List Int) : St :=
  ⟨[(3, .ptr 3 []), (6, .fn (.func 56) [] [.ptr 7169 []])], [(3, .var (.sl (.int .i64)) (.con (.slice none 0 0)) false), (7169, .var (.arr 4 (.int .u64)) (.arr 4 (.int .u64) x1) false)], none⟩
def kp_bitset_List : List (Nat × List Nat) := [(0, [1]), (1, [1, 3]), (2, [3, 6]), (3, [3, 4]), (4, []), (5, [2]), (25000006, []), (20000006, [3, 6]), (24000006, [3, 7169]), (26000006, []), (4000000, [1]), (4000001, [1, 3]), (4000002, [3, 7169]), (4000003, [3, 11, 7169]), (4000004, [3, 11, 7169]), (4000005, [11])]
def od_bitset_List : List (Nat × Ord) := []
noncomputable def E_bitset_List : Env := ⟨0, 0, et_bitset_List, tt_bitset_List, fns_bitset_List, pr_bitset_List_25, od_bitset_List, kp_bitset_List, none, it_bitset_List_56⟩
set_option maxRecDepth 100000 in
set_option maxHeartbeats 40000000 in
theorem c_bitset_List : PCon Go.Proofs.Tryd.prog 17 lf_bitset_List := by
  rw [lq_bitset_List]
  refine lift_conR (E := E_bitset_List) (c := bodyOf Tryd.f17) (nt := 13) (rs := [.tmp 2]) (ts := [22]) (EnvC.sub (off := 0) (nt := 0) (ords := od_bitset_List) (keep := kp_bitset_List) (yl := none) tt_ok et_ok fns_bitset_List_ok (pr_bitset_List_25_ok) (it_bitset_List_56_ok) tt_bitset_List_ok et_bitset_List_ok) (PrOk.of mixed_ok) Go.Proofs.Tryd.func17 rfl (by decide) rfl rfl rfl (pureR_one (e := (.sl (.int .i64))) rfl) ?_
  intro x r hw hs
  repeat'
    (try (conv => whnf)
     first
       | (with_reducible have hs := letv_out hs)
       | (refine draw_and (by kernel_rfl) ?_)
       | (refine both_mk ?_ ?_)
       | (refine br_bool (fun h => ?_) (fun h => ?_) <;> first | have hs := cT h hs | have hs := cF h hs)
       | (refine bind_elim hs fun v hb hs => ?_; first | refine ck_bitset_Next rfl hb ?_)
       | refine chk_elim hs fun hs => ?_
       | (have hs := letv_out hs)
       | exact fin_some hs rfl
       | (intro b hb; first | have hs := nilq_elim hs b hb | have hs := nilqn_elim hs b hb)
       | exact hJ1 _ hs
       | exact hC1 _ hs
       | (refine cut_out 1 bitset_List_Q1 hs (fun Jc1 kc1 hC1 hs => ?_) (fun xc1 hs => ?_))
       | (have hs := cT rfl hs)
       | (have hs := cF rfl hs)
       | (refine vc_loopR (bitset_List_S1 _ _ _ _) bitset_List_M1 hs rfl ?_; intro J1 k1 x1 hJ1 hs)
       | (refine eqP_mk ?_)
       | (intro l)
       | exact (none_ne hs).elim)
theorem cq_bitset_List : PCon Go.Proofs.Tryd.prog 17 (liftF (.pair (.arr 4 (.int .u64)) .unit) (unpack (.sl (.int .i64))) (fun x => bitset_List x.1)) := lq_bitset_List ▸ c_bitset_List
noncomputable def lf_bitset_Len : List AV → Option AV := liftF (.pair (.arr 4 (.int .u64)) .unit) (unpack (.int .i64)) (fun x => bitset_Len x.1)
theorem lq_bitset_Len : lf_bitset_Len = liftF (.pair (.arr 4 (.int .u64)) .unit) (unpack (.int .i64)) (fun x => bitset_Len x.1) := rfl
attribute [irreducible] lf_bitset_Len
theorem ck_bitset_Len {vs : List AV} {k : AV → Prop} {x : ((.pair (.arr 4 (.int .u64)) .unit) : Ty).den} {v : Int} (h1 : pks (.pair (.arr 4 (.int .u64)) .unit) vs = some x) (h2 : bitset_Len x.1 = some v) (h3 : k ((unpack (.int .i64)) v)) : callK (lf_bitset_Len vs) k := by
  rw [lq_bitset_Len]; exact callK_lift h1 h2 h3
def tt_bitset_Len : List (Nat × Ty) := [(3, .int .i64), (24, .int .u64), (26, .arr 4 (.int .u64))]
def et_bitset_Len : List (Nat × Nat) := []
theorem tt_bitset_Len_ok : subT tt tt_bitset_Len = true := by kernel_rfl
theorem et_bitset_Len_ok : subE et et_bitset_Len = true := by kernel_rfl
noncomputable def fns_bitset_Len : List (Nat × (List AV → Option AV)) := [(54, lf_math_bits_OnesCount64)]
theorem fns_bitset_Len_ok : FnsOk Go.Proofs.Tryd.prog fns_bitset_Len := FnsOk.cons c_math_bits_OnesCount64 (FnsOk.nil _)
def bitset_Len_S1 (u0 : AV) (x1 : Int × Int) : St :=
  ⟨[(3, .int .i64 x1.1), (6, u0), (7, .int .i64 x1.2)], [], none⟩
def bitset_Len_M1 : Msk := ⟨[3, 6, 7], [], [], [], [], [], [], [], []⟩
def kp_bitset_Len : List (Nat × List Nat) := [(0, [1]), (1, [1, 3]), (2, [3, 6, 7]), (3, [3, 6, 7, 8]), (4, [3, 5, 6, 7]), (5, [3, 6, 7]), (6, [3, 6, 7]), (7, [2]), (4000000, [1]), (4000001, [1]), (4000002, []), (4000003, []), (4000004, []), (4000005, []), (4000006, []), (4000007, [])]
def od_bitset_Len : List (Nat × Ord) := []
noncomputable def E_bitset_Len : Env := ⟨0, 0, et_bitset_Len, tt_bitset_Len, fns_bitset_Len, [], od_bitset_Len, kp_bitset_Len, none, []⟩
set_option maxRecDepth 100000 in
set_option maxHeartbeats 40000000 in
theorem c_bitset_Len : PCon Go.Proofs.Tryd.prog 18 lf_bitset_Len := by
  rw [lq_bitset_Len]
  refine lift_conR (E := E_bitset_Len) (c := bodyOf Tryd.f18) (nt := 16) (rs := [.tmp 2]) (ts := [3]) (EnvC.sub (off := 0) (nt := 0) (ords := od_bitset_Len) (keep := kp_bitset_Len) (yl := none) tt_ok et_ok fns_bitset_Len_ok (PrsOk.nil _) (ItsOk.nil _) tt_bitset_Len_ok et_bitset_Len_ok) (PrOk.of mixed_ok) Go.Proofs.Tryd.func18 rfl (by decide) rfl rfl rfl (pureR_one (e := (.int .i64)) rfl) ?_
  intro x r hw hs
  repeat'
    (try (conv => whnf)
     first
       | (with_reducible have hs := letv_out hs)
       | (refine draw_and (by kernel_rfl) ?_)
       | (refine both_mk ?_ ?_)
       | (refine br_bool (fun h => ?_) (fun h => ?_) <;> first | have hs := cT h hs | have hs := cF h hs)
       | (refine bind_elim hs fun v hb hs => ?_; first | refine ck_math_bits_OnesCount64 rfl hb ?_)
       | refine chk_elim hs fun hs => ?_
       | (have hs := letv_out hs)
       | exact fin_some hs rfl
       | (intro b hb; first | have hs := nilq_elim hs b hb | have hs := nilqn_elim hs b hb)
       | exact hJ1 _ hs
       | (have hs := cT rfl hs)
       | (have hs := cF rfl hs)
       | (refine vc_loopR (bitset_Len_S1 _) bitset_Len_M1 hs rfl ?_; intro J1 k1 x1 hJ1 hs)
       | exact (none_ne hs).elim)
theorem cq_bitset_Len : PCon Go.Proofs.Tryd.prog 18 (liftF (.pair (.arr 4 (.int .u64)) .unit) (unpack (.int .i64)) (fun x => bitset_Len x.1)) := lq_bitset_Len ▸ c_bitset_Len
noncomputable def lf_bitset_Has : List AV → Option AV := liftF (.pair (.arr 4 (.int .u64)) (.pair (.int .i64) .unit)) (unpack .bool) (fun x => bitset_Has x.1 x.2.1)
theorem lq_bitset_Has : lf_bitset_Has = liftF (.pair (.arr 4 (.int .u64)) (.pair (.int .i64) .unit)) (unpack .bool) (fun x => bitset_Has x.1 x.2.1) := rfl
attribute [irreducible] lf_bitset_Has
theorem ck_bitset_Has {vs : List AV} {k : AV → Prop} {x : ((.pair (.arr 4 (.int .u64)) (.pair (.int .i64) .unit)) : Ty).den} {v : Bool} (h1 : pks (.pair (.arr 4 (.int .u64)) (.pair (.int .i64) .unit)) vs = some x) (h2 : bitset_Has x.1 x.2.1 = some v) (h3 : k ((unpack .bool) v)) : callK (lf_bitset_Has vs) k := by
  rw [lq_bitset_Has]; exact callK_lift h1 h2 h3
def tt_bitset_Has : List (Nat × Ty) := [(3, .int .i64), (4, .bool), (24, .int .u64), (26, .arr 4 (.int .u64))]
def et_bitset_Has : List (Nat × Nat) := []
theorem tt_bitset_Has_ok : subT tt tt_bitset_Has = true := by kernel_rfl
theorem et_bitset_Has_ok : subE et et_bitset_Has = true := by kernel_rfl
noncomputable def fns_bitset_Has : List (Nat × (List AV → Option AV)) := [(55, lf_bitset_fine)]
theorem fns_bitset_Has_ok : FnsOk Go.Proofs.Tryd.prog fns_bitset_Has := FnsOk.cons c_bitset_fine (FnsOk.nil _)
def kp_bitset_Has : List (Nat × List Nat) := [(0, [1, 2]), (1, [4]), (4000000, [2]), (4000001, [])]
def od_bitset_Has : List (Nat × Ord) := []
noncomputable def E_bitset_Has : Env := ⟨0, 0, et_bitset_Has, tt_bitset_Has, fns_bitset_Has, [], od_bitset_Has, kp_bitset_Has, none, []⟩
set_option maxRecDepth 100000 in
set_option maxHeartbeats 40000000 in
theorem c_bitset_Has : PCon Go.Proofs.Tryd.prog 19 lf_bitset_Has := by
  rw [lq_bitset_Has]
  refine lift_conR (E := E_bitset_Has) (c := bodyOf Tryd.f19) (nt := 18) (rs := [.tmp 4]) (ts := [4]) (EnvC.sub (off := 0) (nt := 0) (ords := od_bitset_Has) (keep := kp_bitset_Has) (yl := none) tt_ok et_ok fns_bitset_Has_ok (PrsOk.nil _) (ItsOk.nil _) tt_bitset_Has_ok et_bitset_Has_ok) (PrOk.of mixed_ok) Go.Proofs.Tryd.func19 rfl (by decide) rfl rfl rfl (pureR_one (e := .bool) rfl) ?_
  intro x r hw hs
  repeat'
    (try (conv => whnf)
     first
       | (with_reducible have hs := letv_out hs)
       | (refine draw_and (by kernel_rfl) ?_)
       | (refine both_mk ?_ ?_)
       | (refine br_bool (fun h => ?_) (fun h => ?_) <;> first | have hs := cT h hs | have hs := cF h hs)
       | (refine bind_elim hs fun v hb hs => ?_; first | refine ck_bitset_fine rfl hb ?_)
       | refine chk_elim hs fun hs => ?_
       | (have hs := letv_out hs)
       | exact fin_some hs rfl
       | (intro b hb; first | have hs := nilq_elim hs b hb | have hs := nilqn_elim hs b hb)
       | (have hs := cT rfl hs)
       | (have hs := cF rfl hs)
       | exact (none_ne hs).elim)
theorem cq_bitset_Has : PCon Go.Proofs.Tryd.prog 19 (liftF (.pair (.arr 4 (.int .u64)) (.pair (.int .i64) .unit)) (unpack .bool) (fun x => bitset_Has x.1 x.2.1)) := lq_bitset_Has ▸ c_bitset_Has
noncomputable def lf_bitset_Drop : List AV → Option AV := liftF (.pair (.arr 4 (.int .u64)) (.pair (.int .i64) .unit)) (unpack (.arr 4 (.int .u64))) (fun x => bitset_Drop x.1 x.2.1)
theorem lq_bitset_Drop : lf_bitset_Drop = liftF (.pair (.arr 4 (.int .u64)) (.pair (.int .i64) .unit)) (unpack (.arr 4 (.int .u64))) (fun x => bitset_Drop x.1 x.2.1) := rfl
attribute [irreducible] lf_bitset_Drop
theorem ck_bitset_Drop {vs : List AV} {k : AV → Prop} {x : ((.pair (.arr 4 (.int .u64)) (.pair (.int .i64) .unit)) : Ty).den} {v : List Int} (h1 : pks (.pair (.arr 4 (.int .u64)) (.pair (.int .i64) .unit)) vs = some x) (h2 : bitset_Drop x.1 x.2.1 = some v) (h3 : k ((unpack (.arr 4 (.int .u64))) v)) : callK (lf_bitset_Drop vs) k := by
  rw [lq_bitset_Drop]; exact callK_lift h1 h2 h3
def tt_bitset_Drop : List (Nat × Ty) := [(3, .int .i64), (24, .int .u64), (26, .arr 4 (.int .u64))]
def et_bitset_Drop : List (Nat × Nat) := []
theorem tt_bitset_Drop_ok : subT tt tt_bitset_Drop = true := by kernel_rfl
theorem et_bitset_Drop_ok : subE et et_bitset_Drop = true := by kernel_rfl
noncomputable def fns_bitset_Drop : List (Nat × (List AV → Option AV)) := [(55, lf_bitset_fine)]
theorem fns_bitset_Drop_ok : FnsOk Go.Proofs.Tryd.prog fns_bitset_Drop := FnsOk.cons c_bitset_fine (FnsOk.nil _)
def kp_bitset_Drop : List (Nat × List Nat) := [(0, [1, 2, 4]), (1, [1, 2, 4, 6]), (2, [2, 4]), (3, [4]), (4000000, [2, 4]), (4000001, [2, 4]), (4000002, [2, 4]), (4000003, [4])]
def od_bitset_Drop : List (Nat × Ord) := [(2, (.one 0 (.one 1 (.one 2 (.one 3 (.one 4 (.one 5 (.one 6 (.one 7 (.one 8 (.one 100009 .nil)))))))))))]
noncomputable def E_bitset_Drop : Env := ⟨0, 0, et_bitset_Drop, tt_bitset_Drop, fns_bitset_Drop, [], od_bitset_Drop, kp_bitset_Drop, none, []⟩
set_option maxRecDepth 100000 in
set_option maxHeartbeats 40000000 in
theorem c_bitset_Drop : PCon Go.Proofs.Tryd.prog 23 lf_bitset_Drop := by
  rw [lq_bitset_Drop]
  refine lift_conR (E := E_bitset_Drop) (c := bodyOf Tryd.f23) (nt := 17) (rs := [.cell 4 26]) (ts := [26]) (EnvC.sub (off := 0) (nt := 0) (ords := od_bitset_Drop) (keep := kp_bitset_Drop) (yl := none) tt_ok et_ok fns_bitset_Drop_ok (PrsOk.nil _) (ItsOk.nil _) tt_bitset_Drop_ok et_bitset_Drop_ok) (PrOk.of mixed_ok) Go.Proofs.Tryd.func23 rfl (by decide) rfl rfl rfl (pureR_one (e := (.arr 4 (.int .u64))) rfl) ?_
  intro x r hw hs
  repeat'
    (try (conv => whnf)
     first
       | (with_reducible have hs := letv_out hs)
       | (refine draw_and (by kernel_rfl) ?_)
       | (refine both_mk ?_ ?_)
       | (refine br_bool (fun h => ?_) (fun h => ?_) <;> first | have hs := cT h hs | have hs := cF h hs)
       | (refine bind_elim hs fun v hb hs => ?_; first | refine ck_bitset_fine rfl hb ?_)
       | refine chk_elim hs fun hs => ?_
       | (have hs := letv_out hs)
       | exact fin_some hs rfl
       | (intro b hb; first | have hs := nilq_elim hs b hb | have hs := nilqn_elim hs b hb)
       | (have hs := cT rfl hs)
       | (have hs := cF rfl hs)
       | exact (none_ne hs).elim)
theorem cq_bitset_Drop : PCon Go.Proofs.Tryd.prog 23 (liftF (.pair (.arr 4 (.int .u64)) (.pair (.int .i64) .unit)) (unpack (.arr 4 (.int .u64))) (fun x => bitset_Drop x.1 x.2.1)) := lq_bitset_Drop ▸ c_bitset_Drop
noncomputable def lf_bitset_Less_1 : List AV → Option AV := liftF (.pair (.int .u64) (.pair (.int .u64) .unit)) (unpack (.int .u64)) (fun x => bitset_Less_1 x.1 x.2.1)
theorem lq_bitset_Less_1 : lf_bitset_Less_1 = liftF (.pair (.int .u64) (.pair (.int .u64) .unit)) (unpack (.int .u64)) (fun x => bitset_Less_1 x.1 x.2.1) := rfl
attribute [irreducible] lf_bitset_Less_1
theorem ck_bitset_Less_1 {vs : List AV} {k : AV → Prop} {x : ((.pair (.int .u64) (.pair (.int .u64) .unit)) : Ty).den} {v : Int} (h1 : pks (.pair (.int .u64) (.pair (.int .u64) .unit)) vs = some x) (h2 : bitset_Less_1 x.1 x.2.1 = some v) (h3 : k ((unpack (.int .u64)) v)) : callK (lf_bitset_Less_1 vs) k := by
  rw [lq_bitset_Less_1]; exact callK_lift h1 h2 h3
def tt_bitset_Less_1 : List (Nat × Ty) := [(24, .int .u64)]
def et_bitset_Less_1 : List (Nat × Nat) := []
theorem tt_bitset_Less_1_ok : subT tt tt_bitset_Less_1 = true := by kernel_rfl
theorem et_bitset_Less_1_ok : subE et et_bitset_Less_1 = true := by kernel_rfl
noncomputable def fns_bitset_Less_1 : List (Nat × (List AV → Option AV)) := []
theorem fns_bitset_Less_1_ok : FnsOk Go.Proofs.Tryd.prog fns_bitset_Less_1 := FnsOk.nil _
def kp_bitset_Less_1 : List (Nat × List Nat) := [(0, [0, 1]), (1, [4]), (4000000, []), (4000001, [])]
def od_bitset_Less_1 : List (Nat × Ord) := []
noncomputable def E_bitset_Less_1 : Env := ⟨0, 0, et_bitset_Less_1, tt_bitset_Less_1, fns_bitset_Less_1, [], od_bitset_Less_1, kp_bitset_Less_1, none, []⟩
set_option maxRecDepth 100000 in
set_option maxHeartbeats 40000000 in
theorem c_bitset_Less_1 : PCon Go.Proofs.Tryd.prog 60 lf_bitset_Less_1 := by
  rw [lq_bitset_Less_1]
  refine lift_conR (E := E_bitset_Less_1) (c := bodyOf Tryd.f60) (nt := 8) (rs := [.tmp 4]) (ts := [24]) (EnvC.sub (off := 0) (nt := 0) (ords := od_bitset_Less_1) (keep := kp_bitset_Less_1) (yl := none) tt_ok et_ok fns_bitset_Less_1_ok (PrsOk.nil _) (ItsOk.nil _) tt_bitset_Less_1_ok et_bitset_Less_1_ok) (PrOk.of mixed_ok) Go.Proofs.Tryd.func60 rfl (by decide) rfl rfl rfl (pureR_one (e := (.int .u64)) rfl) ?_
  intro x r hw hs
  repeat'
    (try (conv => whnf)
     first
       | (with_reducible have hs := letv_out hs)
       | (refine draw_and (by kernel_rfl) ?_)
       | (refine both_mk ?_ ?_)
       | (refine br_bool (fun h => ?_) (fun h => ?_) <;> first | have hs := cT h hs | have hs := cF h hs)
       | refine chk_elim hs fun hs => ?_
       | (have hs := letv_out hs)
       | exact fin_some hs rfl
       | (intro b hb; first | have hs := nilq_elim hs b hb | have hs := nilqn_elim hs b hb)
       | (have hs := cT rfl hs)
       | (have hs := cF rfl hs)
       | exact (none_ne hs).elim)
theorem cq_bitset_Less_1 : PCon Go.Proofs.Tryd.prog 60 (liftF (.pair (.int .u64) (.pair (.int .u64) .unit)) (unpack (.int .u64)) (fun x => bitset_Less_1 x.1 x.2.1)) := lq_bitset_Less_1 ▸ c_bitset_Less_1
noncomputable def lf_bitset_Less : List AV → Option AV := liftF (.pair (.arr 4 (.int .u64)) (.pair (.arr 4 (.int .u64)) .unit)) (unpack (.arr 4 (.int .u64))) (fun x => bitset_Less x.1 x.2.1)
theorem lq_bitset_Less : lf_bitset_Less = liftF (.pair (.arr 4 (.int .u64)) (.pair (.arr 4 (.int .u64)) .unit)) (unpack (.arr 4 (.int .u64))) (fun x => bitset_Less x.1 x.2.1) := rfl
attribute [irreducible] lf_bitset_Less
theorem ck_bitset_Less {vs : List AV} {k : AV → Prop} {x : ((.pair (.arr 4 (.int .u64)) (.pair (.arr 4 (.int .u64)) .unit)) : Ty).den} {v : List Int} (h1 : pks (.pair (.arr 4 (.int .u64)) (.pair (.arr 4 (.int .u64)) .unit)) vs = some x) (h2 : bitset_Less x.1 x.2.1 = some v) (h3 : k ((unpack (.arr 4 (.int .u64))) v)) : callK (lf_bitset_Less vs) k := by
  rw [lq_bitset_Less]; exact callK_lift h1 h2 h3
def tt_bitset_Less : List (Nat × Ty) := [(3, .int .i64), (24, .int .u64), (26, .arr 4 (.int .u64)), (80, .opq 1)]
def et_bitset_Less : List (Nat × Nat) := []
theorem tt_bitset_Less_ok : subT tt tt_bitset_Less = true := by kernel_rfl
theorem et_bitset_Less_ok : subE et et_bitset_Less = true := by kernel_rfl
noncomputable def fns_bitset_Less : List (Nat × (List AV → Option AV)) := [(60, lf_bitset_Less_1)]
theorem fns_bitset_Less_ok : FnsOk Go.Proofs.Tryd.prog fns_bitset_Less := FnsOk.cons c_bitset_Less_1 (FnsOk.nil _)
def kp_bitset_Less_57 : List (Nat × List Nat) := [(0, [2, 3, 4, 6]), (1, [2, 3, 4, 6, 8]), (2, [2, 3, 4, 6, 8, 9]), (3, [2, 3, 4, 6, 7, 8]), (4, [2, 3, 4, 6, 8]), (5, [2, 3, 4, 6, 8]), (6, [6]), (5000004, []), (819204000004, [2, 3, 4, 8195, 8196, 8198]), (819206000004, [])]
def od_bitset_Less_57 : List (Nat × Ord) := [(4, (.one 0 (.one 1 (.one 2 (.one 3 (.one 5 (.one 6 (.alt (.cons 4 (.one 200007 (.one 200008 (.one 9 (.one 200010 .nil)))) (.cons 7 (.one 200004 (.one 200008 (.one 9 (.one 200010 .nil)))) .nil))))))))))]
noncomputable def E_bitset_Less_57 : Env := ⟨0, 0, et_bitset_Less, tt_bitset_Less, fns_bitset_Less, [], od_bitset_Less_57, kp_bitset_Less_57, none, []⟩
noncomputable def pr_bitset_Less_57 : List (Nat × Proc) := (57, procR E_bitset_Less_57 23 [.cell 6 26] (bodyOf Tryd.f57)) :: []
theorem pr_bitset_Less_57_ok : PrsOk Go.Proofs.Tryd.prog pr_bitset_Less_57 :=
  PrsOk.cons (proc_conR (E := E_bitset_Less_57) (EnvC.sub (off := 0) (nt := 0) (ords := od_bitset_Less_57) (keep := kp_bitset_Less_57) (yl := none) tt_ok et_ok fns_bitset_Less_ok (PrsOk.nil _) (ItsOk.nil _) tt_bitset_Less_ok et_bitset_Less_ok) (PrOk.of mixed_ok) Go.Proofs.Tryd.func57 rfl (by decide) rfl rfl) (PrsOk.nil _)
def bitset_Less_S1 (u0 : AV) (u1 : AV) (u2 : AV) (u3 : AV) (x2 : Int × List Int × List Int × List Int × List Int × List Int × List Int) : St :=
  ⟨[(2, u0), (3, u1), (4, u2), (6, u3), (8, .int .i64 x2.1)], [(2, .var (.arr 4 (.int .u64)) (.arr 4 (.int .u64) x2.2.1) false), (3, .var (.arr 4 (.int .u64)) (.arr 4 (.int .u64) x2.2.2.1) false), (4, .var (.arr 4 (.int .u64)) (.arr 4 (.int .u64) x2.2.2.2.1) false), (8195, .var (.arr 4 (.int .u64)) (.arr 4 (.int .u64) x2.2.2.2.2.1) false), (8196, .var (.arr 4 (.int .u64)) (.arr 4 (.int .u64) x2.2.2.2.2.2.1) false), (8198, .var (.arr 4 (.int .u64)) (.arr 4 (.int .u64) x2.2.2.2.2.2.2) false)], (some ([], 0))⟩
def bitset_Less_M1 : Msk := ⟨[2, 3, 4, 6, 8], [2, 3, 4, 8195, 8196, 8198], [], [], [], [], [], [], []⟩
def bitset_Less_Q1 (x3 : Int × List Int × List Int × List Int × List Int × List Int × List Int) : St :=
  ⟨[(2, .fn (.func 60) [] []), (3, .ptr 8195 []), (4, .ptr 8196 []), (6, .ptr 8198 []), (8, .int .i64 x3.1)], [(2, .var (.arr 4 (.int .u64)) (.arr 4 (.int .u64) x3.2.1) false), (3, .var (.arr 4 (.int .u64)) (.arr 4 (.int .u64) x3.2.2.1) false), (4, .var (.arr 4 (.int .u64)) (.arr 4 (.int .u64) x3.2.2.2.1) false), (8195, .var (.arr 4 (.int .u64)) (.arr 4 (.int .u64) x3.2.2.2.2.1) false), (8196, .var (.arr 4 (.int .u64)) (.arr 4 (.int .u64) x3.2.2.2.2.2.1) false), (8198, .var (.arr 4 (.int .u64)) (.arr 4 (.int .u64) x3.2.2.2.2.2.2) false)], (some ([], 0))⟩
def bitset_Less_Q2 (x1 : List Int × List Int) : St :=
  ⟨[(4, .ptr 4 []), (7, .arr 4 (.int .u64) x1.1)], [(4, .var (.arr 4 (.int .u64)) (.arr 4 (.int .u64) x1.2) false)], none⟩
def kp_bitset_Less : List (Nat × List Nat) := [(0, [2, 3, 4]), (1, [4]), (25000007, []), (20000007, [4, 7]), (24000007, [4]), (26000007, []), (4000000, [2, 3, 4]), (4000001, [4])]
def od_bitset_Less : List (Nat × Ord) := []
noncomputable def E_bitset_Less : Env := ⟨0, 0, et_bitset_Less, tt_bitset_Less, fns_bitset_Less, pr_bitset_Less_57, od_bitset_Less, kp_bitset_Less, none, []⟩
set_option maxRecDepth 100000 in
set_option maxHeartbeats 40000000 in
theorem c_bitset_Less : PCon Go.Proofs.Tryd.prog 30 lf_bitset_Less := by
  rw [lq_bitset_Less]
  refine lift_conR (E := E_bitset_Less) (c := bodyOf Tryd.f30) (nt := 8) (rs := [.cell 4 26]) (ts := [26]) (EnvC.sub (off := 0) (nt := 0) (ords := od_bitset_Less) (keep := kp_bitset_Less) (yl := none) tt_ok et_ok fns_bitset_Less_ok (pr_bitset_Less_57_ok) (ItsOk.nil _) tt_bitset_Less_ok et_bitset_Less_ok) (PrOk.of mixed_ok) Go.Proofs.Tryd.func30 rfl (by decide) rfl rfl rfl (pureR_one (e := (.arr 4 (.int .u64))) rfl) ?_
  intro x r hw hs
  have hks := True.intro
  have hbs := True.intro
  repeat'
    (try (conv => whnf)
     first
       | (with_reducible have hs := letv_out hs)
       | (refine draw_and (by kernel_rfl) ?_)
       | (refine both_mk ?_ ?_)
       | (refine br_bool (fun h => ?_) (fun h => ?_) <;> first | have hs := cT h hs | have hs := cF h hs)
       | (refine bind_elim hs fun v hb hs => ?_; first | refine ck_bitset_Less_1 rfl hb ?_)
       | refine chk_elim hs fun hs => ?_
       | (have hs := letv_out hs)
       | exact fin_some hs rfl
       | (intro b hb; first | have hs := nilq_elim hs b hb | have hs := nilqn_elim hs b hb)
       | exact hJ1 _ hs
       | exact hC1 _ hs
       | exact hC2 _ hs
       | (refine cut_out 1 bitset_Less_Q1 hs (fun Jc1 kc1 hC1 hs => ?_) (fun xc1 hs => ?_))
       | (refine cut_out 2 bitset_Less_Q2 hs (fun Jc2 kc2 hC2 hs => ?_) (fun xc2 hs => ?_))
       | (have hs := cT rfl hs)
       | (have hs := cF rfl hs)
       | (refine vc_loopR (bitset_Less_S1 _ _ _ _) bitset_Less_M1 hs rfl ?_; intro J1 k1 x1 hJ1 hs)
       | (refine And.intro (by first | exact hks.1 | exact hks.2.1 | exact hks.2.2.1 | exact hks.2.2.2.1 | exact hks.2.2.2.2.1 | exact hks.2.2.2.2.2.1 | exact hks.2.2.2.2.2.2.1 | exact hks.2.2.2.2.2.2.2.1) ?_)
       | (first | refine ck_bitset_Less_1 rfl hbs.1 ?_ | refine ck_bitset_Less_1 rfl hbs.2.1 ?_ | refine ck_bitset_Less_1 rfl hbs.2.2.1 ?_)
       | (obtain ⟨hk, hs⟩ := chk_some hs; have hks := And.intro hk hks)
       | (obtain ⟨vb, hb, hs⟩ := bind_some hs; have hbs := And.intro hb hbs)
       | exact (none_ne hs).elim)
theorem cq_bitset_Less : PCon Go.Proofs.Tryd.prog 30 (liftF (.pair (.arr 4 (.int .u64)) (.pair (.arr 4 (.int .u64)) .unit)) (unpack (.arr 4 (.int .u64))) (fun x => bitset_Less x.1 x.2.1)) := lq_bitset_Less ▸ c_bitset_Less
noncomputable def lf_bitset_Sub : List AV → Option AV := liftF (.pair (.arr 4 (.int .u64)) (.pair (.arr 4 (.int .u64)) .unit)) (unpack .bool) (fun x => bitset_Sub x.1 x.2.1)
theorem lq_bitset_Sub : lf_bitset_Sub = liftF (.pair (.arr 4 (.int .u64)) (.pair (.arr 4 (.int .u64)) .unit)) (unpack .bool) (fun x => bitset_Sub x.1 x.2.1) := rfl
attribute [irreducible] lf_bitset_Sub
theorem ck_bitset_Sub {vs : List AV} {k : AV → Prop} {x : ((.pair (.arr 4 (.int .u64)) (.pair (.arr 4 (.int .u64)) .unit)) : Ty).den} {v : Bool} (h1 : pks (.pair (.arr 4 (.int .u64)) (.pair (.arr 4 (.int .u64)) .unit)) vs = some x) (h2 : bitset_Sub x.1 x.2.1 = some v) (h3 : k ((unpack .bool) v)) : callK (lf_bitset_Sub vs) k := by
  rw [lq_bitset_Sub]; exact callK_lift h1 h2 h3
def tt_bitset_Sub : List (Nat × Ty) := [(4, .bool), (26, .arr 4 (.int .u64))]
def et_bitset_Sub : List (Nat × Nat) := []
theorem tt_bitset_Sub_ok : subT tt tt_bitset_Sub = true := by kernel_rfl
theorem et_bitset_Sub_ok : subE et et_bitset_Sub = true := by kernel_rfl
noncomputable def fns_bitset_Sub : List (Nat × (List AV → Option AV)) := [(30, lf_bitset_Less)]
theorem fns_bitset_Sub_ok : FnsOk Go.Proofs.Tryd.prog fns_bitset_Sub := FnsOk.cons c_bitset_Less (FnsOk.nil _)
def kp_bitset_Sub : List (Nat × List Nat) := [(0, [2, 3]), (1, [4]), (4000000, [2, 3]), (4000001, [])]
def od_bitset_Sub : List (Nat × Ord) := []
noncomputable def E_bitset_Sub : Env := ⟨0, 0, et_bitset_Sub, tt_bitset_Sub, fns_bitset_Sub, [], od_bitset_Sub, kp_bitset_Sub, none, []⟩
set_option maxRecDepth 100000 in
set_option maxHeartbeats 40000000 in
theorem c_bitset_Sub : PCon Go.Proofs.Tryd.prog 32 lf_bitset_Sub := by
  rw [lq_bitset_Sub]
  refine lift_conR (E := E_bitset_Sub) (c := bodyOf Tryd.f32) (nt := 10) (rs := [.tmp 4]) (ts := [4]) (EnvC.sub (off := 0) (nt := 0) (ords := od_bitset_Sub) (keep := kp_bitset_Sub) (yl := none) tt_ok et_ok fns_bitset_Sub_ok (PrsOk.nil _) (ItsOk.nil _) tt_bitset_Sub_ok et_bitset_Sub_ok) (PrOk.of mixed_ok) Go.Proofs.Tryd.func32 rfl (by decide) rfl rfl rfl (pureR_one (e := .bool) rfl) ?_
  intro x r hw hs
  repeat'
    (try (conv => whnf)
     first
       | (with_reducible have hs := letv_out hs)
       | (refine draw_and (by kernel_rfl) ?_)
       | (refine both_mk ?_ ?_)
       | (refine br_bool (fun h => ?_) (fun h => ?_) <;> first | have hs := cT h hs | have hs := cF h hs)
       | (refine bind_elim hs fun v hb hs => ?_; first | refine ck_bitset_Less rfl hb ?_)
       | refine chk_elim hs fun hs => ?_
       | (have hs := letv_out hs)
       | exact fin_some hs rfl
       | (intro b hb; first | have hs := nilq_elim hs b hb | have hs := nilqn_elim hs b hb)
       | (have hs := cT rfl hs)
       | (have hs := cF rfl hs)
       | exact (none_ne hs).elim)
theorem cq_bitset_Sub : PCon Go.Proofs.Tryd.prog 32 (liftF (.pair (.arr 4 (.int .u64)) (.pair (.arr 4 (.int .u64)) .unit)) (unpack .bool) (fun x => bitset_Sub x.1 x.2.1)) := lq_bitset_Sub ▸ c_bitset_Sub
noncomputable def lf_bitset_Union_1 : List AV → Option AV := liftF (.pair (.int .u64) (.pair (.int .u64) .unit)) (unpack (.int .u64)) (fun x => bitset_Union_1 x.1 x.2.1)
theorem lq_bitset_Union_1 : lf_bitset_Union_1 = liftF (.pair (.int .u64) (.pair (.int .u64) .unit)) (unpack (.int .u64)) (fun x => bitset_Union_1 x.1 x.2.1) := rfl
attribute [irreducible] lf_bitset_Union_1
theorem ck_bitset_Union_1 {vs : List AV} {k : AV → Prop} {x : ((.pair (.int .u64) (.pair (.int .u64) .unit)) : Ty).den} {v : Int} (h1 : pks (.pair (.int .u64) (.pair (.int .u64) .unit)) vs = some x) (h2 : bitset_Union_1 x.1 x.2.1 = some v) (h3 : k ((unpack (.int .u64)) v)) : callK (lf_bitset_Union_1 vs) k := by
  rw [lq_bitset_Union_1]; exact callK_lift h1 h2 h3
def tt_bitset_Union_1 : List (Nat × Ty) := [(24, .int .u64)]
def et_bitset_Union_1 : List (Nat × Nat) := []
theorem tt_bitset_Union_1_ok : subT tt tt_bitset_Union_1 = true := by kernel_rfl
theorem et_bitset_Union_1_ok : subE et et_bitset_Union_1 = true := by kernel_rfl
noncomputable def fns_bitset_Union_1 : List (Nat × (List AV → Option AV)) := []
theorem fns_bitset_Union_1_ok : FnsOk Go.Proofs.Tryd.prog fns_bitset_Union_1 := FnsOk.nil _
def kp_bitset_Union_1 : List (Nat × List Nat) := [(0, [0, 1]), (1, [4]), (4000000, []), (4000001, [])]
def od_bitset_Union_1 : List (Nat × Ord) := []
noncomputable def E_bitset_Union_1 : Env := ⟨0, 0, et_bitset_Union_1, tt_bitset_Union_1, fns_bitset_Union_1, [], od_bitset_Union_1, kp_bitset_Union_1, none, []⟩
set_option maxRecDepth 100000 in
set_option maxHeartbeats 40000000 in
theorem c_bitset_Union_1 : PCon Go.Proofs.Tryd.prog 58 lf_bitset_Union_1 := by
  rw [lq_bitset_Union_1]
  refine lift_conR (E := E_bitset_Union_1) (c := bodyOf Tryd.f58) (nt := 8) (rs := [.tmp 4]) (ts := [24]) (EnvC.sub (off := 0) (nt := 0) (ords := od_bitset_Union_1) (keep := kp_bitset_Union_1) (yl := none) tt_ok et_ok fns_bitset_Union_1_ok (PrsOk.nil _) (ItsOk.nil _) tt_bitset_Union_1_ok et_bitset_Union_1_ok) (PrOk.of mixed_ok) Go.Proofs.Tryd.func58 rfl (by decide) rfl rfl rfl (pureR_one (e := (.int .u64)) rfl) ?_
  intro x r hw hs
  repeat'
    (try (conv => whnf)
     first
       | (with_reducible have hs := letv_out hs)
       | (refine draw_and (by kernel_rfl) ?_)
       | (refine both_mk ?_ ?_)
       | (refine br_bool (fun h => ?_) (fun h => ?_) <;> first | have hs := cT h hs | have hs := cF h hs)
       | refine chk_elim hs fun hs => ?_
       | (have hs := letv_out hs)
       | exact fin_some hs rfl
       | (intro b hb; first | have hs := nilq_elim hs b hb | have hs := nilqn_elim hs b hb)
       | (have hs := cT rfl hs)
       | (have hs := cF rfl hs)
       | exact (none_ne hs).elim)
theorem cq_bitset_Union_1 : PCon Go.Proofs.Tryd.prog 58 (liftF (.pair (.int .u64) (.pair (.int .u64) .unit)) (unpack (.int .u64)) (fun x => bitset_Union_1 x.1 x.2.1)) := lq_bitset_Union_1 ▸ c_bitset_Union_1
noncomputable def lf_bitset_Union : List AV → Option AV := liftF (.pair (.arr 4 (.int .u64)) (.pair (.arr 4 (.int .u64)) .unit)) (unpack (.arr 4 (.int .u64))) (fun x => bitset_Union x.1 x.2.1)
theorem lq_bitset_Union : lf_bitset_Union = liftF (.pair (.arr 4 (.int .u64)) (.pair (.arr 4 (.int .u64)) .unit)) (unpack (.arr 4 (.int .u64))) (fun x => bitset_Union x.1 x.2.1) := rfl
attribute [irreducible] lf_bitset_Union
theorem ck_bitset_Union {vs : List AV} {k : AV → Prop} {x : ((.pair (.arr 4 (.int .u64)) (.pair (.arr 4 (.int .u64)) .unit)) : Ty).den} {v : List Int} (h1 : pks (.pair (.arr 4 (.int .u64)) (.pair (.arr 4 (.int .u64)) .unit)) vs = some x) (h2 : bitset_Union x.1 x.2.1 = some v) (h3 : k ((unpack (.arr 4 (.int .u64))) v)) : callK (lf_bitset_Union vs) k := by
  rw [lq_bitset_Union]; exact callK_lift h1 h2 h3
def tt_bitset_Union : List (Nat × Ty) := [(3, .int .i64), (24, .int .u64), (26, .arr 4 (.int .u64)), (80, .opq 1)]
def et_bitset_Union : List (Nat × Nat) := []
theorem tt_bitset_Union_ok : subT tt tt_bitset_Union = true := by kernel_rfl
theorem et_bitset_Union_ok : subE et et_bitset_Union = true := by kernel_rfl
noncomputable def fns_bitset_Union : List (Nat × (List AV → Option AV)) := [(58, lf_bitset_Union_1)]
theorem fns_bitset_Union_ok : FnsOk Go.Proofs.Tryd.prog fns_bitset_Union := FnsOk.cons c_bitset_Union_1 (FnsOk.nil _)
def kp_bitset_Union_57 : List (Nat × List Nat) := [(0, [2, 3, 4, 6]), (1, [2, 3, 4, 6, 8]), (2, [2, 3, 4, 6, 8, 9]), (3, [2, 3, 4, 6, 7, 8]), (4, [2, 3, 4, 6, 8]), (5, [2, 3, 4, 6, 8]), (6, [6]), (5000004, []), (819204000004, [2, 3, 4, 8195, 8196, 8198]), (819206000004, [])]
def od_bitset_Union_57 : List (Nat × Ord) := [(4, (.one 0 (.one 1 (.one 2 (.one 3 (.one 5 (.one 6 (.alt (.cons 4 (.one 200007 (.one 200008 (.one 9 (.one 200010 .nil)))) (.cons 7 (.one 200004 (.one 200008 (.one 9 (.one 200010 .nil)))) .nil))))))))))]
noncomputable def E_bitset_Union_57 : Env := ⟨0, 0, et_bitset_Union, tt_bitset_Union, fns_bitset_Union, [], od_bitset_Union_57, kp_bitset_Union_57, none, []⟩
noncomputable def pr_bitset_Union_57 : List (Nat × Proc) := (57, procR E_bitset_Union_57 23 [.cell 6 26] (bodyOf Tryd.f57)) :: []
theorem pr_bitset_Union_57_ok : PrsOk Go.Proofs.Tryd.prog pr_bitset_Union_57 :=
  PrsOk.cons (proc_conR (E := E_bitset_Union_57) (EnvC.sub (off := 0) (nt := 0) (ords := od_bitset_Union_57) (keep := kp_bitset_Union_57) (yl := none) tt_ok et_ok fns_bitset_Union_ok (PrsOk.nil _) (ItsOk.nil _) tt_bitset_Union_ok et_bitset_Union_ok) (PrOk.of mixed_ok) Go.Proofs.Tryd.func57 rfl (by decide) rfl rfl) (PrsOk.nil _)
def bitset_Union_S1 (u0 : AV) (u1 : AV) (u2 : AV) (u3 : AV) (x2 : Int × List Int × List Int × List Int × List Int × List Int × List Int) : St :=
  ⟨[(2, u0), (3, u1), (4, u2), (6, u3), (8, .int .i64 x2.1)], [(2, .var (.arr 4 (.int .u64)) (.arr 4 (.int .u64) x2.2.1) false), (3, .var (.arr 4 (.int .u64)) (.arr 4 (.int .u64) x2.2.2.1) false), (4, .var (.arr 4 (.int .u64)) (.arr 4 (.int .u64) x2.2.2.2.1) false), (8195, .var (.arr 4 (.int .u64)) (.arr 4 (.int .u64) x2.2.2.2.2.1) false), (8196, .var (.arr 4 (.int .u64)) (.arr 4 (.int .u64) x2.2.2.2.2.2.1) false), (8198, .var (.arr 4 (.int .u64)) (.arr 4 (.int .u64) x2.2.2.2.2.2.2) false)], (some ([], 0))⟩
def bitset_Union_M1 : Msk := ⟨[2, 3, 4, 6, 8], [2, 3, 4, 8195, 8196, 8198], [], [], [], [], [], [], []⟩
def bitset_Union_Q1 (x3 : Int × List Int × List Int × List Int × List Int × List Int × List Int) : St :=
  ⟨[(2, .fn (.func 58) [] []), (3, .ptr 8195 []), (4, .ptr 8196 []), (6, .ptr 8198 []), (8, .int .i64 x3.1)], [(2, .var (.arr 4 (.int .u64)) (.arr 4 (.int .u64) x3.2.1) false), (3, .var (.arr 4 (.int .u64)) (.arr 4 (.int .u64) x3.2.2.1) false), (4, .var (.arr 4 (.int .u64)) (.arr 4 (.int .u64) x3.2.2.2.1) false), (8195, .var (.arr 4 (.int .u64)) (.arr 4 (.int .u64) x3.2.2.2.2.1) false), (8196, .var (.arr 4 (.int .u64)) (.arr 4 (.int .u64) x3.2.2.2.2.2.1) false), (8198, .var (.arr 4 (.int .u64)) (.arr 4 (.int .u64) x3.2.2.2.2.2.2) false)], (some ([], 0))⟩
def bitset_Union_Q2 (x1 : List Int × List Int) : St :=
  ⟨[(4, .ptr 4 []), (7, .arr 4 (.int .u64) x1.1)], [(4, .var (.arr 4 (.int .u64)) (.arr 4 (.int .u64) x1.2) false)], none⟩
def kp_bitset_Union : List (Nat × List Nat) := [(0, [2, 3, 4]), (1, [4]), (25000007, []), (20000007, [4, 7]), (24000007, [4]), (26000007, []), (4000000, [2, 3, 4]), (4000001, [4])]
def od_bitset_Union : List (Nat × Ord) := []
noncomputable def E_bitset_Union : Env := ⟨0, 0, et_bitset_Union, tt_bitset_Union, fns_bitset_Union, pr_bitset_Union_57, od_bitset_Union, kp_bitset_Union, none, []⟩
set_option maxRecDepth 100000 in
set_option maxHeartbeats 40000000 in
theorem c_bitset_Union : PCon Go.Proofs.Tryd.prog 26 lf_bitset_Union := by
  rw [lq_bitset_Union]
  refine lift_conR (E := E_bitset_Union) (c := bodyOf Tryd.f26) (nt := 8) (rs := [.cell 4 26]) (ts := [26]) (EnvC.sub (off := 0) (nt := 0) (ords := od_bitset_Union) (keep := kp_bitset_Union) (yl := none) tt_ok et_ok fns_bitset_Union_ok (pr_bitset_Union_57_ok) (ItsOk.nil _) tt_bitset_Union_ok et_bitset_Union_ok) (PrOk.of mixed_ok) Go.Proofs.Tryd.func26 rfl (by decide) rfl rfl rfl (pureR_one (e := (.arr 4 (.int .u64))) rfl) ?_
  intro x r hw hs
  have hks := True.intro
  have hbs := True.intro
  repeat'
    (try (conv => whnf)
     first
       | (with_reducible have hs := letv_out hs)
       | (refine draw_and (by kernel_rfl) ?_)
       | (refine both_mk ?_ ?_)
       | (refine br_bool (fun h => ?_) (fun h => ?_) <;> first | have hs := cT h hs | have hs := cF h hs)
       | (refine bind_elim hs fun v hb hs => ?_; first | refine ck_bitset_Union_1 rfl hb ?_)
       | refine chk_elim hs fun hs => ?_
       | (have hs := letv_out hs)
       | exact fin_some hs rfl
       | (intro b hb; first | have hs := nilq_elim hs b hb | have hs := nilqn_elim hs b hb)
       | exact hJ1 _ hs
       | exact hC1 _ hs
       | exact hC2 _ hs
       | (refine cut_out 1 bitset_Union_Q1 hs (fun Jc1 kc1 hC1 hs => ?_) (fun xc1 hs => ?_))
       | (refine cut_out 2 bitset_Union_Q2 hs (fun Jc2 kc2 hC2 hs => ?_) (fun xc2 hs => ?_))
       | (have hs := cT rfl hs)
       | (have hs := cF rfl hs)
       | (refine vc_loopR (bitset_Union_S1 _ _ _ _) bitset_Union_M1 hs rfl ?_; intro J1 k1 x1 hJ1 hs)
       | (refine And.intro (by first | exact hks.1 | exact hks.2.1 | exact hks.2.2.1 | exact hks.2.2.2.1 | exact hks.2.2.2.2.1 | exact hks.2.2.2.2.2.1 | exact hks.2.2.2.2.2.2.1 | exact hks.2.2.2.2.2.2.2.1) ?_)
       | (first | refine ck_bitset_Union_1 rfl hbs.1 ?_ | refine ck_bitset_Union_1 rfl hbs.2.1 ?_ | refine ck_bitset_Union_1 rfl hbs.2.2.1 ?_)
       | (obtain ⟨hk, hs⟩ := chk_some hs; have hks := And.intro hk hks)
       | (obtain ⟨vb, hb, hs⟩ := bind_some hs; have hbs := And.intro hb hbs)
       | exact (none_ne hs).elim)
theorem cq_bitset_Union : PCon Go.Proofs.Tryd.prog 26 (liftF (.pair (.arr 4 (.int .u64)) (.pair (.arr 4 (.int .u64)) .unit)) (unpack (.arr 4 (.int .u64))) (fun x => bitset_Union x.1 x.2.1)) := lq_bitset_Union ▸ c_bitset_Union
noncomputable def lf_bitset_Inter_1 : List AV → Option AV := liftF (.pair (.int .u64) (.pair (.int .u64) .unit)) (unpack (.int .u64)) (fun x => bitset_Inter_1 x.1 x.2.1)
theorem lq_bitset_Inter_1 : lf_bitset_Inter_1 = liftF (.pair (.int .u64) (.pair (.int .u64) .unit)) (unpack (.int .u64)) (fun x => bitset_Inter_1 x.1 x.2.1) := rfl
attribute [irreducible] lf_bitset_Inter_1
theorem ck_bitset_Inter_1 {vs : List AV} {k : AV → Prop} {x : ((.pair (.int .u64) (.pair (.int .u64) .unit)) : Ty).den} {v : Int} (h1 : pks (.pair (.int .u64) (.pair (.int .u64) .unit)) vs = some x) (h2 : bitset_Inter_1 x.1 x.2.1 = some v) (h3 : k ((unpack (.int .u64)) v)) : callK (lf_bitset_Inter_1 vs) k := by
  rw [lq_bitset_Inter_1]; exact callK_lift h1 h2 h3
def tt_bitset_Inter_1 : List (Nat × Ty) := [(24, .int .u64)]
def et_bitset_Inter_1 : List (Nat × Nat) := []
theorem tt_bitset_Inter_1_ok : subT tt tt_bitset_Inter_1 = true := by kernel_rfl
theorem et_bitset_Inter_1_ok : subE et et_bitset_Inter_1 = true := by kernel_rfl
noncomputable def fns_bitset_Inter_1 : List (Nat × (List AV → Option AV)) := []
theorem fns_bitset_Inter_1_ok : FnsOk Go.Proofs.Tryd.prog fns_bitset_Inter_1 := FnsOk.nil _
def kp_bitset_Inter_1 : List (Nat × List Nat) := [(0, [0, 1]), (1, [4]), (4000000, []), (4000001, [])]
def od_bitset_Inter_1 : List (Nat × Ord) := []
noncomputable def E_bitset_Inter_1 : Env := ⟨0, 0, et_bitset_Inter_1, tt_bitset_Inter_1, fns_bitset_Inter_1, [], od_bitset_Inter_1, kp_bitset_Inter_1, none, []⟩
set_option maxRecDepth 100000 in
set_option maxHeartbeats 40000000 in
theorem c_bitset_Inter_1 : PCon Go.Proofs.Tryd.prog 59 lf_bitset_Inter_1 := by
  rw [lq_bitset_Inter_1]
  refine lift_conR (E := E_bitset_Inter_1) (c := bodyOf Tryd.f59) (nt := 8) (rs := [.tmp 4]) (ts := [24]) (EnvC.sub (off := 0) (nt := 0) (ords := od_bitset_Inter_1) (keep := kp_bitset_Inter_1) (yl := none) tt_ok et_ok fns_bitset_Inter_1_ok (PrsOk.nil _) (ItsOk.nil _) tt_bitset_Inter_1_ok et_bitset_Inter_1_ok) (PrOk.of mixed_ok) Go.Proofs.Tryd.func59 rfl (by decide) rfl rfl rfl (pureR_one (e := (.int .u64)) rfl) ?_
  intro x r hw hs
  repeat'
    (try (conv => whnf)
     first
       | (with_reducible have hs := letv_out hs)
       | (refine draw_and (by kernel_rfl) ?_)
       | (refine both_mk ?_ ?_)
       | (refine br_bool (fun h => ?_) (fun h => ?_) <;> first | have hs := cT h hs | have hs := cF h hs)
       | refine chk_elim hs fun hs => ?_
       | (have hs := letv_out hs)
       | exact fin_some hs rfl
       | (intro b hb; first | have hs := nilq_elim hs b hb | have hs := nilqn_elim hs b hb)
       | (have hs := cT rfl hs)
       | (have hs := cF rfl hs)
       | exact (none_ne hs).elim)
theorem cq_bitset_Inter_1 : PCon Go.Proofs.Tryd.prog 59 (liftF (.pair (.int .u64) (.pair (.int .u64) .unit)) (unpack (.int .u64)) (fun x => bitset_Inter_1 x.1 x.2.1)) := lq_bitset_Inter_1 ▸ c_bitset_Inter_1
noncomputable def lf_bitset_Inter : List AV → Option AV := liftF (.pair (.arr 4 (.int .u64)) (.pair (.arr 4 (.int .u64)) .unit)) (unpack (.arr 4 (.int .u64))) (fun x => bitset_Inter x.1 x.2.1)
theorem lq_bitset_Inter : lf_bitset_Inter = liftF (.pair (.arr 4 (.int .u64)) (.pair (.arr 4 (.int .u64)) .unit)) (unpack (.arr 4 (.int .u64))) (fun x => bitset_Inter x.1 x.2.1) := rfl
attribute [irreducible] lf_bitset_Inter
theorem ck_bitset_Inter {vs : List AV} {k : AV → Prop} {x : ((.pair (.arr 4 (.int .u64)) (.pair (.arr 4 (.int .u64)) .unit)) : Ty).den} {v : List Int} (h1 : pks (.pair (.arr 4 (.int .u64)) (.pair (.arr 4 (.int .u64)) .unit)) vs = some x) (h2 : bitset_Inter x.1 x.2.1 = some v) (h3 : k ((unpack (.arr 4 (.int .u64))) v)) : callK (lf_bitset_Inter vs) k := by
  rw [lq_bitset_Inter]; exact callK_lift h1 h2 h3
def tt_bitset_Inter : List (Nat × Ty) := [(3, .int .i64), (24, .int .u64), (26, .arr 4 (.int .u64)), (80, .opq 1)]
def et_bitset_Inter : List (Nat × Nat) := []
theorem tt_bitset_Inter_ok : subT tt tt_bitset_Inter = true := by kernel_rfl
theorem et_bitset_Inter_ok : subE et et_bitset_Inter = true := by kernel_rfl
noncomputable def fns_bitset_Inter : List (Nat × (List AV → Option AV)) := [(59, lf_bitset_Inter_1)]
theorem fns_bitset_Inter_ok : FnsOk Go.Proofs.Tryd.prog fns_bitset_Inter := FnsOk.cons c_bitset_Inter_1 (FnsOk.nil _)
def kp_bitset_Inter_57 : List (Nat × List Nat) := [(0, [2, 3, 4, 6]), (1, [2, 3, 4, 6, 8]), (2, [2, 3, 4, 6, 8, 9]), (3, [2, 3, 4, 6, 7, 8]), (4, [2, 3, 4, 6, 8]), (5, [2, 3, 4, 6, 8]), (6, [6]), (5000004, []), (819204000004, [2, 3, 4, 8195, 8196, 8198]), (819206000004, [])]
def od_bitset_Inter_57 : List (Nat × Ord) := [(4, (.one 0 (.one 1 (.one 2 (.one 3 (.one 5 (.one 6 (.alt (.cons 4 (.one 200007 (.one 200008 (.one 9 (.one 200010 .nil)))) (.cons 7 (.one 200004 (.one 200008 (.one 9 (.one 200010 .nil)))) .nil))))))))))]
noncomputable def E_bitset_Inter_57 : Env := ⟨0, 0, et_bitset_Inter, tt_bitset_Inter, fns_bitset_Inter, [], od_bitset_Inter_57, kp_bitset_Inter_57, none, []⟩
noncomputable def pr_bitset_Inter_57 : List (Nat × Proc) := (57, procR E_bitset_Inter_57 23 [.cell 6 26] (bodyOf Tryd.f57)) :: []
theorem pr_bitset_Inter_57_ok : PrsOk Go.Proofs.Tryd.prog pr_bitset_Inter_57 :=
  PrsOk.cons (proc_conR (E := E_bitset_Inter_57) (EnvC.sub (off := 0) (nt := 0) (ords := od_bitset_Inter_57) (keep := kp_bitset_Inter_57) (yl := none) tt_ok et_ok fns_bitset_Inter_ok (PrsOk.nil _) (ItsOk.nil _) tt_bitset_Inter_ok et_bitset_Inter_ok) (PrOk.of mixed_ok) Go.Proofs.Tryd.func57 rfl (by decide) rfl rfl) (PrsOk.nil _)
def bitset_Inter_S1 (u0 : AV) (u1 : AV) (u2 : AV) (u3 : AV) (x2 : Int × List Int × List Int × List Int × List Int × List Int × List Int) : St :=
  ⟨[(2, u0), (3, u1), (4, u2), (6, u3), (8, .int .i64 x2.1)], [(2, .var (.arr 4 (.int .u64)) (.arr 4 (.int .u64) x2.2.1) false), (3, .var (.arr 4 (.int .u64)) (.arr 4 (.int .u64) x2.2.2.1) false), (4, .var (.arr 4 (.int .u64)) (.arr 4 (.int .u64) x2.2.2.2.1) false), (8195, .var (.arr 4 (.int .u64)) (.arr 4 (.int .u64) x2.2.2.2.2.1) false), (8196, .var (.arr 4 (.int .u64)) (.arr 4 (.int .u64) x2.2.2.2.2.2.1) false), (8198, .var (.arr 4 (.int .u64)) (.arr 4 (.int .u64) x2.2.2.2.2.2.2) false)], (some ([], 0))⟩
def bitset_Inter_M1 : Msk := ⟨[2, 3, 4, 6, 8], [2, 3, 4, 8195, 8196, 8198], [], [], [], [], [], [], []⟩
def bitset_Inter_Q1 (x3 : Int × List Int × List Int × List Int × List Int × List Int × List Int) : St :=
  ⟨[(2, .fn (.func 59) [] []), (3, .ptr 8195 []), (4, .ptr 8196 []), (6, .ptr 8198 []), (8, .int .i64 x3.1)], [(2, .var (.arr 4 (.int .u64)) (.arr 4 (.int .u64) x3.2.1) false), (3, .var (.arr 4 (.int .u64)) (.arr 4 (.int .u64) x3.2.2.1) false), (4, .var (.arr 4 (.int .u64)) (.arr 4 (.int .u64) x3.2.2.2.1) false), (8195, .var (.arr 4 (.int .u64)) (.arr 4 (.int .u64) x3.2.2.2.2.1) false), (8196, .var (.arr 4 (.int .u64)) (.arr 4 (.int .u64) x3.2.2.2.2.2.1) false), (8198, .var (.arr 4 (.int .u64)) (.arr 4 (.int .u64) x3.2.2.2.2.2.2) false)], (some ([], 0))⟩
def bitset_Inter_Q2 (x1 : List Int × List Int) : St :=
  ⟨[(4, .ptr 4 []), (7, .arr 4 (.int .u64) x1.1)], [(4, .var (.arr 4 (.int .u64)) (.arr 4 (.int .u64) x1.2) false)], none⟩
def kp_bitset_Inter : List (Nat × List Nat) := [(0, [2, 3, 4]), (1, [4]), (25000007, []), (20000007, [4, 7]), (24000007, [4]), (26000007, []), (4000000, [2, 3, 4]), (4000001, [4])]
def od_bitset_Inter : List (Nat × Ord) := []
noncomputable def E_bitset_Inter : Env := ⟨0, 0, et_bitset_Inter, tt_bitset_Inter, fns_bitset_Inter, pr_bitset_Inter_57, od_bitset_Inter, kp_bitset_Inter, none, []⟩
set_option maxRecDepth 100000 in
set_option maxHeartbeats 40000000 in
theorem c_bitset_Inter : PCon Go.Proofs.Tryd.prog 28 lf_bitset_Inter := by
  rw [lq_bitset_Inter]
  refine lift_conR (E := E_bitset_Inter) (c := bodyOf Tryd.f28) (nt := 8) (rs := [.cell 4 26]) (ts := [26]) (EnvC.sub (off := 0) (nt := 0) (ords := od_bitset_Inter) (keep := kp_bitset_Inter) (yl := none) tt_ok et_ok fns_bitset_Inter_ok (pr_bitset_Inter_57_ok) (ItsOk.nil _) tt_bitset_Inter_ok et_bitset_Inter_ok) (PrOk.of mixed_ok) Go.Proofs.Tryd.func28 rfl (by decide) rfl rfl rfl (pureR_one (e := (.arr 4 (.int .u64))) rfl) ?_
  intro x r hw hs
  have hks := True.intro
  have hbs := True.intro
  repeat'
    (try (conv => whnf)
     first
       | (with_reducible have hs := letv_out hs)
       | (refine draw_and (by kernel_rfl) ?_)
       | (refine both_mk ?_ ?_)
       | (refine br_bool (fun h => ?_) (fun h => ?_) <;> first | have hs := cT h hs | have hs := cF h hs)
       | (refine bind_elim hs fun v hb hs => ?_; first | refine ck_bitset_Inter_1 rfl hb ?_)
       | refine chk_elim hs fun hs => ?_
       | (have hs := letv_out hs)
       | exact fin_some hs rfl
       | (intro b hb; first | have hs := nilq_elim hs b hb | have hs := nilqn_elim hs b hb)
       | exact hJ1 _ hs
       | exact hC1 _ hs
       | exact hC2 _ hs
       | (refine cut_out 1 bitset_Inter_Q1 hs (fun Jc1 kc1 hC1 hs => ?_) (fun xc1 hs => ?_))
       | (refine cut_out 2 bitset_Inter_Q2 hs (fun Jc2 kc2 hC2 hs => ?_) (fun xc2 hs => ?_))
       | (have hs := cT rfl hs)
       | (have hs := cF rfl hs)
       | (refine vc_loopR (bitset_Inter_S1 _ _ _ _) bitset_Inter_M1 hs rfl ?_; intro J1 k1 x1 hJ1 hs)
       | (refine And.intro (by first | exact hks.1 | exact hks.2.1 | exact hks.2.2.1 | exact hks.2.2.2.1 | exact hks.2.2.2.2.1 | exact hks.2.2.2.2.2.1 | exact hks.2.2.2.2.2.2.1 | exact hks.2.2.2.2.2.2.2.1) ?_)
       | (first | refine ck_bitset_Inter_1 rfl hbs.1 ?_ | refine ck_bitset_Inter_1 rfl hbs.2.1 ?_ | refine ck_bitset_Inter_1 rfl hbs.2.2.1 ?_)
       | (obtain ⟨hk, hs⟩ := chk_some hs; have hks := And.intro hk hks)
       | (obtain ⟨vb, hb, hs⟩ := bind_some hs; have hbs := And.intro hb hbs)
       | exact (none_ne hs).elim)
theorem cq_bitset_Inter : PCon Go.Proofs.Tryd.prog 28 (liftF (.pair (.arr 4 (.int .u64)) (.pair (.arr 4 (.int .u64)) .unit)) (unpack (.arr 4 (.int .u64))) (fun x => bitset_Inter x.1 x.2.1)) := lq_bitset_Inter ▸ c_bitset_Inter
end Go.Proofs.YtejedlpnejjnbaaDoorBV
