import Derived.Test.YtejedlpnejjnbaaDoorVcTab
import Derived.Test.YtejedlpnejjnbaaDoorDbitset
import Derived.Test.YtejedlpnejjnbaaDoorCbits
namespace Go.Proofs.YtejedlpnejjnbaaDoorV
open Go.Proofs
set_option linter.unusedVariables false
noncomputable def lf_bitset_fine : List AV → Option AV := liftF (.pair (.int .i64) .unit) (unpack .bool) (fun x => bitset_fine x.1)
def tt_bitset_fine : List (Nat × Ty) := [(3, .int .i64), (4, .bool)]
def et_bitset_fine : List (Nat × Nat) := []
theorem tt_bitset_fine_ok : subT tt tt_bitset_fine = true := by kernel_rfl
theorem et_bitset_fine_ok : subE et et_bitset_fine = true := by kernel_rfl
def kp_bitset_fine : List (Nat × List Nat) := [(0, [0]), (1, [2]), (4000000, []), (4000001, [])]
def od_bitset_fine : List (Nat × Ord) := []
noncomputable def E_bitset_fine (fns : List (Nat × (List AV → Option AV))) : Env := ⟨0, 0, et_bitset_fine, tt_bitset_fine, fns, [], od_bitset_fine, kp_bitset_fine, none, []⟩
set_option maxRecDepth 100000 in
set_option maxHeartbeats 40000000 in
theorem c_bitset_fine : PCon Go.Proofs.Tryd.prog 55 lf_bitset_fine := by
  obtain ⟨fns, hfns, hf⟩ : ∃ fns, fns = [] ∧ FnsOk Go.Proofs.Tryd.prog fns := ⟨_, rfl, FnsOk.nil _⟩
  refine lift_con (E := E_bitset_fine fns) (c := bodyOf Tryd.f55) (nt := 9) (rs := [.tmp 2]) (ts := [4]) (EnvC.sub tt_ok et_ok hf (PrsOk.nil _) (ItsOk.nil _) tt_bitset_fine_ok et_bitset_fine_ok) (PrOk.of mixed_ok) Go.Proofs.Tryd.func55 rfl (by decide) rfl rfl rfl (pureR_one (e := .bool) rfl) ?_
  subst hfns
  intro x r hw hs
  repeat'
    (try (conv => whnf)
     first
       | (with_reducible have hs := letv_out hs)
       | (refine draw_and (by kernel_rfl) ?_)
       | (refine both_mk ?_ ?_)
       | (refine br_bool (fun h => ?_) (fun h => ?_) <;> first | have hs := cT h hs | have hs := cF h hs)
       | refine chk_elim hs fun hs => ?_
       | (have hs := letv_out hs)
       | exact fin_some hs rfl
       | (intro b hb; first | have hs := nilq_elim hs b hb | have hs := nilqn_elim hs b hb)
       | (have hs := cT rfl hs)
       | (have hs := cF rfl hs)
       | exact (none_ne hs).elim)
noncomputable def lf_bitset_Has : List AV → Option AV := liftF (.pair (.arr 4 (.int .u64)) (.pair (.int .i64) .unit)) (unpack .bool) (fun x => bitset_Has x.1 x.2.1)
def tt_bitset_Has : List (Nat × Ty) := [(3, .int .i64), (4, .bool), (24, .int .u64), (26, .arr 4 (.int .u64))]
def et_bitset_Has : List (Nat × Nat) := []
theorem tt_bitset_Has_ok : subT tt tt_bitset_Has = true := by kernel_rfl
theorem et_bitset_Has_ok : subE et et_bitset_Has = true := by kernel_rfl
def kp_bitset_Has : List (Nat × List Nat) := [(0, [1, 2]), (1, [4]), (4000000, [2]), (4000001, [])]
def od_bitset_Has : List (Nat × Ord) := []
noncomputable def E_bitset_Has (fns : List (Nat × (List AV → Option AV))) : Env := ⟨0, 0, et_bitset_Has, tt_bitset_Has, fns, [], od_bitset_Has, kp_bitset_Has, none, []⟩
set_option maxRecDepth 100000 in
set_option maxHeartbeats 40000000 in
theorem c_bitset_Has : PCon Go.Proofs.Tryd.prog 19 lf_bitset_Has := by
  obtain ⟨G55, hG55, cG55⟩ : ∃ G : ((.pair (.int .i64) .unit) : Ty).den → Option Bool, (∀ x, G x = bitset_fine x.1) ∧ PCon Go.Proofs.Tryd.prog 55 (liftF (.pair (.int .i64) .unit) (unpack .bool) G) := ⟨_, fun _ => rfl, c_bitset_fine⟩
  obtain ⟨fns, hfns, hf⟩ : ∃ fns, fns = [(55, liftF (.pair (.int .i64) .unit) (unpack .bool) G55)] ∧ FnsOk Go.Proofs.Tryd.prog fns := ⟨_, rfl, FnsOk.cons cG55 (FnsOk.nil _)⟩
  refine lift_con (E := E_bitset_Has fns) (c := bodyOf Tryd.f19) (nt := 18) (rs := [.tmp 4]) (ts := [4]) (EnvC.sub tt_ok et_ok hf (PrsOk.nil _) (ItsOk.nil _) tt_bitset_Has_ok et_bitset_Has_ok) (PrOk.of mixed_ok) Go.Proofs.Tryd.func19 rfl (by decide) rfl rfl rfl (pureR_one (e := .bool) rfl) ?_
  subst hfns
  intro x r hw hs
  repeat'
    (try (conv => whnf)
     first
       | (with_reducible have hs := letv_out hs)
       | (refine draw_and (by kernel_rfl) ?_)
       | (refine both_mk ?_ ?_)
       | (refine br_bool (fun h => ?_) (fun h => ?_) <;> first | have hs := cT h hs | have hs := cF h hs)
       | (refine bind_elim hs fun v hb hs => ?_; first | refine callK_liftG hG55 rfl hb ?_)
       | refine chk_elim hs fun hs => ?_
       | (have hs := letv_out hs)
       | exact fin_some hs rfl
       | (intro b hb; first | have hs := nilq_elim hs b hb | have hs := nilqn_elim hs b hb)
       | (have hs := cT rfl hs)
       | (have hs := cF rfl hs)
       | exact (none_ne hs).elim)
noncomputable def lf_bitset_Add : List AV → Option AV := liftF (.pair (.arr 4 (.int .u64)) (.pair (.int .i64) .unit)) (unpack (.arr 4 (.int .u64))) (fun x => bitset_Add x.1 x.2.1)
def tt_bitset_Add : List (Nat × Ty) := [(3, .int .i64), (24, .int .u64), (26, .arr 4 (.int .u64))]
def et_bitset_Add : List (Nat × Nat) := []
theorem tt_bitset_Add_ok : subT tt tt_bitset_Add = true := by kernel_rfl
theorem et_bitset_Add_ok : subE et et_bitset_Add = true := by kernel_rfl
def kp_bitset_Add : List (Nat × List Nat) := [(0, [1, 2, 4]), (1, [1, 2, 4, 6]), (2, [2, 4]), (3, [4]), (4000000, [2, 4]), (4000001, [2, 4]), (4000002, [2, 4]), (4000003, [4])]
def od_bitset_Add : List (Nat × Ord) := [(2, (.one 0 (.one 1 (.one 2 (.one 3 (.one 4 (.one 5 (.one 6 (.one 7 (.one 8 (.one 100009 .nil)))))))))))]
noncomputable def E_bitset_Add (fns : List (Nat × (List AV → Option AV))) : Env := ⟨0, 0, et_bitset_Add, tt_bitset_Add, fns, [], od_bitset_Add, kp_bitset_Add, none, []⟩
set_option maxRecDepth 100000 in
set_option maxHeartbeats 40000000 in
theorem c_bitset_Add : PCon Go.Proofs.Tryd.prog 21 lf_bitset_Add := by
  obtain ⟨G55, hG55, cG55⟩ : ∃ G : ((.pair (.int .i64) .unit) : Ty).den → Option Bool, (∀ x, G x = bitset_fine x.1) ∧ PCon Go.Proofs.Tryd.prog 55 (liftF (.pair (.int .i64) .unit) (unpack .bool) G) := ⟨_, fun _ => rfl, c_bitset_fine⟩
  obtain ⟨fns, hfns, hf⟩ : ∃ fns, fns = [(55, liftF (.pair (.int .i64) .unit) (unpack .bool) G55)] ∧ FnsOk Go.Proofs.Tryd.prog fns := ⟨_, rfl, FnsOk.cons cG55 (FnsOk.nil _)⟩
  refine lift_con (E := E_bitset_Add fns) (c := bodyOf Tryd.f21) (nt := 17) (rs := [.cell 4 26]) (ts := [26]) (EnvC.sub tt_ok et_ok hf (PrsOk.nil _) (ItsOk.nil _) tt_bitset_Add_ok et_bitset_Add_ok) (PrOk.of mixed_ok) Go.Proofs.Tryd.func21 rfl (by decide) rfl rfl rfl (pureR_one (e := (.arr 4 (.int .u64))) rfl) ?_
  subst hfns
  intro x r hw hs
  repeat'
    (try (conv => whnf)
     first
       | (with_reducible have hs := letv_out hs)
       | (refine draw_and (by kernel_rfl) ?_)
       | (refine both_mk ?_ ?_)
       | (refine br_bool (fun h => ?_) (fun h => ?_) <;> first | have hs := cT h hs | have hs := cF h hs)
       | (refine bind_elim hs fun v hb hs => ?_; first | refine callK_liftG hG55 rfl hb ?_)
       | refine chk_elim hs fun hs => ?_
       | (have hs := letv_out hs)
       | exact fin_some hs rfl
       | (intro b hb; first | have hs := nilq_elim hs b hb | have hs := nilqn_elim hs b hb)
       | (have hs := cT rfl hs)
       | (have hs := cF rfl hs)
       | exact (none_ne hs).elim)
noncomputable def lf_bitset_Less_1 : List AV → Option AV := liftF (.pair (.int .u64) (.pair (.int .u64) .unit)) (unpack (.int .u64)) (fun x => bitset_Less_1 x.1 x.2.1)
def tt_bitset_Less_1 : List (Nat × Ty) := [(24, .int .u64)]
def et_bitset_Less_1 : List (Nat × Nat) := []
theorem tt_bitset_Less_1_ok : subT tt tt_bitset_Less_1 = true := by kernel_rfl
theorem et_bitset_Less_1_ok : subE et et_bitset_Less_1 = true := by kernel_rfl
def kp_bitset_Less_1 : List (Nat × List Nat) := [(0, [0, 1]), (1, [4]), (4000000, []), (4000001, [])]
def od_bitset_Less_1 : List (Nat × Ord) := []
noncomputable def E_bitset_Less_1 (fns : List (Nat × (List AV → Option AV))) : Env := ⟨0, 0, et_bitset_Less_1, tt_bitset_Less_1, fns, [], od_bitset_Less_1, kp_bitset_Less_1, none, []⟩
set_option maxRecDepth 100000 in
set_option maxHeartbeats 40000000 in
theorem c_bitset_Less_1 : PCon Go.Proofs.Tryd.prog 60 lf_bitset_Less_1 := by
  obtain ⟨fns, hfns, hf⟩ : ∃ fns, fns = [] ∧ FnsOk Go.Proofs.Tryd.prog fns := ⟨_, rfl, FnsOk.nil _⟩
  refine lift_con (E := E_bitset_Less_1 fns) (c := bodyOf Tryd.f60) (nt := 8) (rs := [.tmp 4]) (ts := [24]) (EnvC.sub tt_ok et_ok hf (PrsOk.nil _) (ItsOk.nil _) tt_bitset_Less_1_ok et_bitset_Less_1_ok) (PrOk.of mixed_ok) Go.Proofs.Tryd.func60 rfl (by decide) rfl rfl rfl (pureR_one (e := (.int .u64)) rfl) ?_
  subst hfns
  intro x r hw hs
  repeat'
    (try (conv => whnf)
     first
       | (with_reducible have hs := letv_out hs)
       | (refine draw_and (by kernel_rfl) ?_)
       | (refine both_mk ?_ ?_)
       | (refine br_bool (fun h => ?_) (fun h => ?_) <;> first | have hs := cT h hs | have hs := cF h hs)
       | refine chk_elim hs fun hs => ?_
       | (have hs := letv_out hs)
       | exact fin_some hs rfl
       | (intro b hb; first | have hs := nilq_elim hs b hb | have hs := nilqn_elim hs b hb)
       | (have hs := cT rfl hs)
       | (have hs := cF rfl hs)
       | exact (none_ne hs).elim)
noncomputable def lf_bitset_Less : List AV → Option AV := liftF (.pair (.arr 4 (.int .u64)) (.pair (.arr 4 (.int .u64)) .unit)) (unpack (.arr 4 (.int .u64))) (fun x => bitset_Less x.1 x.2.1)
def tt_bitset_Less : List (Nat × Ty) := [(3, .int .i64), (24, .int .u64), (26, .arr 4 (.int .u64)), (80, .opq 1)]
def et_bitset_Less : List (Nat × Nat) := []
theorem tt_bitset_Less_ok : subT tt tt_bitset_Less = true := by kernel_rfl
theorem et_bitset_Less_ok : subE et et_bitset_Less = true := by kernel_rfl
def kp_bitset_Less_57 : List (Nat × List Nat) := [(0, [2, 3, 4, 6]), (1, [2, 3, 4, 6, 8]), (2, [2, 3, 4, 6, 8, 9]), (3, [2, 3, 4, 6, 7, 8]), (4, [2, 3, 4, 6, 8]), (5, [2, 3, 4, 6, 8]), (6, [6]), (5000004, []), (819204000004, [2, 3, 4, 8195, 8196, 8198]), (819206000004, [])]
def od_bitset_Less_57 : List (Nat × Ord) := [(4, (.one 0 (.one 1 (.one 2 (.one 3 (.one 5 (.one 6 (.alt (.cons 4 (.one 200007 (.one 200008 (.one 9 (.one 200010 .nil)))) (.cons 7 (.one 200004 (.one 200008 (.one 9 (.one 200010 .nil)))) .nil))))))))))]
noncomputable def pr_bitset_Less_57 (fns : List (Nat × (List AV → Option AV))) : List (Nat × Proc) := (57, procOf ⟨0, 0, et_bitset_Less, tt_bitset_Less, fns, [], od_bitset_Less_57, kp_bitset_Less_57, none, []⟩ 23 [.cell 6 26] (bodyOf Tryd.f57)) :: []
theorem pr_bitset_Less_57_ok {fns : List (Nat × (List AV → Option AV))} (hf : FnsOk Go.Proofs.Tryd.prog fns) : PrsOk Go.Proofs.Tryd.prog (pr_bitset_Less_57 fns) :=
  PrsOk.cons (proc_con (EnvC.sub (yl := none) tt_ok et_ok hf (PrsOk.nil _) (ItsOk.nil _) tt_bitset_Less_ok et_bitset_Less_ok) (PrOk.of mixed_ok) Go.Proofs.Tryd.func57 rfl (by decide) rfl rfl) (PrsOk.nil _)
def bitset_Less_S1 (u0 : AV) (u1 : AV) (u2 : AV) (u3 : AV) (x2 : Int × List Int × List Int × List Int × List Int × List Int × List Int) : St :=
  ⟨[(2, u0), (3, u1), (4, u2), (6, u3), (8, .int .i64 x2.1)], [(2, .var (.arr 4 (.int .u64)) (.arr 4 (.int .u64) x2.2.1) false), (3, .var (.arr 4 (.int .u64)) (.arr 4 (.int .u64) x2.2.2.1) false), (4, .var (.arr 4 (.int .u64)) (.arr 4 (.int .u64) x2.2.2.2.1) false), (8195, .var (.arr 4 (.int .u64)) (.arr 4 (.int .u64) x2.2.2.2.2.1) false), (8196, .var (.arr 4 (.int .u64)) (.arr 4 (.int .u64) x2.2.2.2.2.2.1) false), (8198, .var (.arr 4 (.int .u64)) (.arr 4 (.int .u64) x2.2.2.2.2.2.2) false)], (some ([], 0))⟩
def bitset_Less_M1 : Msk := ⟨[2, 3, 4, 6, 8], [2, 3, 4, 8195, 8196, 8198], [], [], [], [], [], [], []⟩
def bitset_Less_Q1 (x3 : Int × List Int × List Int × List Int × List Int × List Int × List Int) : St :=
  ⟨[(2, .fn (.func 60) [] []), (3, .ptr 8195 []), (4, .ptr 8196 []), (6, .ptr 8198 []), (8, .int .i64 x3.1)], [(2, .var (.arr 4 (.int .u64)) (.arr 4 (.int .u64) x3.2.1) false), (3, .var (.arr 4 (.int .u64)) (.arr 4 (.int .u64) x3.2.2.1) false), (4, .var (.arr 4 (.int .u64)) (.arr 4 (.int .u64) x3.2.2.2.1) false), (8195, .var (.arr 4 (.int .u64)) (.arr 4 (.int .u64) x3.2.2.2.2.1) false), (8196, .var (.arr 4 (.int .u64)) (.arr 4 (.int .u64) x3.2.2.2.2.2.1) false), (8198, .var (.arr 4 (.int .u64)) (.arr 4 (.int .u64) x3.2.2.2.2.2.2) false)], (some ([], 0))⟩
def bitset_Less_Q2 (x1 : List Int × List Int) : St :=
  ⟨[(4, .ptr 4 []), (7, .arr 4 (.int .u64) x1.1)], [(4, .var (.arr 4 (.int .u64)) (.arr 4 (.int .u64) x1.2) false)], none⟩
def kp_bitset_Less : List (Nat × List Nat) := [(0, [2, 3, 4]), (1, [4]), (25000007, []), (20000007, [4, 7]), (24000007, [4]), (26000007, []), (4000000, [2, 3, 4]), (4000001, [4])]
def od_bitset_Less : List (Nat × Ord) := []
noncomputable def E_bitset_Less (fns : List (Nat × (List AV → Option AV))) : Env := ⟨0, 0, et_bitset_Less, tt_bitset_Less, fns, (pr_bitset_Less_57 fns), od_bitset_Less, kp_bitset_Less, none, []⟩
set_option maxRecDepth 100000 in
set_option maxHeartbeats 40000000 in
theorem c_bitset_Less : PCon Go.Proofs.Tryd.prog 30 lf_bitset_Less := by
  obtain ⟨G60, hG60, cG60⟩ : ∃ G : ((.pair (.int .u64) (.pair (.int .u64) .unit)) : Ty).den → Option Int, (∀ x, G x = bitset_Less_1 x.1 x.2.1) ∧ PCon Go.Proofs.Tryd.prog 60 (liftF (.pair (.int .u64) (.pair (.int .u64) .unit)) (unpack (.int .u64)) G) := ⟨_, fun _ => rfl, c_bitset_Less_1⟩
  obtain ⟨fns, hfns, hf⟩ : ∃ fns, fns = [(60, liftF (.pair (.int .u64) (.pair (.int .u64) .unit)) (unpack (.int .u64)) G60)] ∧ FnsOk Go.Proofs.Tryd.prog fns := ⟨_, rfl, FnsOk.cons cG60 (FnsOk.nil _)⟩
  refine lift_con (E := E_bitset_Less fns) (c := bodyOf Tryd.f30) (nt := 8) (rs := [.cell 4 26]) (ts := [26]) (EnvC.sub tt_ok et_ok hf (pr_bitset_Less_57_ok hf) (ItsOk.nil _) tt_bitset_Less_ok et_bitset_Less_ok) (PrOk.of mixed_ok) Go.Proofs.Tryd.func30 rfl (by decide) rfl rfl rfl (pureR_one (e := (.arr 4 (.int .u64))) rfl) ?_
  subst hfns
  intro x r hw hs
  have hks := True.intro
  have hbs := True.intro
  repeat'
    (try (conv => whnf)
     first
       | (with_reducible have hs := letv_out hs)
       | (refine draw_and (by kernel_rfl) ?_)
       | (refine both_mk ?_ ?_)
       | (refine br_bool (fun h => ?_) (fun h => ?_) <;> first | have hs := cT h hs | have hs := cF h hs)
       | (refine bind_elim hs fun v hb hs => ?_; first | refine callK_liftG hG60 rfl hb ?_)
       | refine chk_elim hs fun hs => ?_
       | (have hs := letv_out hs)
       | exact fin_some hs rfl
       | (intro b hb; first | have hs := nilq_elim hs b hb | have hs := nilqn_elim hs b hb)
       | exact hJ1 _ hs
       | exact hC1 _ hs
       | exact hC2 _ hs
       | (refine cut_out 1 bitset_Less_Q1 hs (fun Jc1 kc1 hC1 hs => ?_) (fun xc1 hs => ?_))
       | (refine cut_out 2 bitset_Less_Q2 hs (fun Jc2 kc2 hC2 hs => ?_) (fun xc2 hs => ?_))
       | (have hs := cT rfl hs)
       | (have hs := cF rfl hs)
       | (refine vc_loop (bitset_Less_S1 _ _ _ _) bitset_Less_M1 hs rfl ?_; intro J1 k1 x1 hJ1 hs)
       | (refine And.intro (by first | exact hks.1 | exact hks.2.1 | exact hks.2.2.1 | exact hks.2.2.2.1 | exact hks.2.2.2.2.1 | exact hks.2.2.2.2.2.1 | exact hks.2.2.2.2.2.2.1 | exact hks.2.2.2.2.2.2.2.1) ?_)
       | (first | refine callK_liftG hG60 rfl hbs.1 ?_ | refine callK_liftG hG60 rfl hbs.2.1 ?_ | refine callK_liftG hG60 rfl hbs.2.2.1 ?_)
       | (obtain ⟨hk, hs⟩ := chk_some hs; have hks := And.intro hk hks)
       | (obtain ⟨vb, hb, hs⟩ := bind_some hs; have hbs := And.intro hb hbs)
       | exact (none_ne hs).elim)
noncomputable def lf_bitset_Sub : List AV → Option AV := liftF (.pair (.arr 4 (.int .u64)) (.pair (.arr 4 (.int .u64)) .unit)) (unpack .bool) (fun x => bitset_Sub x.1 x.2.1)
def tt_bitset_Sub : List (Nat × Ty) := [(4, .bool), (26, .arr 4 (.int .u64))]
def et_bitset_Sub : List (Nat × Nat) := []
theorem tt_bitset_Sub_ok : subT tt tt_bitset_Sub = true := by kernel_rfl
theorem et_bitset_Sub_ok : subE et et_bitset_Sub = true := by kernel_rfl
def kp_bitset_Sub : List (Nat × List Nat) := [(0, [2, 3]), (1, [4]), (4000000, [2, 3]), (4000001, [])]
def od_bitset_Sub : List (Nat × Ord) := []
noncomputable def E_bitset_Sub (fns : List (Nat × (List AV → Option AV))) : Env := ⟨0, 0, et_bitset_Sub, tt_bitset_Sub, fns, [], od_bitset_Sub, kp_bitset_Sub, none, []⟩
set_option maxRecDepth 100000 in
set_option maxHeartbeats 40000000 in
theorem c_bitset_Sub : PCon Go.Proofs.Tryd.prog 32 lf_bitset_Sub := by
  obtain ⟨G30, hG30, cG30⟩ : ∃ G : ((.pair (.arr 4 (.int .u64)) (.pair (.arr 4 (.int .u64)) .unit)) : Ty).den → Option (List Int), (∀ x, G x = bitset_Less x.1 x.2.1) ∧ PCon Go.Proofs.Tryd.prog 30 (liftF (.pair (.arr 4 (.int .u64)) (.pair (.arr 4 (.int .u64)) .unit)) (unpack (.arr 4 (.int .u64))) G) := ⟨_, fun _ => rfl, c_bitset_Less⟩
  obtain ⟨fns, hfns, hf⟩ : ∃ fns, fns = [(30, liftF (.pair (.arr 4 (.int .u64)) (.pair (.arr 4 (.int .u64)) .unit)) (unpack (.arr 4 (.int .u64))) G30)] ∧ FnsOk Go.Proofs.Tryd.prog fns := ⟨_, rfl, FnsOk.cons cG30 (FnsOk.nil _)⟩
  refine lift_con (E := E_bitset_Sub fns) (c := bodyOf Tryd.f32) (nt := 10) (rs := [.tmp 4]) (ts := [4]) (EnvC.sub tt_ok et_ok hf (PrsOk.nil _) (ItsOk.nil _) tt_bitset_Sub_ok et_bitset_Sub_ok) (PrOk.of mixed_ok) Go.Proofs.Tryd.func32 rfl (by decide) rfl rfl rfl (pureR_one (e := .bool) rfl) ?_
  subst hfns
  intro x r hw hs
  repeat'
    (try (conv => whnf)
     first
       | (with_reducible have hs := letv_out hs)
       | (refine draw_and (by kernel_rfl) ?_)
       | (refine both_mk ?_ ?_)
       | (refine br_bool (fun h => ?_) (fun h => ?_) <;> first | have hs := cT h hs | have hs := cF h hs)
       | (refine bind_elim hs fun v hb hs => ?_; first | refine callK_liftG hG30 rfl hb ?_)
       | refine chk_elim hs fun hs => ?_
       | (have hs := letv_out hs)
       | exact fin_some hs rfl
       | (intro b hb; first | have hs := nilq_elim hs b hb | have hs := nilqn_elim hs b hb)
       | (have hs := cT rfl hs)
       | (have hs := cF rfl hs)
       | exact (none_ne hs).elim)
noncomputable def lf_bitset_Drop : List AV → Option AV := liftF (.pair (.arr 4 (.int .u64)) (.pair (.int .i64) .unit)) (unpack (.arr 4 (.int .u64))) (fun x => bitset_Drop x.1 x.2.1)
def tt_bitset_Drop : List (Nat × Ty) := [(3, .int .i64), (24, .int .u64), (26, .arr 4 (.int .u64))]
def et_bitset_Drop : List (Nat × Nat) := []
theorem tt_bitset_Drop_ok : subT tt tt_bitset_Drop = true := by kernel_rfl
theorem et_bitset_Drop_ok : subE et et_bitset_Drop = true := by kernel_rfl
def kp_bitset_Drop : List (Nat × List Nat) := [(0, [1, 2, 4]), (1, [1, 2, 4, 6]), (2, [2, 4]), (3, [4]), (4000000, [2, 4]), (4000001, [2, 4]), (4000002, [2, 4]), (4000003, [4])]
def od_bitset_Drop : List (Nat × Ord) := [(2, (.one 0 (.one 1 (.one 2 (.one 3 (.one 4 (.one 5 (.one 6 (.one 7 (.one 8 (.one 100009 .nil)))))))))))]
noncomputable def E_bitset_Drop (fns : List (Nat × (List AV → Option AV))) : Env := ⟨0, 0, et_bitset_Drop, tt_bitset_Drop, fns, [], od_bitset_Drop, kp_bitset_Drop, none, []⟩
set_option maxRecDepth 100000 in
set_option maxHeartbeats 40000000 in
theorem c_bitset_Drop : PCon Go.Proofs.Tryd.prog 23 lf_bitset_Drop := by
  obtain ⟨G55, hG55, cG55⟩ : ∃ G : ((.pair (.int .i64) .unit) : Ty).den → Option Bool, (∀ x, G x = bitset_fine x.1) ∧ PCon Go.Proofs.Tryd.prog 55 (liftF (.pair (.int .i64) .unit) (unpack .bool) G) := ⟨_, fun _ => rfl, c_bitset_fine⟩
  obtain ⟨fns, hfns, hf⟩ : ∃ fns, fns = [(55, liftF (.pair (.int .i64) .unit) (unpack .bool) G55)] ∧ FnsOk Go.Proofs.Tryd.prog fns := ⟨_, rfl, FnsOk.cons cG55 (FnsOk.nil _)⟩
  refine lift_con (E := E_bitset_Drop fns) (c := bodyOf Tryd.f23) (nt := 17) (rs := [.cell 4 26]) (ts := [26]) (EnvC.sub tt_ok et_ok hf (PrsOk.nil _) (ItsOk.nil _) tt_bitset_Drop_ok et_bitset_Drop_ok) (PrOk.of mixed_ok) Go.Proofs.Tryd.func23 rfl (by decide) rfl rfl rfl (pureR_one (e := (.arr 4 (.int .u64))) rfl) ?_
  subst hfns
  intro x r hw hs
  repeat'
    (try (conv => whnf)
     first
       | (with_reducible have hs := letv_out hs)
       | (refine draw_and (by kernel_rfl) ?_)
       | (refine both_mk ?_ ?_)
       | (refine br_bool (fun h => ?_) (fun h => ?_) <;> first | have hs := cT h hs | have hs := cF h hs)
       | (refine bind_elim hs fun v hb hs => ?_; first | refine callK_liftG hG55 rfl hb ?_)
       | refine chk_elim hs fun hs => ?_
       | (have hs := letv_out hs)
       | exact fin_some hs rfl
       | (intro b hb; first | have hs := nilq_elim hs b hb | have hs := nilqn_elim hs b hb)
       | (have hs := cT rfl hs)
       | (have hs := cF rfl hs)
       | exact (none_ne hs).elim)
noncomputable def lf_bitset_Next : List AV → Option AV := liftF (.pair (.arr 4 (.int .u64)) (.pair (.int .i64) .unit)) (unpR (.pair (.int .i64) (.pair .bool .unit))) (fun x => bitset_Next x.1 x.2.1)
def tt_bitset_Next : List (Nat × Ty) := [(3, .int .i64), (4, .bool), (24, .int .u64), (26, .arr 4 (.int .u64))]
def et_bitset_Next : List (Nat × Nat) := []
theorem tt_bitset_Next_ok : subT tt tt_bitset_Next = true := by kernel_rfl
theorem et_bitset_Next_ok : subE et et_bitset_Next = true := by kernel_rfl
def bitset_Next_S1 (u0 : AV) (u1 : AV) (B3 : Blk) (x1 : Int) : St :=
  ⟨[(1, u0), (2, u1), (6, .int .i64 x1)], [(2, B3)], none⟩
def bitset_Next_M1 : Msk := ⟨[1, 2, 6], [2], [], [], [], [], [], [], []⟩
def kp_bitset_Next : List (Nat × List Nat) := [(0, [1, 2]), (1, [1, 2]), (2, [1, 2, 6]), (3, [1, 2, 6, 13]), (4, [1, 2, 6]), (5, [1, 2, 6, 7]), (6, [1, 2, 6, 7, 22]), (7, [1, 2, 6, 7]), (8, [1, 2, 6, 7, 31]), (9, [4, 5]), (10, [4, 5]), (4000000, [2]), (4000001, [2]), (4000002, [2]), (4000003, [2]), (4000004, [2]), (4000005, [2]), (4000006, [2]), (4000007, [2]), (4000008, [2]), (4000009, []), (4000010, [])]
def od_bitset_Next : List (Nat × Ord) := []
noncomputable def E_bitset_Next (fns : List (Nat × (List AV → Option AV))) : Env := ⟨0, 0, et_bitset_Next, tt_bitset_Next, fns, [], od_bitset_Next, kp_bitset_Next, none, []⟩
set_option maxRecDepth 100000 in
set_option maxHeartbeats 40000000 in
theorem c_bitset_Next : PCon Go.Proofs.Tryd.prog 13 lf_bitset_Next := by
  obtain ⟨G52, hG52, cG52⟩ : ∃ G : ((.pair (.int .u64) .unit) : Ty).den → Option Int, (∀ x, G x = math_bits_TrailingZeros64 x.1) ∧ PCon Go.Proofs.Tryd.prog 52 (liftF (.pair (.int .u64) .unit) (unpack (.int .i64)) G) := ⟨_, fun _ => rfl, c_math_bits_TrailingZeros64⟩
  obtain ⟨fns, hfns, hf⟩ : ∃ fns, fns = [(52, liftF (.pair (.int .u64) .unit) (unpack (.int .i64)) G52)] ∧ FnsOk Go.Proofs.Tryd.prog fns := ⟨_, rfl, FnsOk.cons cG52 (FnsOk.nil _)⟩
  refine lift_con (E := E_bitset_Next fns) (c := bodyOf Tryd.f13) (nt := 37) (rs := [.tmp 4, .tmp 5]) (ts := [3, 4]) (EnvC.sub tt_ok et_ok hf (PrsOk.nil _) (ItsOk.nil _) tt_bitset_Next_ok et_bitset_Next_ok) (PrOk.of mixed_ok) Go.Proofs.Tryd.func13 rfl (by decide) rfl rfl rfl (pureR_many (e := (.pair (.int .i64) (.pair .bool .unit))) rfl) ?_
  subst hfns
  intro x r hw hs
  repeat'
    (try (conv => whnf)
     first
       | (with_reducible have hs := letv_out hs)
       | (refine draw_and (by kernel_rfl) ?_)
       | (refine both_mk ?_ ?_)
       | (refine br_bool (fun h => ?_) (fun h => ?_) <;> first | have hs := cT h hs | have hs := cF h hs)
       | (refine bind_elim hs fun v hb hs => ?_; first | refine callK_liftG hG52 rfl hb ?_)
       | refine chk_elim hs fun hs => ?_
       | (have hs := letv_out hs)
       | exact fin_some hs rfl
       | (intro b hb; first | have hs := nilq_elim hs b hb | have hs := nilqn_elim hs b hb)
       | exact hJ1 _ hs
       | (have hs := cT rfl hs)
       | (have hs := cF rfl hs)
       | (refine vc_loop (bitset_Next_S1 _ _ _) bitset_Next_M1 hs rfl ?_; intro J1 k1 x1 hJ1 hs)
       | exact (none_ne hs).elim)
noncomputable def lf_bitset_List : List AV → Option AV := liftF (.pair (.arr 4 (.int .u64)) .unit) (unpack (.sl (.int .i64))) (fun x => bitset_List x.1)
def tt_bitset_List : List (Nat × Ty) := [(3, .int .i64), (4, .bool), (22, .sl (.int .i64)), (26, .arr 4 (.int .u64)), (41, .opq 1)]
def et_bitset_List : List (Nat × Nat) := [(22, 3)]
theorem tt_bitset_List_ok : subT tt tt_bitset_List = true := by kernel_rfl
theorem et_bitset_List_ok : subE et et_bitset_List = true := by kernel_rfl
def kp_bitset_List_56 : List (Nat × List Nat) := [(0, [0, 1, 3, 4]), (1, [0, 1, 3, 10]), (2, [0, 1, 3, 4]), (3, [0, 1, 3, 21])]
def od_bitset_List_56 : List (Nat × Ord) := []
noncomputable def it_bitset_List_56 (fns : List (Nat × (List AV → Option AV))) : List (Nat × (Nat → (List Nat → Proc) → Proc)) := (56, itOf ⟨0, 0, et_bitset_List, tt_bitset_List, fns, [], od_bitset_List_56, kp_bitset_List_56, none, []⟩ 22 [] (bodyOf Tryd.f56)) :: []
theorem it_bitset_List_56_ok {fns : List (Nat × (List AV → Option AV))} (hf : FnsOk Go.Proofs.Tryd.prog fns) : ItsOk Go.Proofs.Tryd.prog (it_bitset_List_56 fns) :=
  ItsOk.cons (it_con (EnvC.sub (yl := none) tt_ok et_ok hf (PrsOk.nil _) (ItsOk.nil _) tt_bitset_List_ok et_bitset_List_ok) (PrOk.of mixed_ok) Go.Proofs.Tryd.func56 rfl (by decide) rfl rfl) (ItsOk.nil _)
def kp_bitset_List_25 : List (Nat × List Nat) := [(0, [1]), (1, [2])]
def od_bitset_List_25 : List (Nat × Ord) := []
noncomputable def pr_bitset_List_25 (fns : List (Nat × (List AV → Option AV))) : List (Nat × Proc) := (25, procOf ⟨0, 0, et_bitset_List, tt_bitset_List, fns, [], od_bitset_List_25, kp_bitset_List_25, none, (it_bitset_List_56 fns)⟩ 4 [.tmp 2] (bodyOf Tryd.f25)) :: []
theorem pr_bitset_List_25_ok {fns : List (Nat × (List AV → Option AV))} (hf : FnsOk Go.Proofs.Tryd.prog fns) : PrsOk Go.Proofs.Tryd.prog (pr_bitset_List_25 fns) :=
  PrsOk.cons (proc_con (EnvC.sub (yl := none) tt_ok et_ok hf (PrsOk.nil _) (it_bitset_List_56_ok hf) tt_bitset_List_ok et_bitset_List_ok) (PrOk.of mixed_ok) Go.Proofs.Tryd.func25 rfl (by decide) rfl rfl) (PrsOk.nil _)
def bitset_List_S1 (u0 : AV) (u1 : AV) (B3 : Blk) (B5 : Blk) (x2 : Int × Bool × List Int) : St :=
  ⟨[(0, u0), (1, u1), (3, .int .i64 x2.1), (4, .bool x2.2.1)], [(3, B3), (11, .row 3 (.int .i64) x2.2.2 false), (7169, B5)], (some ([10, 11], 0))⟩
def bitset_List_M1 : Msk := ⟨[0, 1, 3, 4], [3, 11, 7169], [], [(3, [], 11, 22)], [10, 11], [], [], [], []⟩
def bitset_List_Q1 (x1 : List Int) : St :=
  ⟨[(3, .ptr 3 []), (6, .fn (.func 56) [] [.ptr 7169 []])], [(3, .var (.sl (.int .i64)) (.con (.slice none 0 0)) false), (7169, .var (.arr 4 (.int .u64)) (.arr 4 (.int .u64) x1) false)], none⟩
def kp_bitset_List : List (Nat × List Nat) := [(0, [1]), (1, [1, 3]), (2, [3, 6]), (3, [3, 4]), (4, []), (5, [2]), (25000006, []), (20000006, [3, 6]), (24000006, [3, 7169]), (26000006, []), (4000000, [1]), (4000001, [1, 3]), (4000002, [3, 7169]), (4000003, [3, 11, 7169]), (4000004, [3, 11, 7169]), (4000005, [11])]
def od_bitset_List : List (Nat × Ord) := []
noncomputable def E_bitset_List (fns : List (Nat × (List AV → Option AV))) : Env := ⟨0, 0, et_bitset_List, tt_bitset_List, fns, (pr_bitset_List_25 fns), od_bitset_List, kp_bitset_List, none, (it_bitset_List_56 fns)⟩
set_option maxRecDepth 100000 in
set_option maxHeartbeats 40000000 in
theorem c_bitset_List : PCon Go.Proofs.Tryd.prog 17 lf_bitset_List := by
  obtain ⟨G13, hG13, cG13⟩ : ∃ G : ((.pair (.arr 4 (.int .u64)) (.pair (.int .i64) .unit)) : Ty).den → Option (Int × Bool × Unit), (∀ x, G x = bitset_Next x.1 x.2.1) ∧ PCon Go.Proofs.Tryd.prog 13 (liftF (.pair (.arr 4 (.int .u64)) (.pair (.int .i64) .unit)) (unpR (.pair (.int .i64) (.pair .bool .unit))) G) := ⟨_, fun _ => rfl, c_bitset_Next⟩
  obtain ⟨fns, hfns, hf⟩ : ∃ fns, fns = [(13, liftF (.pair (.arr 4 (.int .u64)) (.pair (.int .i64) .unit)) (unpR (.pair (.int .i64) (.pair .bool .unit))) G13)] ∧ FnsOk Go.Proofs.Tryd.prog fns := ⟨_, rfl, FnsOk.cons cG13 (FnsOk.nil _)⟩
  refine lift_con (E := E_bitset_List fns) (c := bodyOf Tryd.f17) (nt := 13) (rs := [.tmp 2]) (ts := [22]) (EnvC.sub tt_ok et_ok hf (pr_bitset_List_25_ok hf) (it_bitset_List_56_ok hf) tt_bitset_List_ok et_bitset_List_ok) (PrOk.of mixed_ok) Go.Proofs.Tryd.func17 rfl (by decide) rfl rfl rfl (pureR_one (e := (.sl (.int .i64))) rfl) ?_
  subst hfns
  intro x r hw hs
  repeat'
    (try (conv => whnf)
     first
       | (with_reducible have hs := letv_out hs)
       | (refine draw_and (by kernel_rfl) ?_)
       | (refine both_mk ?_ ?_)
       | (refine br_bool (fun h => ?_) (fun h => ?_) <;> first | have hs := cT h hs | have hs := cF h hs)
       | (refine bind_elim hs fun v hb hs => ?_; first | refine callK_liftG hG13 rfl hb ?_)
       | refine chk_elim hs fun hs => ?_
       | (have hs := letv_out hs)
       | exact fin_some hs rfl
       | (intro b hb; first | have hs := nilq_elim hs b hb | have hs := nilqn_elim hs b hb)
       | exact hJ1 _ hs
       | exact hC1 _ hs
       | (refine cut_out 1 bitset_List_Q1 hs (fun Jc1 kc1 hC1 hs => ?_) (fun xc1 hs => ?_))
       | (have hs := cT rfl hs)
       | (have hs := cF rfl hs)
       | (refine vc_loop (bitset_List_S1 _ _ _ _) bitset_List_M1 hs rfl ?_; intro J1 k1 x1 hJ1 hs)
       | (refine eqP_mk ?_)
       | (intro l)
       | exact (none_ne hs).elim)
noncomputable def lf_bitset_Len : List AV → Option AV := liftF (.pair (.arr 4 (.int .u64)) .unit) (unpack (.int .i64)) (fun x => bitset_Len x.1)
def tt_bitset_Len : List (Nat × Ty) := [(3, .int .i64), (24, .int .u64), (26, .arr 4 (.int .u64))]
def et_bitset_Len : List (Nat × Nat) := []
theorem tt_bitset_Len_ok : subT tt tt_bitset_Len = true := by kernel_rfl
theorem et_bitset_Len_ok : subE et et_bitset_Len = true := by kernel_rfl
def bitset_Len_S1 (u0 : AV) (x1 : Int × Int) : St :=
  ⟨[(3, .int .i64 x1.1), (6, u0), (7, .int .i64 x1.2)], [], none⟩
def bitset_Len_M1 : Msk := ⟨[3, 6, 7], [], [], [], [], [], [], [], []⟩
def kp_bitset_Len : List (Nat × List Nat) := [(0, [1]), (1, [1, 3]), (2, [3, 6, 7]), (3, [3, 6, 7, 8]), (4, [3, 5, 6, 7]), (5, [3, 6, 7]), (6, [3, 6, 7]), (7, [2]), (4000000, [1]), (4000001, [1]), (4000002, []), (4000003, []), (4000004, []), (4000005, []), (4000006, []), (4000007, [])]
def od_bitset_Len : List (Nat × Ord) := []
noncomputable def E_bitset_Len (fns : List (Nat × (List AV → Option AV))) : Env := ⟨0, 0, et_bitset_Len, tt_bitset_Len, fns, [], od_bitset_Len, kp_bitset_Len, none, []⟩
set_option maxRecDepth 100000 in
set_option maxHeartbeats 40000000 in
theorem c_bitset_Len : PCon Go.Proofs.Tryd.prog 18 lf_bitset_Len := by
  obtain ⟨G54, hG54, cG54⟩ : ∃ G : ((.pair (.int .u64) .unit) : Ty).den → Option Int, (∀ x, G x = math_bits_OnesCount64 x.1) ∧ PCon Go.Proofs.Tryd.prog 54 (liftF (.pair (.int .u64) .unit) (unpack (.int .i64)) G) := ⟨_, fun _ => rfl, c_math_bits_OnesCount64⟩
  obtain ⟨fns, hfns, hf⟩ : ∃ fns, fns = [(54, liftF (.pair (.int .u64) .unit) (unpack (.int .i64)) G54)] ∧ FnsOk Go.Proofs.Tryd.prog fns := ⟨_, rfl, FnsOk.cons cG54 (FnsOk.nil _)⟩
  refine lift_con (E := E_bitset_Len fns) (c := bodyOf Tryd.f18) (nt := 16) (rs := [.tmp 2]) (ts := [3]) (EnvC.sub tt_ok et_ok hf (PrsOk.nil _) (ItsOk.nil _) tt_bitset_Len_ok et_bitset_Len_ok) (PrOk.of mixed_ok) Go.Proofs.Tryd.func18 rfl (by decide) rfl rfl rfl (pureR_one (e := (.int .i64)) rfl) ?_
  subst hfns
  intro x r hw hs
  repeat'
    (try (conv => whnf)
     first
       | (with_reducible have hs := letv_out hs)
       | (refine draw_and (by kernel_rfl) ?_)
       | (refine both_mk ?_ ?_)
       | (refine br_bool (fun h => ?_) (fun h => ?_) <;> first | have hs := cT h hs | have hs := cF h hs)
       | (refine bind_elim hs fun v hb hs => ?_; first | refine callK_liftG hG54 rfl hb ?_)
       | refine chk_elim hs fun hs => ?_
       | (have hs := letv_out hs)
       | exact fin_some hs rfl
       | (intro b hb; first | have hs := nilq_elim hs b hb | have hs := nilqn_elim hs b hb)
       | exact hJ1 _ hs
       | (have hs := cT rfl hs)
       | (have hs := cF rfl hs)
       | (refine vc_loop (bitset_Len_S1 _) bitset_Len_M1 hs rfl ?_; intro J1 k1 x1 hJ1 hs)
       | exact (none_ne hs).elim)
end Go.Proofs.YtejedlpnejjnbaaDoorV
