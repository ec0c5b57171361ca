/- What becket/becketlaw04.BitsetOne answers. -/
import Derived.Test.YtejedlpnejjnbaaDoorBVcTab
import Derived.Test.YtejedlpnejjnbaaDoorBDBitsetOne
import Derived.Test.YtejedlpnejjnbaaDoorBCL04
import Derived.Test.YtejedlpnejjnbaaDoorBCR02
import Derived.Test.YtejedlpnejjnbaaDoorBCR04
import Derived.Test.YtejedlpnejjnbaaDoorBCbitset
namespace Go.Proofs.YtejedlpnejjnbaaDoorBV
open Go.Proofs
set_option linter.unusedVariables false
noncomputable def lf_L04_BitsetOne : List AV → Option AV := liftF (.pair (.sl (.int .i64)) (.pair (.int .i64) .unit)) (unpack .bool) (fun x => L04_BitsetOne x.1 x.2.1)
def tt_L04_BitsetOne : List (Nat × Ty) := [(3, .int .i64), (4, .bool), (22, .sl (.int .i64)), (26, .arr 4 (.int .u64))]
def et_L04_BitsetOne : List (Nat × Nat) := [(22, 3)]
theorem tt_L04_BitsetOne_ok : subT tt tt_L04_BitsetOne = true := by kernel_rfl
theorem et_L04_BitsetOne_ok : subE et et_L04_BitsetOne = true := by kernel_rfl
def kp_L04_BitsetOne : List (Nat × List Nat) := [(0, [0, 1]), (1, [0, 1, 13]), (2, [4]), (3, [1, 5, 6]), (4, [1, 5, 6, 7, 8]), (5, [1, 5, 6, 7, 8, 9, 10]), (6, [1, 5, 6, 67]), (7, [4]), (8, [4]), (4000000, []), (4000001, []), (4000002, []), (4000003, [5]), (4000004, [5]), (4000005, [5]), (4000006, [5]), (4000007, []), (4000008, [])]
def od_L04_BitsetOne : List (Nat × Ord) := [(6, (.one 0 (.one 1 (.one 2 (.one 3 (.one 4 (.one 5 (.one 7 (.one 6 (.one 100008 (.one 9 (.one 10 (.one 11 (.one 12 (.one 14 (.one 15 (.one 13 (.one 16 (.one 17 (.one 18 (.one 19 (.one 20 (.one 22 (.one 23 (.one 21 (.one 100024 (.one 25 (.one 26 (.one 27 (.one 28 (.one 29 (.one 30 (.one 31 (.one 32 (.one 33 (.one 34 (.one 35 (.one 36 .nil))))))))))))))))))))))))))))))))))))))]
noncomputable def E_L04_BitsetOne (fns : List (Nat × (List AV → Option AV))) : Env := ⟨0, 0, et_L04_BitsetOne, tt_L04_BitsetOne, fns, [], od_L04_BitsetOne, kp_L04_BitsetOne, none, []⟩
set_option maxRecDepth 100000 in
set_option maxHeartbeats 40000000 in
theorem c_L04_BitsetOne : PCon Go.Proofs.Tryd.prog 3 lf_L04_BitsetOne := by
  obtain ⟨G10, hG10, cG10⟩ : ∃ G : (.unit : Ty).den → Option Bool, (∀ x, G x = L04_alive) ∧ PCon Go.Proofs.Tryd.prog 10 (liftF .unit (unpack .bool) G) := ⟨_, fun _ => rfl, c_L04_alive⟩
  obtain ⟨G11, hG11, cG11⟩ : ∃ G : ((.pair (.sl (.int .i64)) .unit) : Ty).den → Option (List Int), (∀ x, G x = bitset_Of x.1) ∧ PCon Go.Proofs.Tryd.prog 11 (liftF (.pair (.sl (.int .i64)) .unit) (unpack (.arr 4 (.int .u64))) G) := ⟨_, fun _ => rfl, c_bitset_Of⟩
  obtain ⟨G12, hG12, cG12⟩ : ∃ G : ((.pair (.sl (.int .i64)) .unit) : Ty).den → Option (List Int), (∀ x, G x = R04_Of x.1) ∧ PCon Go.Proofs.Tryd.prog 12 (liftF (.pair (.sl (.int .i64)) .unit) (unpack (.sl (.int .i64))) G) := ⟨_, fun _ => rfl, c_R04_Of⟩
  obtain ⟨G13, hG13, cG13⟩ : ∃ G : ((.pair (.arr 4 (.int .u64)) (.pair (.int .i64) .unit)) : Ty).den → Option (Int × Bool × Unit), (∀ x, G x = bitset_Next x.1 x.2.1) ∧ PCon Go.Proofs.Tryd.prog 13 (liftF (.pair (.arr 4 (.int .u64)) (.pair (.int .i64) .unit)) (unpR (.pair (.int .i64) (.pair .bool .unit))) G) := ⟨_, fun _ => rfl, c_bitset_Next⟩
  obtain ⟨G14, hG14, cG14⟩ : ∃ G : ((.pair (.sl (.int .i64)) (.pair (.int .i64) .unit)) : Ty).den → Option (Int × Bool × Unit), (∀ x, G x = R04_Next x.1 x.2.1) ∧ PCon Go.Proofs.Tryd.prog 14 (liftF (.pair (.sl (.int .i64)) (.pair (.int .i64) .unit)) (unpR (.pair (.int .i64) (.pair .bool .unit))) G) := ⟨_, fun _ => rfl, c_R04_Next⟩
  obtain ⟨G15, hG15, cG15⟩ : ∃ G : ((.pair (.sl (.int .i64)) .unit) : Ty).den → Option (List Int), (∀ x, G x = R04_Words x.1) ∧ PCon Go.Proofs.Tryd.prog 15 (liftF (.pair (.sl (.int .i64)) .unit) (unpack (.arr 4 (.int .u64))) G) := ⟨_, fun _ => rfl, c_R04_Words⟩
  obtain ⟨G16, hG16, cG16⟩ : ∃ G : ((.pair (.sl (.int .i64)) (.pair (.sl (.int .i64)) .unit)) : Ty).den → Option Bool, (∀ x, G x = R02_Same x.1 x.2.1) ∧ PCon Go.Proofs.Tryd.prog 16 (liftF (.pair (.sl (.int .i64)) (.pair (.sl (.int .i64)) .unit)) (unpack .bool) G) := ⟨_, fun _ => rfl, c_R02_Same⟩
  obtain ⟨G17, hG17, cG17⟩ : ∃ G : ((.pair (.arr 4 (.int .u64)) .unit) : Ty).den → Option (List Int), (∀ x, G x = bitset_List x.1) ∧ PCon Go.Proofs.Tryd.prog 17 (liftF (.pair (.arr 4 (.int .u64)) .unit) (unpack (.sl (.int .i64))) G) := ⟨_, fun _ => rfl, c_bitset_List⟩
  obtain ⟨G18, hG18, cG18⟩ : ∃ G : ((.pair (.arr 4 (.int .u64)) .unit) : Ty).den → Option Int, (∀ x, G x = bitset_Len x.1) ∧ PCon Go.Proofs.Tryd.prog 18 (liftF (.pair (.arr 4 (.int .u64)) .unit) (unpack (.int .i64)) G) := ⟨_, fun _ => rfl, c_bitset_Len⟩
  obtain ⟨G19, hG19, cG19⟩ : ∃ G : ((.pair (.arr 4 (.int .u64)) (.pair (.int .i64) .unit)) : Ty).den → Option Bool, (∀ x, G x = bitset_Has x.1 x.2.1) ∧ PCon Go.Proofs.Tryd.prog 19 (liftF (.pair (.arr 4 (.int .u64)) (.pair (.int .i64) .unit)) (unpack .bool) G) := ⟨_, fun _ => rfl, c_bitset_Has⟩
  obtain ⟨G20, hG20, cG20⟩ : ∃ G : ((.pair (.sl (.int .i64)) (.pair (.int .i64) .unit)) : Ty).den → Option Bool, (∀ x, G x = R04_Has x.1 x.2.1) ∧ PCon Go.Proofs.Tryd.prog 20 (liftF (.pair (.sl (.int .i64)) (.pair (.int .i64) .unit)) (unpack .bool) G) := ⟨_, fun _ => rfl, c_R04_Has⟩
  obtain ⟨G21, hG21, cG21⟩ : ∃ G : ((.pair (.arr 4 (.int .u64)) (.pair (.int .i64) .unit)) : Ty).den → Option (List Int), (∀ x, G x = bitset_Add x.1 x.2.1) ∧ PCon Go.Proofs.Tryd.prog 21 (liftF (.pair (.arr 4 (.int .u64)) (.pair (.int .i64) .unit)) (unpack (.arr 4 (.int .u64))) G) := ⟨_, fun _ => rfl, c_bitset_Add⟩
  obtain ⟨G22, hG22, cG22⟩ : ∃ G : ((.pair (.sl (.int .i64)) (.pair (.int .i64) .unit)) : Ty).den → Option (List Int), (∀ x, G x = R04_Add x.1 x.2.1) ∧ PCon Go.Proofs.Tryd.prog 22 (liftF (.pair (.sl (.int .i64)) (.pair (.int .i64) .unit)) (unpack (.sl (.int .i64))) G) := ⟨_, fun _ => rfl, c_R04_Add⟩
  obtain ⟨G23, hG23, cG23⟩ : ∃ G : ((.pair (.arr 4 (.int .u64)) (.pair (.int .i64) .unit)) : Ty).den → Option (List Int), (∀ x, G x = bitset_Drop x.1 x.2.1) ∧ PCon Go.Proofs.Tryd.prog 23 (liftF (.pair (.arr 4 (.int .u64)) (.pair (.int .i64) .unit)) (unpack (.arr 4 (.int .u64))) G) := ⟨_, fun _ => rfl, c_bitset_Drop⟩
  obtain ⟨G24, hG24, cG24⟩ : ∃ G : ((.pair (.sl (.int .i64)) (.pair (.int .i64) .unit)) : Ty).den → Option (List Int), (∀ x, G x = R04_Drop x.1 x.2.1) ∧ PCon Go.Proofs.Tryd.prog 24 (liftF (.pair (.sl (.int .i64)) (.pair (.int .i64) .unit)) (unpack (.sl (.int .i64))) G) := ⟨_, fun _ => rfl, c_R04_Drop⟩
  obtain ⟨fns, hfns, hf⟩ : ∃ fns, fns = [(10, liftF .unit (unpack .bool) G10), (11, liftF (.pair (.sl (.int .i64)) .unit) (unpack (.arr 4 (.int .u64))) G11), (12, liftF (.pair (.sl (.int .i64)) .unit) (unpack (.sl (.int .i64))) G12), (13, liftF (.pair (.arr 4 (.int .u64)) (.pair (.int .i64) .unit)) (unpR (.pair (.int .i64) (.pair .bool .unit))) G13), (14, liftF (.pair (.sl (.int .i64)) (.pair (.int .i64) .unit)) (unpR (.pair (.int .i64) (.pair .bool .unit))) G14), (15, liftF (.pair (.sl (.int .i64)) .unit) (unpack (.arr 4 (.int .u64))) G15), (16, liftF (.pair (.sl (.int .i64)) (.pair (.sl (.int .i64)) .unit)) (unpack .bool) G16), (17, liftF (.pair (.arr 4 (.int .u64)) .unit) (unpack (.sl (.int .i64))) G17), (18, liftF (.pair (.arr 4 (.int .u64)) .unit) (unpack (.int .i64)) G18), (19, liftF (.pair (.arr 4 (.int .u64)) (.pair (.int .i64) .unit)) (unpack .bool) G19), (20, liftF (.pair (.sl (.int .i64)) (.pair (.int .i64) .unit)) (unpack .bool) G20), (21, liftF (.pair (.arr 4 (.int .u64)) (.pair (.int .i64) .unit)) (unpack (.arr 4 (.int .u64))) G21), (22, liftF (.pair (.sl (.int .i64)) (.pair (.int .i64) .unit)) (unpack (.sl (.int .i64))) G22), (23, liftF (.pair (.arr 4 (.int .u64)) (.pair (.int .i64) .unit)) (unpack (.arr 4 (.int .u64))) G23), (24, liftF (.pair (.sl (.int .i64)) (.pair (.int .i64) .unit)) (unpack (.sl (.int .i64))) G24)] ∧ FnsOk Go.Proofs.Tryd.prog fns := ⟨_, rfl, FnsOk.cons cG10 (FnsOk.cons cG11 (FnsOk.cons cG12 (FnsOk.cons cG13 (FnsOk.cons cG14 (FnsOk.cons cG15 (FnsOk.cons cG16 (FnsOk.cons cG17 (FnsOk.cons cG18 (FnsOk.cons cG19 (FnsOk.cons cG20 (FnsOk.cons cG21 (FnsOk.cons cG22 (FnsOk.cons cG23 (FnsOk.cons cG24 (FnsOk.nil _)))))))))))))))⟩
  refine lift_con (E := E_L04_BitsetOne fns) (c := bodyOf Tryd.f3) (nt := 89) (rs := [.tmp 4]) (ts := [4]) (EnvC.sub tt_ok et_ok hf (PrsOk.nil _) (ItsOk.nil _) tt_L04_BitsetOne_ok et_L04_BitsetOne_ok) (PrOk.of mixed_ok) Go.Proofs.Tryd.func3 rfl (by decide) rfl rfl rfl (pureR_one (e := .bool) rfl) ?_
  subst hfns
  intro x r hw hs
  repeat'
    (try (conv => whnf)
     first
       | (with_reducible have hs := letv_out hs)
       | (refine draw_and (by kernel_rfl) ?_)
       | (refine both_mk ?_ ?_)
       | (refine br_bool (fun h => ?_) (fun h => ?_) <;> first | have hs := cT h hs | have hs := cF h hs)
       | (refine bind_elim hs fun v hb hs => ?_; first | refine callK_liftG hG10 rfl hb ?_ | refine callK_liftG hG11 rfl hb ?_ | refine callK_liftG hG12 rfl hb ?_ | refine callK_liftG hG13 rfl hb ?_ | refine callK_liftG hG14 rfl hb ?_ | refine callK_liftG hG15 rfl hb ?_ | refine callK_liftG hG16 rfl hb ?_ | refine callK_liftG hG17 rfl hb ?_ | refine callK_liftG hG18 rfl hb ?_ | refine callK_liftG hG19 rfl hb ?_ | refine callK_liftG hG20 rfl hb ?_ | refine callK_liftG hG21 rfl hb ?_ | refine callK_liftG hG22 rfl hb ?_ | refine callK_liftG hG23 rfl hb ?_ | refine callK_liftG hG24 rfl hb ?_)
       | refine chk_elim hs fun hs => ?_
       | (have hs := letv_out hs)
       | exact fin_some hs rfl
       | (intro b hb; first | have hs := nilq_elim hs b hb | have hs := nilqn_elim hs b hb)
       | (have hs := cT rfl hs)
       | (have hs := cF rfl hs)
       | exact (none_ne hs).elim)
end Go.Proofs.YtejedlpnejjnbaaDoorBV
