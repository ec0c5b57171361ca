import Derived.Test.YtejedlpnejjnbaaDoorBVcTab
import Derived.Test.YtejedlpnejjnbaaDoorBDL04
import Derived.Test.YtejedlpnejjnbaaDoorBCR02
import Derived.Test.YtejedlpnejjnbaaDoorBCR04
import Derived.Test.YtejedlpnejjnbaaDoorBCbitset
namespace Go.Proofs.YtejedlpnejjnbaaDoorBV
open Go.Proofs
set_option linter.unusedVariables false
noncomputable def lf_L04_alive : List AV → Option AV := liftF .unit (unpack .bool) (fun x => L04_alive)
def tt_L04_alive : List (Nat × Ty) := [(3, .int .i64), (4, .bool), (22, .sl (.int .i64)), (26, .arr 4 (.int .u64))]
def et_L04_alive : List (Nat × Nat) := [(22, 3)]
theorem tt_L04_alive_ok : subT tt tt_L04_alive = true := by kernel_rfl
theorem et_L04_alive_ok : subE et et_L04_alive = true := by kernel_rfl
def kp_L04_alive : List (Nat × List Nat) := [(0, []), (1, [1]), (2, [1, 2, 3]), (3, [0]), (4000000, []), (4000001, [1]), (4000002, [1]), (4000003, [])]
def od_L04_alive : List (Nat × Ord) := [(3, (.one 0 (.one 1 (.one 2 (.one 3 (.one 4 (.one 100005 (.one 6 (.one 7 (.one 8 (.one 9 (.one 100010 (.one 11 (.one 12 (.one 13 (.one 100014 (.one 15 (.one 16 (.one 17 (.one 18 (.one 19 (.one 20 (.one 21 (.one 22 (.one 23 (.one 24 (.one 25 (.alt (.cons 26 (.one 27 (.one 100028 (.one 29 (.one 30 (.one 31 (.one 33 (.one 32 (.one 100034 (.one 35 (.one 36 (.one 37 (.one 39 (.one 38 (.one 100040 (.one 41 (.one 42 (.one 43 .nil))))))))))))))))) (.cons 27 (.one 26 (.one 100028 (.one 29 (.one 30 (.one 31 (.one 33 (.one 32 (.one 100034 (.one 35 (.one 36 (.one 37 (.one 39 (.one 38 (.one 100040 (.one 41 (.one 42 (.one 43 .nil))))))))))))))))) .nil)))))))))))))))))))))))))))))), (1000011, .nil)]
noncomputable def E_L04_alive (fns : List (Nat × (List AV → Option AV))) : Env := ⟨0, 0, et_L04_alive, tt_L04_alive, fns, [], od_L04_alive, kp_L04_alive, none, []⟩
set_option maxRecDepth 100000 in
set_option maxHeartbeats 40000000 in
theorem c_L04_alive : PCon Go.Proofs.Tryd.prog 10 lf_L04_alive := by
  obtain ⟨G11, hG11, cG11⟩ : ∃ G : ((.pair (.sl (.int .i64)) .unit) : Ty).den → Option (List Int), (∀ x, G x = bitset_Of x.1) ∧ PCon Go.Proofs.Tryd.prog 11 (liftF (.pair (.sl (.int .i64)) .unit) (unpack (.arr 4 (.int .u64))) G) := ⟨_, fun _ => rfl, c_bitset_Of⟩
  obtain ⟨G13, hG13, cG13⟩ : ∃ G : ((.pair (.arr 4 (.int .u64)) (.pair (.int .i64) .unit)) : Ty).den → Option (Int × Bool × Unit), (∀ x, G x = bitset_Next x.1 x.2.1) ∧ PCon Go.Proofs.Tryd.prog 13 (liftF (.pair (.arr 4 (.int .u64)) (.pair (.int .i64) .unit)) (unpR (.pair (.int .i64) (.pair .bool .unit))) G) := ⟨_, fun _ => rfl, c_bitset_Next⟩
  obtain ⟨G16, hG16, cG16⟩ : ∃ G : ((.pair (.sl (.int .i64)) (.pair (.sl (.int .i64)) .unit)) : Ty).den → Option Bool, (∀ x, G x = R02_Same x.1 x.2.1) ∧ PCon Go.Proofs.Tryd.prog 16 (liftF (.pair (.sl (.int .i64)) (.pair (.sl (.int .i64)) .unit)) (unpack .bool) G) := ⟨_, fun _ => rfl, c_R02_Same⟩
  obtain ⟨G17, hG17, cG17⟩ : ∃ G : ((.pair (.arr 4 (.int .u64)) .unit) : Ty).den → Option (List Int), (∀ x, G x = bitset_List x.1) ∧ PCon Go.Proofs.Tryd.prog 17 (liftF (.pair (.arr 4 (.int .u64)) .unit) (unpack (.sl (.int .i64))) G) := ⟨_, fun _ => rfl, c_bitset_List⟩
  obtain ⟨G18, hG18, cG18⟩ : ∃ G : ((.pair (.arr 4 (.int .u64)) .unit) : Ty).den → Option Int, (∀ x, G x = bitset_Len x.1) ∧ PCon Go.Proofs.Tryd.prog 18 (liftF (.pair (.arr 4 (.int .u64)) .unit) (unpack (.int .i64)) G) := ⟨_, fun _ => rfl, c_bitset_Len⟩
  obtain ⟨G19, hG19, cG19⟩ : ∃ G : ((.pair (.arr 4 (.int .u64)) (.pair (.int .i64) .unit)) : Ty).den → Option Bool, (∀ x, G x = bitset_Has x.1 x.2.1) ∧ PCon Go.Proofs.Tryd.prog 19 (liftF (.pair (.arr 4 (.int .u64)) (.pair (.int .i64) .unit)) (unpack .bool) G) := ⟨_, fun _ => rfl, c_bitset_Has⟩
  obtain ⟨G21, hG21, cG21⟩ : ∃ G : ((.pair (.arr 4 (.int .u64)) (.pair (.int .i64) .unit)) : Ty).den → Option (List Int), (∀ x, G x = bitset_Add x.1 x.2.1) ∧ PCon Go.Proofs.Tryd.prog 21 (liftF (.pair (.arr 4 (.int .u64)) (.pair (.int .i64) .unit)) (unpack (.arr 4 (.int .u64))) G) := ⟨_, fun _ => rfl, c_bitset_Add⟩
  obtain ⟨G23, hG23, cG23⟩ : ∃ G : ((.pair (.arr 4 (.int .u64)) (.pair (.int .i64) .unit)) : Ty).den → Option (List Int), (∀ x, G x = bitset_Drop x.1 x.2.1) ∧ PCon Go.Proofs.Tryd.prog 23 (liftF (.pair (.arr 4 (.int .u64)) (.pair (.int .i64) .unit)) (unpack (.arr 4 (.int .u64))) G) := ⟨_, fun _ => rfl, c_bitset_Drop⟩
  obtain ⟨G32, hG32, cG32⟩ : ∃ G : ((.pair (.arr 4 (.int .u64)) (.pair (.arr 4 (.int .u64)) .unit)) : Ty).den → Option Bool, (∀ x, G x = bitset_Sub x.1 x.2.1) ∧ PCon Go.Proofs.Tryd.prog 32 (liftF (.pair (.arr 4 (.int .u64)) (.pair (.arr 4 (.int .u64)) .unit)) (unpack .bool) G) := ⟨_, fun _ => rfl, c_bitset_Sub⟩
  obtain ⟨fns, hfns, hf⟩ : ∃ fns, fns = [(11, liftF (.pair (.sl (.int .i64)) .unit) (unpack (.arr 4 (.int .u64))) G11), (13, liftF (.pair (.arr 4 (.int .u64)) (.pair (.int .i64) .unit)) (unpR (.pair (.int .i64) (.pair .bool .unit))) G13), (16, liftF (.pair (.sl (.int .i64)) (.pair (.sl (.int .i64)) .unit)) (unpack .bool) G16), (17, liftF (.pair (.arr 4 (.int .u64)) .unit) (unpack (.sl (.int .i64))) G17), (18, liftF (.pair (.arr 4 (.int .u64)) .unit) (unpack (.int .i64)) G18), (19, liftF (.pair (.arr 4 (.int .u64)) (.pair (.int .i64) .unit)) (unpack .bool) G19), (21, liftF (.pair (.arr 4 (.int .u64)) (.pair (.int .i64) .unit)) (unpack (.arr 4 (.int .u64))) G21), (23, liftF (.pair (.arr 4 (.int .u64)) (.pair (.int .i64) .unit)) (unpack (.arr 4 (.int .u64))) G23), (32, liftF (.pair (.arr 4 (.int .u64)) (.pair (.arr 4 (.int .u64)) .unit)) (unpack .bool) G32)] ∧ FnsOk Go.Proofs.Tryd.prog fns := ⟨_, rfl, FnsOk.cons cG11 (FnsOk.cons cG13 (FnsOk.cons cG16 (FnsOk.cons cG17 (FnsOk.cons cG18 (FnsOk.cons cG19 (FnsOk.cons cG21 (FnsOk.cons cG23 (FnsOk.cons cG32 (FnsOk.nil _)))))))))⟩
  refine lift_con (E := E_L04_alive fns) (c := bodyOf Tryd.f10) (nt := 54) (rs := [.tmp 0]) (ts := [4]) (EnvC.sub tt_ok et_ok hf (PrsOk.nil _) (ItsOk.nil _) tt_L04_alive_ok et_L04_alive_ok) (PrOk.of mixed_ok) Go.Proofs.Tryd.func10 rfl (by decide) rfl rfl rfl (pureR_one (e := .bool) rfl) ?_
  subst hfns
  intro x r hw hs
  repeat'
    (try (conv => whnf)
     first
       | (with_reducible have hs := letv_out hs)
       | (refine draw_and (by kernel_rfl) ?_)
       | (refine both_mk ?_ ?_)
       | (refine br_bool (fun h => ?_) (fun h => ?_) <;> first | have hs := cT h hs | have hs := cF h hs)
       | (refine bind_elim hs fun v hb hs => ?_; first | refine callK_liftG hG11 rfl hb ?_ | refine callK_liftG hG13 rfl hb ?_ | refine callK_liftG hG16 rfl hb ?_ | refine callK_liftG hG17 rfl hb ?_ | refine callK_liftG hG18 rfl hb ?_ | refine callK_liftG hG19 rfl hb ?_ | refine callK_liftG hG21 rfl hb ?_ | refine callK_liftG hG23 rfl hb ?_ | refine callK_liftG hG32 rfl hb ?_)
       | refine chk_elim hs fun hs => ?_
       | (have hs := letv_out hs)
       | exact fin_some hs rfl
       | (intro b hb; first | have hs := nilq_elim hs b hb | have hs := nilqn_elim hs b hb)
       | (have hs := cT rfl hs)
       | (have hs := cF rfl hs)
       | exact (none_ne hs).elim)
end Go.Proofs.YtejedlpnejjnbaaDoorBV
