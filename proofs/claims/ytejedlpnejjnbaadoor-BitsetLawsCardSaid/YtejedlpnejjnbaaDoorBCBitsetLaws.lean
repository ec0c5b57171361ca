/- What becket/becketlaw04.BitsetLaws answers. -/
import Derived.Test.YtejedlpnejjnbaaDoorBVcTab
import Derived.Test.YtejedlpnejjnbaaDoorBDBitsetLaws
import Derived.Test.YtejedlpnejjnbaaDoorBCL04
import Derived.Test.YtejedlpnejjnbaaDoorBCbitset
namespace Go.Proofs.YtejedlpnejjnbaaDoorBV
open Go.Proofs
set_option linter.unusedVariables false
noncomputable def lf_L04_BitsetLaws : List AV → Option AV := liftF (.pair (.arr 4 (.int .u64)) (.pair (.arr 4 (.int .u64)) (.pair (.arr 4 (.int .u64)) .unit))) (unpack .bool) (fun x => L04_BitsetLaws x.1 x.2.1 x.2.2.1)
def tt_L04_BitsetLaws : List (Nat × Ty) := [(3, .int .i64), (4, .bool), (25, .arr 4 (.int .u64)), (26, .arr 4 (.int .u64))]
def et_L04_BitsetLaws : List (Nat × Nat) := []
theorem tt_L04_BitsetLaws_ok : subT tt tt_L04_BitsetLaws = true := by kernel_rfl
theorem et_L04_BitsetLaws_ok : subE et et_L04_BitsetLaws = true := by kernel_rfl
def kp_L04_BitsetLaws : List (Nat × List Nat) := [(0, [3, 4, 5]), (1, [7, 8, 9]), (2, [7, 8, 45]), (3, [6]), (4, [7, 8, 10, 11]), (5, [6]), (2000001, []), (3000001, [7, 8, 9]), (4000000, [3, 4, 5]), (4000001, [7, 8, 9]), (4000002, [7, 8]), (4000003, []), (4000004, [7, 8, 10, 11]), (4000005, [])]
def od_L04_BitsetLaws : List (Nat × Ord) := [(1, (.one 0 (.one 1 (.one 2 (.alt (.cons 3 (.alt (.cons 4 (.alt (.cons 5 (.alt (.cons 6 (.alt (.cons 7 (.alt (.cons 8 .nil .nil)) .nil)) .nil)) .nil)) (.cons 5 (.alt (.cons 4 (.alt (.cons 6 (.alt (.cons 7 (.alt (.cons 8 .nil .nil)) .nil)) .nil)) .nil)) .nil))) (.cons 4 (.alt (.cons 3 (.alt (.cons 5 (.alt (.cons 6 (.alt (.cons 7 (.alt (.cons 8 .nil .nil)) .nil)) .nil)) .nil)) (.cons 5 (.alt (.cons 3 (.alt (.cons 6 (.alt (.cons 7 (.alt (.cons 8 .nil .nil)) .nil)) .nil)) .nil)) .nil))) (.cons 5 (.alt (.cons 3 (.alt (.cons 4 (.alt (.cons 6 (.alt (.cons 7 (.alt (.cons 8 .nil .nil)) .nil)) .nil)) .nil)) (.cons 4 (.alt (.cons 3 (.alt (.cons 6 (.alt (.cons 7 (.alt (.cons 8 .nil .nil)) .nil)) .nil)) .nil)) .nil))) .nil)))))))), (2, (.one 0 (.one 1 (.one 3 (.one 4 (.one 2 (.one 100005 (.one 6 (.one 7 (.one 8 (.one 9 (.one 11 (.one 12 (.one 10 (.one 100013 (.one 14 (.one 15 (.one 16 (.one 17 (.one 18 (.one 19 (.one 22 (.one 23 (.one 25 (.one 26 (.one 20 (.one 21 (.one 24 (.one 100027 (.one 100028 (.one 29 (.one 30 .nil)))))))))))))))))))))))))))))))), (4, (.one 0 (.one 1 (.one 3 (.one 4 (.alt (.cons 2 (.alt (.cons 5 (.alt (.cons 6 (.one 7 (.one 100008 (.one 100009 .nil))) (.cons 7 (.one 6 (.one 100008 (.one 100009 .nil))) .nil))) (.cons 6 (.alt (.cons 5 (.one 7 (.one 100008 (.one 100009 .nil))) (.cons 7 (.one 5 (.one 100008 (.one 100009 .nil))) .nil))) (.cons 7 (.alt (.cons 5 (.one 6 (.one 100008 (.one 100009 .nil))) (.cons 6 (.one 5 (.one 100008 (.one 100009 .nil))) .nil))) .nil)))) (.cons 6 (.alt (.cons 2 (.alt (.cons 5 (.one 7 (.one 100008 (.one 100009 .nil))) (.cons 7 (.one 5 (.one 100008 (.one 100009 .nil))) .nil))) (.cons 7 (.one 2 (.one 5 (.one 100008 (.one 100009 .nil)))) .nil))) (.cons 7 (.alt (.cons 2 (.alt (.cons 5 (.one 6 (.one 100008 (.one 100009 .nil))) (.cons 6 (.one 5 (.one 100008 (.one 100009 .nil))) .nil))) (.cons 6 (.one 2 (.one 5 (.one 100008 (.one 100009 .nil)))) .nil))) .nil))))))))), (5, (.one 0 (.one 1 (.one 3 (.one 2 (.one 4 (.one 5 (.one 6 (.one 8 (.one 11 (.one 7 (.one 9 (.one 10 (.one 12 (.one 13 (.one 14 (.one 15 (.one 16 (.one 17 (.one 100018 (.one 19 (.one 20 (.one 21 (.one 22 (.one 24 (.one 23 (.one 25 (.one 26 (.one 27 (.one 100028 (.one 29 (.one 30 .nil))))))))))))))))))))))))))))))))]
noncomputable def E_L04_BitsetLaws (fns : List (Nat × (List AV → Option AV))) : Env := ⟨0, 0, et_L04_BitsetLaws, tt_L04_BitsetLaws, fns, [], od_L04_BitsetLaws, kp_L04_BitsetLaws, none, []⟩
set_option maxRecDepth 100000 in
set_option maxHeartbeats 40000000 in
theorem c_L04_BitsetLaws : PCon Go.Proofs.Tryd.prog 6 lf_L04_BitsetLaws := by
  obtain ⟨G10, hG10, cG10⟩ : ∃ G : (.unit : Ty).den → Option Bool, (∀ x, G x = L04_alive) ∧ PCon Go.Proofs.Tryd.prog 10 (liftF .unit (unpack .bool) G) := ⟨_, fun _ => rfl, c_L04_alive⟩
  obtain ⟨G18, hG18, cG18⟩ : ∃ G : ((.pair (.arr 4 (.int .u64)) .unit) : Ty).den → Option Int, (∀ x, G x = bitset_Len x.1) ∧ PCon Go.Proofs.Tryd.prog 18 (liftF (.pair (.arr 4 (.int .u64)) .unit) (unpack (.int .i64)) G) := ⟨_, fun _ => rfl, c_bitset_Len⟩
  obtain ⟨G26, hG26, cG26⟩ : ∃ G : ((.pair (.arr 4 (.int .u64)) (.pair (.arr 4 (.int .u64)) .unit)) : Ty).den → Option (List Int), (∀ x, G x = bitset_Union x.1 x.2.1) ∧ PCon Go.Proofs.Tryd.prog 26 (liftF (.pair (.arr 4 (.int .u64)) (.pair (.arr 4 (.int .u64)) .unit)) (unpack (.arr 4 (.int .u64))) G) := ⟨_, fun _ => rfl, c_bitset_Union⟩
  obtain ⟨G28, hG28, cG28⟩ : ∃ G : ((.pair (.arr 4 (.int .u64)) (.pair (.arr 4 (.int .u64)) .unit)) : Ty).den → Option (List Int), (∀ x, G x = bitset_Inter x.1 x.2.1) ∧ PCon Go.Proofs.Tryd.prog 28 (liftF (.pair (.arr 4 (.int .u64)) (.pair (.arr 4 (.int .u64)) .unit)) (unpack (.arr 4 (.int .u64))) G) := ⟨_, fun _ => rfl, c_bitset_Inter⟩
  obtain ⟨G30, hG30, cG30⟩ : ∃ G : ((.pair (.arr 4 (.int .u64)) (.pair (.arr 4 (.int .u64)) .unit)) : Ty).den → Option (List Int), (∀ x, G x = bitset_Less x.1 x.2.1) ∧ PCon Go.Proofs.Tryd.prog 30 (liftF (.pair (.arr 4 (.int .u64)) (.pair (.arr 4 (.int .u64)) .unit)) (unpack (.arr 4 (.int .u64))) G) := ⟨_, fun _ => rfl, c_bitset_Less⟩
  obtain ⟨G32, hG32, cG32⟩ : ∃ G : ((.pair (.arr 4 (.int .u64)) (.pair (.arr 4 (.int .u64)) .unit)) : Ty).den → Option Bool, (∀ x, G x = bitset_Sub x.1 x.2.1) ∧ PCon Go.Proofs.Tryd.prog 32 (liftF (.pair (.arr 4 (.int .u64)) (.pair (.arr 4 (.int .u64)) .unit)) (unpack .bool) G) := ⟨_, fun _ => rfl, c_bitset_Sub⟩
  obtain ⟨fns, hfns, hf⟩ : ∃ fns, fns = [(10, liftF .unit (unpack .bool) G10), (18, liftF (.pair (.arr 4 (.int .u64)) .unit) (unpack (.int .i64)) G18), (26, liftF (.pair (.arr 4 (.int .u64)) (.pair (.arr 4 (.int .u64)) .unit)) (unpack (.arr 4 (.int .u64))) G26), (28, liftF (.pair (.arr 4 (.int .u64)) (.pair (.arr 4 (.int .u64)) .unit)) (unpack (.arr 4 (.int .u64))) G28), (30, liftF (.pair (.arr 4 (.int .u64)) (.pair (.arr 4 (.int .u64)) .unit)) (unpack (.arr 4 (.int .u64))) G30), (32, liftF (.pair (.arr 4 (.int .u64)) (.pair (.arr 4 (.int .u64)) .unit)) (unpack .bool) G32)] ∧ FnsOk Go.Proofs.Tryd.prog fns := ⟨_, rfl, FnsOk.cons cG10 (FnsOk.cons cG18 (FnsOk.cons cG26 (FnsOk.cons cG28 (FnsOk.cons cG30 (FnsOk.cons cG32 (FnsOk.nil _))))))⟩
  refine lift_con (E := E_L04_BitsetLaws fns) (c := bodyOf Tryd.f6) (nt := 82) (rs := [.tmp 6]) (ts := [4]) (EnvC.sub tt_ok et_ok hf (PrsOk.nil _) (ItsOk.nil _) tt_L04_BitsetLaws_ok et_L04_BitsetLaws_ok) (PrOk.of mixed_ok) Go.Proofs.Tryd.func6 rfl (by decide) rfl rfl rfl (pureR_one (e := .bool) rfl) ?_
  subst hfns
  intro x r hw hs
  repeat'
    (try (conv => whnf)
     first
       | (with_reducible have hs := letv_out hs)
       | (refine draw_and (by kernel_rfl) ?_)
       | (refine both_mk ?_ ?_)
       | (refine br_bool (fun h => ?_) (fun h => ?_) <;> first | have hs := cT h hs | have hs := cF h hs)
       | (refine bind_elim hs fun v hb hs => ?_; first | refine callK_liftG hG10 rfl hb ?_ | refine callK_liftG hG18 rfl hb ?_ | refine callK_liftG hG26 rfl hb ?_ | refine callK_liftG hG28 rfl hb ?_ | refine callK_liftG hG30 rfl hb ?_ | refine callK_liftG hG32 rfl hb ?_)
       | refine chk_elim hs fun hs => ?_
       | (have hs := letv_out hs)
       | exact fin_some hs rfl
       | (intro b hb; first | have hs := nilq_elim hs b hb | have hs := nilqn_elim hs b hb)
       | (have hs := cT rfl hs)
       | (have hs := cF rfl hs)
       | exact (none_ne hs).elim)
end Go.Proofs.YtejedlpnejjnbaaDoorBV
