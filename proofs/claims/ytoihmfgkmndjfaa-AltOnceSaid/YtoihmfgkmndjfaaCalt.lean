import Derived.Test.YtoihmfgkmndjfaaVcTab
import Derived.Test.YtoihmfgkmndjfaaDalt
namespace Go.Proofs.YtoihmfgkmndjfaaV
open Go.Proofs
set_option linter.unusedVariables false
noncomputable def lf_alt_Begin : List AV → Option AV := liftF (.pair (.int .i64) .unit) (unpR (.pair (.pair (.int .i64) (.pair (.int .i64) (.pair (.int .i64) (.pair (.int .i64) .unit)))) (.pair (.int .i64) .unit))) (fun x => alt_Begin x.1)
def tt_alt_Begin : List (Nat × Ty) := [(3, .int .i64), (27, .int .i64), (93, .pair (.int .i64) (.pair (.int .i64) (.pair (.int .i64) (.pair (.int .i64) .unit))))]
def et_alt_Begin : List (Nat × Nat) := []
theorem tt_alt_Begin_ok : subT tt tt_alt_Begin = true := by kernel_rfl
theorem et_alt_Begin_ok : subE et et_alt_Begin = true := by kernel_rfl
noncomputable def E_alt_Begin (fns : List (Nat × (List AV → Option AV))) : Env := ⟨0, 0, et_alt_Begin, tt_alt_Begin, fns, [], [], [(0, [0, 2]), (1, [0, 2, 9]), (2, [2, 3]), (3, [2, 3])]⟩
set_option maxRecDepth 100000 in
set_option maxHeartbeats 4000000 in
theorem c_alt_Begin : PCon Go.Proofs.Try.prog 49 lf_alt_Begin := by
  obtain ⟨fns, hfns, hf⟩ : ∃ fns, fns = [] ∧ FnsOk Go.Proofs.Try.prog fns := ⟨_, rfl, FnsOk.nil _⟩
  refine lift_con (E := E_alt_Begin fns) (c := bodyOf Try.f49) (nt := 13) (rs := [.cell 2 93, .tmp 3]) (ts := [93, 27]) (EnvC.sub tt_ok et_ok hf (PrsOk.nil _) tt_alt_Begin_ok et_alt_Begin_ok) (PrOk.of mixed_ok) Go.Proofs.Try.func49 rfl (by decide) rfl rfl rfl (pureR_many (e := (.pair (.pair (.int .i64) (.pair (.int .i64) (.pair (.int .i64) (.pair (.int .i64) .unit)))) (.pair (.int .i64) .unit))) rfl) ?_
  subst hfns
  intro x r hw hs
  repeat'
    (try (conv => whnf)
     first
       | (have hs := letv_out hs)
       | (refine br_bool (fun h => ?_) (fun h => ?_) <;> first | have hs := cT h hs | have hs := cF h hs)
       | refine chk_elim hs fun hs => ?_
       | exact fin_some hs rfl
       | (have hs := cT rfl hs)
       | (have hs := cF rfl hs)
       | (refine draw_and (by kernel_rfl) ?_))
noncomputable def lf_alt_in : List AV → Option AV := liftF (.pair (.int .i64) (.pair (.int .i64) .unit)) (unpack .bool) (fun x => alt_in x.1 x.2.1)
def tt_alt_in : List (Nat × Ty) := [(3, .int .i64), (4, .bool)]
def et_alt_in : List (Nat × Nat) := []
theorem tt_alt_in_ok : subT tt tt_alt_in = true := by kernel_rfl
theorem et_alt_in_ok : subE et et_alt_in = true := by kernel_rfl
noncomputable def E_alt_in (fns : List (Nat × (List AV → Option AV))) : Env := ⟨0, 0, et_alt_in, tt_alt_in, fns, [], [], [(0, [0, 1]), (1, [4])]⟩
set_option maxRecDepth 100000 in
set_option maxHeartbeats 4000000 in
theorem c_alt_in : PCon Go.Proofs.Try.prog 78 lf_alt_in := by
  obtain ⟨fns, hfns, hf⟩ : ∃ fns, fns = [] ∧ FnsOk Go.Proofs.Try.prog fns := ⟨_, rfl, FnsOk.nil _⟩
  refine lift_con (E := E_alt_in fns) (c := bodyOf Try.f78) (nt := 12) (rs := [.tmp 4]) (ts := [4]) (EnvC.sub tt_ok et_ok hf (PrsOk.nil _) tt_alt_in_ok et_alt_in_ok) (PrOk.of mixed_ok) Go.Proofs.Try.func78 rfl (by decide) rfl rfl rfl (pureR_one (e := .bool) rfl) ?_
  subst hfns
  intro x r hw hs
  repeat'
    (try (conv => whnf)
     first
       | (have hs := letv_out hs)
       | (refine br_bool (fun h => ?_) (fun h => ?_) <;> first | have hs := cT h hs | have hs := cF h hs)
       | refine chk_elim hs fun hs => ?_
       | exact fin_some hs rfl
       | (have hs := cT rfl hs)
       | (have hs := cF rfl hs)
       | (refine draw_and (by kernel_rfl) ?_))
noncomputable def lf_alt_Fine : List AV → Option AV := liftF (.pair (.pair (.int .i64) (.pair (.int .i64) (.pair (.int .i64) (.pair (.int .i64) .unit)))) .unit) (unpack .bool) (fun x => alt_Fine x.1)
def tt_alt_Fine : List (Nat × Ty) := [(3, .int .i64), (4, .bool), (93, .pair (.int .i64) (.pair (.int .i64) (.pair (.int .i64) (.pair (.int .i64) .unit))))]
def et_alt_Fine : List (Nat × Nat) := []
theorem tt_alt_Fine_ok : subT tt tt_alt_Fine = true := by kernel_rfl
theorem et_alt_Fine_ok : subE et et_alt_Fine = true := by kernel_rfl
noncomputable def E_alt_Fine (fns : List (Nat × (List AV → Option AV))) : Env := ⟨0, 0, et_alt_Fine, tt_alt_Fine, fns, [], [], [(0, [1]), (1, [1, 5]), (2, [2]), (3, [1, 13]), (4, [2]), (5, [1, 15]), (6, [1, 15, 16]), (7, [2]), (8, [1, 15, 28]), (9, [2]), (10, [1, 40]), (11, [2]), (12, [2])]⟩
set_option maxRecDepth 100000 in
set_option maxHeartbeats 4000000 in
theorem c_alt_Fine : PCon Go.Proofs.Try.prog 52 lf_alt_Fine := by
  obtain ⟨G78, hG78, cG78⟩ : ∃ G : ((.pair (.int .i64) (.pair (.int .i64) .unit)) : Ty).den → Option Bool, (∀ x, G x = alt_in x.1 x.2.1) ∧ PCon Go.Proofs.Try.prog 78 (liftF (.pair (.int .i64) (.pair (.int .i64) .unit)) (unpack .bool) G) := ⟨_, fun _ => rfl, c_alt_in⟩
  obtain ⟨fns, hfns, hf⟩ : ∃ fns, fns = [(78, liftF (.pair (.int .i64) (.pair (.int .i64) .unit)) (unpack .bool) G78)] ∧ FnsOk Go.Proofs.Try.prog fns := ⟨_, rfl, FnsOk.cons cG78 (FnsOk.nil _)⟩
  refine lift_con (E := E_alt_Fine fns) (c := bodyOf Try.f52) (nt := 55) (rs := [.tmp 2]) (ts := [4]) (EnvC.sub tt_ok et_ok hf (PrsOk.nil _) tt_alt_Fine_ok et_alt_Fine_ok) (PrOk.of mixed_ok) Go.Proofs.Try.func52 rfl (by decide) rfl rfl rfl (pureR_one (e := .bool) rfl) ?_
  subst hfns
  intro x r hw hs
  repeat'
    (try (conv => whnf)
     first
       | (have hs := letv_out hs)
       | (refine br_bool (fun h => ?_) (fun h => ?_) <;> first | have hs := cT h hs | have hs := cF h hs)
       | (refine bind_elim hs fun v hb hs => ?_; first | refine callK_lift rfl ((hG78 _).trans hb) ?_)
       | refine chk_elim hs fun hs => ?_
       | exact fin_some hs rfl
       | (have hs := cT rfl hs)
       | (have hs := cF rfl hs)
       | (refine draw_and (by kernel_rfl) ?_))
noncomputable def lf_alt_Left : List AV → Option AV := liftF (.pair (.pair (.int .i64) (.pair (.int .i64) (.pair (.int .i64) (.pair (.int .i64) .unit)))) .unit) (unpack (.int .i64)) (fun x => alt_Left x.1)
def tt_alt_Left : List (Nat × Ty) := [(3, .int .i64), (4, .bool), (93, .pair (.int .i64) (.pair (.int .i64) (.pair (.int .i64) (.pair (.int .i64) .unit))))]
def et_alt_Left : List (Nat × Nat) := []
theorem tt_alt_Left_ok : subT tt tt_alt_Left = true := by kernel_rfl
theorem et_alt_Left_ok : subE et et_alt_Left = true := by kernel_rfl
noncomputable def E_alt_Left (fns : List (Nat × (List AV → Option AV))) : Env := ⟨0, 0, et_alt_Left, tt_alt_Left, fns, [], [], [(0, [1]), (1, [1, 3]), (2, [2]), (3, [1, 7]), (4, [2]), (5, [1, 16]), (6, [2]), (7, [2])]⟩
set_option maxRecDepth 100000 in
set_option maxHeartbeats 4000000 in
theorem c_alt_Left : PCon Go.Proofs.Try.prog 50 lf_alt_Left := by
  obtain ⟨G52, hG52, cG52⟩ : ∃ G : ((.pair (.pair (.int .i64) (.pair (.int .i64) (.pair (.int .i64) (.pair (.int .i64) .unit)))) .unit) : Ty).den → Option Bool, (∀ x, G x = alt_Fine x.1) ∧ PCon Go.Proofs.Try.prog 52 (liftF (.pair (.pair (.int .i64) (.pair (.int .i64) (.pair (.int .i64) (.pair (.int .i64) .unit)))) .unit) (unpack .bool) G) := ⟨_, fun _ => rfl, c_alt_Fine⟩
  obtain ⟨fns, hfns, hf⟩ : ∃ fns, fns = [(52, liftF (.pair (.pair (.int .i64) (.pair (.int .i64) (.pair (.int .i64) (.pair (.int .i64) .unit)))) .unit) (unpack .bool) G52)] ∧ FnsOk Go.Proofs.Try.prog fns := ⟨_, rfl, FnsOk.cons cG52 (FnsOk.nil _)⟩
  refine lift_con (E := E_alt_Left fns) (c := bodyOf Try.f50) (nt := 26) (rs := [.tmp 2]) (ts := [3]) (EnvC.sub tt_ok et_ok hf (PrsOk.nil _) tt_alt_Left_ok et_alt_Left_ok) (PrOk.of mixed_ok) Go.Proofs.Try.func50 rfl (by decide) rfl rfl rfl (pureR_one (e := (.int .i64)) rfl) ?_
  subst hfns
  intro x r hw hs
  repeat'
    (try (conv => whnf)
     first
       | (have hs := letv_out hs)
       | (refine br_bool (fun h => ?_) (fun h => ?_) <;> first | have hs := cT h hs | have hs := cF h hs)
       | (refine bind_elim hs fun v hb hs => ?_; first | refine callK_lift rfl ((hG52 _).trans hb) ?_)
       | refine chk_elim hs fun hs => ?_
       | exact fin_some hs rfl
       | (have hs := cT rfl hs)
       | (have hs := cF rfl hs)
       | (refine draw_and (by kernel_rfl) ?_))
noncomputable def lf_alt_asked : List AV → Option AV := liftF (.pair (.pair (.int .i64) (.pair (.int .i64) (.pair (.int .i64) (.pair (.int .i64) .unit)))) (.pair (.int .i64) .unit)) (unpack (.int .i64)) (fun x => alt_asked x.1 x.2.1)
def tt_alt_asked : List (Nat × Ty) := [(3, .int .i64), (4, .bool), (27, .int .i64), (93, .pair (.int .i64) (.pair (.int .i64) (.pair (.int .i64) (.pair (.int .i64) .unit))))]
def et_alt_asked : List (Nat × Nat) := []
theorem tt_alt_asked_ok : subT tt tt_alt_asked = true := by kernel_rfl
theorem et_alt_asked_ok : subE et et_alt_asked = true := by kernel_rfl
noncomputable def E_alt_asked (fns : List (Nat × (List AV → Option AV))) : Env := ⟨0, 0, et_alt_asked, tt_alt_asked, fns, [], [], [(0, [1, 2]), (1, [1, 2, 5]), (2, [4]), (3, [9]), (4, [4]), (5, [4])]⟩
set_option maxRecDepth 100000 in
set_option maxHeartbeats 4000000 in
theorem c_alt_asked : PCon Go.Proofs.Try.prog 77 lf_alt_asked := by
  obtain ⟨G52, hG52, cG52⟩ : ∃ G : ((.pair (.pair (.int .i64) (.pair (.int .i64) (.pair (.int .i64) (.pair (.int .i64) .unit)))) .unit) : Ty).den → Option Bool, (∀ x, G x = alt_Fine x.1) ∧ PCon Go.Proofs.Try.prog 52 (liftF (.pair (.pair (.int .i64) (.pair (.int .i64) (.pair (.int .i64) (.pair (.int .i64) .unit)))) .unit) (unpack .bool) G) := ⟨_, fun _ => rfl, c_alt_Fine⟩
  obtain ⟨fns, hfns, hf⟩ : ∃ fns, fns = [(52, liftF (.pair (.pair (.int .i64) (.pair (.int .i64) (.pair (.int .i64) (.pair (.int .i64) .unit)))) .unit) (unpack .bool) G52)] ∧ FnsOk Go.Proofs.Try.prog fns := ⟨_, rfl, FnsOk.cons cG52 (FnsOk.nil _)⟩
  refine lift_con (E := E_alt_asked fns) (c := bodyOf Try.f77) (nt := 14) (rs := [.tmp 4]) (ts := [27]) (EnvC.sub tt_ok et_ok hf (PrsOk.nil _) tt_alt_asked_ok et_alt_asked_ok) (PrOk.of mixed_ok) Go.Proofs.Try.func77 rfl (by decide) rfl rfl rfl (pureR_one (e := (.int .i64)) rfl) ?_
  subst hfns
  intro x r hw hs
  repeat'
    (try (conv => whnf)
     first
       | (have hs := letv_out hs)
       | (refine br_bool (fun h => ?_) (fun h => ?_) <;> first | have hs := cT h hs | have hs := cF h hs)
       | (refine bind_elim hs fun v hb hs => ?_; first | refine callK_lift rfl ((hG52 _).trans hb) ?_)
       | refine chk_elim hs fun hs => ?_
       | exact fin_some hs rfl
       | (have hs := cT rfl hs)
       | (have hs := cF rfl hs)
       | (refine draw_and (by kernel_rfl) ?_))
noncomputable def lf_alt_Put : List AV → Option AV := liftF (.pair (.pair (.int .i64) (.pair (.int .i64) (.pair (.int .i64) (.pair (.int .i64) .unit)))) .unit) (unpR (.pair (.pair (.int .i64) (.pair (.int .i64) (.pair (.int .i64) (.pair (.int .i64) .unit)))) (.pair (.int .i64) (.pair (.int .i64) .unit)))) (fun x => alt_Put x.1)
def tt_alt_Put : List (Nat × Ty) := [(3, .int .i64), (27, .int .i64), (93, .pair (.int .i64) (.pair (.int .i64) (.pair (.int .i64) (.pair (.int .i64) .unit))))]
def et_alt_Put : List (Nat × Nat) := []
theorem tt_alt_Put_ok : subT tt tt_alt_Put = true := by kernel_rfl
theorem et_alt_Put_ok : subE et et_alt_Put = true := by kernel_rfl
noncomputable def E_alt_Put (fns : List (Nat × (List AV → Option AV))) : Env := ⟨0, 0, et_alt_Put, tt_alt_Put, fns, [], [], [(0, [1, 2]), (1, [1, 2, 5]), (2, [1, 2, 5, 10]), (3, [2, 3, 4]), (4, [1, 2, 6]), (5, [1, 2, 6]), (6, [1, 2, 6, 23]), (7, [1, 2, 6]), (8, [2, 3, 4])]⟩
set_option maxRecDepth 100000 in
set_option maxHeartbeats 4000000 in
theorem c_alt_Put : PCon Go.Proofs.Try.prog 51 lf_alt_Put := by
  obtain ⟨G77, hG77, cG77⟩ : ∃ G : ((.pair (.pair (.int .i64) (.pair (.int .i64) (.pair (.int .i64) (.pair (.int .i64) .unit)))) (.pair (.int .i64) .unit)) : Ty).den → Option Int, (∀ x, G x = alt_asked x.1 x.2.1) ∧ PCon Go.Proofs.Try.prog 77 (liftF (.pair (.pair (.int .i64) (.pair (.int .i64) (.pair (.int .i64) (.pair (.int .i64) .unit)))) (.pair (.int .i64) .unit)) (unpack (.int .i64)) G) := ⟨_, fun _ => rfl, c_alt_asked⟩
  obtain ⟨fns, hfns, hf⟩ : ∃ fns, fns = [(77, liftF (.pair (.pair (.int .i64) (.pair (.int .i64) (.pair (.int .i64) (.pair (.int .i64) .unit)))) (.pair (.int .i64) .unit)) (unpack (.int .i64)) G77)] ∧ FnsOk Go.Proofs.Try.prog fns := ⟨_, rfl, FnsOk.cons cG77 (FnsOk.nil _)⟩
  refine lift_con (E := E_alt_Put fns) (c := bodyOf Try.f51) (nt := 27) (rs := [.cell 2 93, .tmp 3, .tmp 4]) (ts := [93, 3, 27]) (EnvC.sub tt_ok et_ok hf (PrsOk.nil _) tt_alt_Put_ok et_alt_Put_ok) (PrOk.of mixed_ok) Go.Proofs.Try.func51 rfl (by decide) rfl rfl rfl (pureR_many (e := (.pair (.pair (.int .i64) (.pair (.int .i64) (.pair (.int .i64) (.pair (.int .i64) .unit)))) (.pair (.int .i64) (.pair (.int .i64) .unit)))) rfl) ?_
  subst hfns
  intro x r hw hs
  repeat'
    (try (conv => whnf)
     first
       | (have hs := letv_out hs)
       | (refine br_bool (fun h => ?_) (fun h => ?_) <;> first | have hs := cT h hs | have hs := cF h hs)
       | (refine bind_elim hs fun v hb hs => ?_; first | refine callK_lift rfl ((hG77 _).trans hb) ?_)
       | refine chk_elim hs fun hs => ?_
       | exact fin_some hs rfl
       | (have hs := cT rfl hs)
       | (have hs := cF rfl hs)
       | (refine draw_and (by kernel_rfl) ?_))
noncomputable def lf_alt_Take : List AV → Option AV := liftF (.pair (.pair (.int .i64) (.pair (.int .i64) (.pair (.int .i64) (.pair (.int .i64) .unit)))) (.pair (.int .i64) .unit)) (unpR (.pair (.pair (.int .i64) (.pair (.int .i64) (.pair (.int .i64) (.pair (.int .i64) .unit)))) (.pair (.int .i64) .unit))) (fun x => alt_Take x.1 x.2.1)
def tt_alt_Take : List (Nat × Ty) := [(3, .int .i64), (4, .bool), (27, .int .i64), (93, .pair (.int .i64) (.pair (.int .i64) (.pair (.int .i64) (.pair (.int .i64) .unit))))]
def et_alt_Take : List (Nat × Nat) := []
theorem tt_alt_Take_ok : subT tt tt_alt_Take = true := by kernel_rfl
theorem et_alt_Take_ok : subE et et_alt_Take = true := by kernel_rfl
noncomputable def E_alt_Take (fns : List (Nat × (List AV → Option AV))) : Env := ⟨0, 0, et_alt_Take, tt_alt_Take, fns, [], [], [(0, [1, 2, 4]), (1, [1, 2, 4, 6]), (2, [1, 2, 4, 6, 9]), (3, [4, 5]), (4, [1, 2, 4, 14]), (5, [4, 5]), (6, [1, 2, 4, 21]), (7, [4, 5]), (8, [4, 5])]⟩
set_option maxRecDepth 100000 in
set_option maxHeartbeats 4000000 in
theorem c_alt_Take : PCon Go.Proofs.Try.prog 53 lf_alt_Take := by
  obtain ⟨G77, hG77, cG77⟩ : ∃ G : ((.pair (.pair (.int .i64) (.pair (.int .i64) (.pair (.int .i64) (.pair (.int .i64) .unit)))) (.pair (.int .i64) .unit)) : Ty).den → Option Int, (∀ x, G x = alt_asked x.1 x.2.1) ∧ PCon Go.Proofs.Try.prog 77 (liftF (.pair (.pair (.int .i64) (.pair (.int .i64) (.pair (.int .i64) (.pair (.int .i64) .unit)))) (.pair (.int .i64) .unit)) (unpack (.int .i64)) G) := ⟨_, fun _ => rfl, c_alt_asked⟩
  obtain ⟨G78, hG78, cG78⟩ : ∃ G : ((.pair (.int .i64) (.pair (.int .i64) .unit)) : Ty).den → Option Bool, (∀ x, G x = alt_in x.1 x.2.1) ∧ PCon Go.Proofs.Try.prog 78 (liftF (.pair (.int .i64) (.pair (.int .i64) .unit)) (unpack .bool) G) := ⟨_, fun _ => rfl, c_alt_in⟩
  obtain ⟨fns, hfns, hf⟩ : ∃ fns, fns = [(77, liftF (.pair (.pair (.int .i64) (.pair (.int .i64) (.pair (.int .i64) (.pair (.int .i64) .unit)))) (.pair (.int .i64) .unit)) (unpack (.int .i64)) G77), (78, liftF (.pair (.int .i64) (.pair (.int .i64) .unit)) (unpack .bool) G78)] ∧ FnsOk Go.Proofs.Try.prog fns := ⟨_, rfl, FnsOk.cons cG77 (FnsOk.cons cG78 (FnsOk.nil _))⟩
  refine lift_con (E := E_alt_Take fns) (c := bodyOf Try.f53) (nt := 30) (rs := [.cell 4 93, .tmp 5]) (ts := [93, 27]) (EnvC.sub tt_ok et_ok hf (PrsOk.nil _) tt_alt_Take_ok et_alt_Take_ok) (PrOk.of mixed_ok) Go.Proofs.Try.func53 rfl (by decide) rfl rfl rfl (pureR_many (e := (.pair (.pair (.int .i64) (.pair (.int .i64) (.pair (.int .i64) (.pair (.int .i64) .unit)))) (.pair (.int .i64) .unit))) rfl) ?_
  subst hfns
  intro x r hw hs
  repeat'
    (try (conv => whnf)
     first
       | (have hs := letv_out hs)
       | (refine br_bool (fun h => ?_) (fun h => ?_) <;> first | have hs := cT h hs | have hs := cF h hs)
       | (refine bind_elim hs fun v hb hs => ?_; first | refine callK_lift rfl ((hG77 _).trans hb) ?_ | refine callK_lift rfl ((hG78 _).trans hb) ?_)
       | refine chk_elim hs fun hs => ?_
       | exact fin_some hs rfl
       | (have hs := cT rfl hs)
       | (have hs := cF rfl hs)
       | (refine draw_and (by kernel_rfl) ?_))
noncomputable def lf_alt_Withdraw : List AV → Option AV := liftF (.pair (.pair (.int .i64) (.pair (.int .i64) (.pair (.int .i64) (.pair (.int .i64) .unit)))) .unit) (unpR (.pair (.pair (.int .i64) (.pair (.int .i64) (.pair (.int .i64) (.pair (.int .i64) .unit)))) (.pair (.int .i64) (.pair (.int .i64) .unit)))) (fun x => alt_Withdraw x.1)
def tt_alt_Withdraw : List (Nat × Ty) := [(3, .int .i64), (27, .int .i64), (93, .pair (.int .i64) (.pair (.int .i64) (.pair (.int .i64) (.pair (.int .i64) .unit))))]
def et_alt_Withdraw : List (Nat × Nat) := []
theorem tt_alt_Withdraw_ok : subT tt tt_alt_Withdraw = true := by kernel_rfl
theorem et_alt_Withdraw_ok : subE et et_alt_Withdraw = true := by kernel_rfl
noncomputable def E_alt_Withdraw (fns : List (Nat × (List AV → Option AV))) : Env := ⟨0, 0, et_alt_Withdraw, tt_alt_Withdraw, fns, [], [], [(0, [1, 2]), (1, [1, 2, 5]), (2, [1, 2, 5, 10]), (3, [2, 3, 4]), (4, [1, 2, 6]), (5, [1, 2, 6, 22]), (6, [1, 2, 6]), (7, [1, 2, 6]), (8, [1, 2, 6, 34]), (9, [1, 2, 6]), (10, [2, 3, 4])]⟩
set_option maxRecDepth 100000 in
set_option maxHeartbeats 4000000 in
theorem c_alt_Withdraw : PCon Go.Proofs.Try.prog 54 lf_alt_Withdraw := by
  obtain ⟨G77, hG77, cG77⟩ : ∃ G : ((.pair (.pair (.int .i64) (.pair (.int .i64) (.pair (.int .i64) (.pair (.int .i64) .unit)))) (.pair (.int .i64) .unit)) : Ty).den → Option Int, (∀ x, G x = alt_asked x.1 x.2.1) ∧ PCon Go.Proofs.Try.prog 77 (liftF (.pair (.pair (.int .i64) (.pair (.int .i64) (.pair (.int .i64) (.pair (.int .i64) .unit)))) (.pair (.int .i64) .unit)) (unpack (.int .i64)) G) := ⟨_, fun _ => rfl, c_alt_asked⟩
  obtain ⟨fns, hfns, hf⟩ : ∃ fns, fns = [(77, liftF (.pair (.pair (.int .i64) (.pair (.int .i64) (.pair (.int .i64) (.pair (.int .i64) .unit)))) (.pair (.int .i64) .unit)) (unpack (.int .i64)) G77)] ∧ FnsOk Go.Proofs.Try.prog fns := ⟨_, rfl, FnsOk.cons cG77 (FnsOk.nil _)⟩
  refine lift_con (E := E_alt_Withdraw fns) (c := bodyOf Try.f54) (nt := 38) (rs := [.cell 2 93, .tmp 3, .tmp 4]) (ts := [93, 3, 27]) (EnvC.sub tt_ok et_ok hf (PrsOk.nil _) tt_alt_Withdraw_ok et_alt_Withdraw_ok) (PrOk.of mixed_ok) Go.Proofs.Try.func54 rfl (by decide) rfl rfl rfl (pureR_many (e := (.pair (.pair (.int .i64) (.pair (.int .i64) (.pair (.int .i64) (.pair (.int .i64) .unit)))) (.pair (.int .i64) (.pair (.int .i64) .unit)))) rfl) ?_
  subst hfns
  intro x r hw hs
  repeat'
    (try (conv => whnf)
     first
       | (have hs := letv_out hs)
       | (refine br_bool (fun h => ?_) (fun h => ?_) <;> first | have hs := cT h hs | have hs := cF h hs)
       | (refine bind_elim hs fun v hb hs => ?_; first | refine callK_lift rfl ((hG77 _).trans hb) ?_)
       | refine chk_elim hs fun hs => ?_
       | exact fin_some hs rfl
       | (have hs := cT rfl hs)
       | (have hs := cF rfl hs)
       | (refine draw_and (by kernel_rfl) ?_))
end Go.Proofs.YtoihmfgkmndjfaaV
