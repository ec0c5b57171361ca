/- becket/becketlaw09.OpcodeFinds: for every input the law returns true, and each argument reads behind the call as before. The listed package-level variables hold what the program's text lays. -/
import Derived.Test.YtdddmgbbjifkdaaDoorRows
import Derived.Test.YtdddmgbbjifkdaaDoorVcG2
import Derived.Test.YtdddmgbbjifkdaaDoorCL09
import Derived.Test.YtdddmgbbjifkdaaDoorCR09
import Derived.Test.YtdddmgbbjifkdaaDoorCopcode
import Derived.Test.YtdddmgbbjifkdaaDoorML09
import Derived.Test.YtdddmgbbjifkdaaDoorVcG3
import Derived.Test.YtdddmgbbjifkdaaDoorCards
import Derived.Test.YtdddmgbbjifkdaaDoorTie
import Derived.ProofKit
import Derived.OpenShut
import Derived.LaidMore
import Derived.Lay
import Derived.SevenTiedAt
import Derived.Stop.Joined
namespace Go.Proofs.YtdddmgbbjifkdaaDoorV
open Go.Proofs
set_option linter.unusedVariables false
noncomputable def lf_L09_OpcodeFinds : List AV → Option AV := liftF (.pair .str .unit) (unpack .bool) (fun x => L09_OpcodeFinds x.1)
def tt_L09_OpcodeFinds : List (Nat × Ty) := [(3, .int .i64), (4, .bool), (9, .str)]
def et_L09_OpcodeFinds : List (Nat × Nat) := []
theorem tt_L09_OpcodeFinds_ok : subT tt tt_L09_OpcodeFinds = true := by kernel_rfl
theorem et_L09_OpcodeFinds_ok : subE et et_L09_OpcodeFinds = true := by kernel_rfl
def kp_L09_OpcodeFinds : List (Nat × List Nat) := [(0, [0]), (1, [0, 9]), (2, [2]), (3, [0, 3, 4]), (4, [3, 4, 5, 6]), (5, [2]), (4000000, []), (4000001, []), (4000002, []), (4000003, []), (4000004, []), (4000005, [])]
def od_L09_OpcodeFinds : List (Nat × Ord) := []
noncomputable def E_L09_OpcodeFinds (fns : List (Nat × (List AV → Option AV))) : Env := ⟨0, 0, et_L09_OpcodeFinds, tt_L09_OpcodeFinds, fns, [], od_L09_OpcodeFinds, kp_L09_OpcodeFinds, none, []⟩
set_option maxRecDepth 100000 in
set_option maxHeartbeats 40000000 in
theorem c_L09_OpcodeFinds : PCon Go.Proofs.Tryd.prog 4 lf_L09_OpcodeFinds := by
  obtain ⟨G10, hG10, cG10⟩ : ∃ G : (.unit : Ty).den → Option Bool, (∀ x, G x = L09_alive) ∧ PCon Go.Proofs.Tryd.prog 10 (liftF .unit (unpack .bool) G) := ⟨_, fun _ => rfl, c_L09_alive⟩
  obtain ⟨G11, hG11, cG11⟩ : ∃ G : ((.pair .str .unit) : Ty).den → Option (Int × Bool × Unit), (∀ x, G x = opcode_Find x.1) ∧ PCon Go.Proofs.Tryd.prog 11 (liftF (.pair .str .unit) (unpR (.pair (.int .i64) (.pair .bool .unit))) G) := ⟨_, fun _ => rfl, c_opcode_Find⟩
  obtain ⟨G12, hG12, cG12⟩ : ∃ G : ((.pair .str .unit) : Ty).den → Option (Int × Bool × Unit), (∀ x, G x = R09_Find x.1) ∧ PCon Go.Proofs.Tryd.prog 12 (liftF (.pair .str .unit) (unpR (.pair (.int .i64) (.pair .bool .unit))) G) := ⟨_, fun _ => rfl, c_R09_Find⟩
  obtain ⟨fns, hfns, hf⟩ : ∃ fns, fns = [(10, liftF .unit (unpack .bool) G10), (11, liftF (.pair .str .unit) (unpR (.pair (.int .i64) (.pair .bool .unit))) G11), (12, liftF (.pair .str .unit) (unpR (.pair (.int .i64) (.pair .bool .unit))) G12)] ∧ FnsOk Go.Proofs.Tryd.prog fns := ⟨_, rfl, FnsOk.cons cG10 (FnsOk.cons cG11 (FnsOk.cons cG12 (FnsOk.nil _)))⟩
  refine lift_con (E := E_L09_OpcodeFinds fns) (c := bodyOf Tryd.f4) (nt := 32) (rs := [.tmp 2]) (ts := [4]) (EnvC.sub tt_ok et_ok hf (PrsOk.nil _) (ItsOk.nil _) tt_L09_OpcodeFinds_ok et_L09_OpcodeFinds_ok) (PrOk.of mixed_ok) Go.Proofs.Tryd.func4 rfl (by decide) rfl rfl rfl (pureR_one (e := .bool) rfl) ?_
  subst hfns
  intro x r hw hs
  repeat'
    (try (conv => whnf)
     first
       | (with_reducible have hs := letv_out hs)
       | (refine draw_and (by kernel_rfl) ?_)
       | (refine both_mk ?_ ?_)
       | (refine br_bool (fun h => ?_) (fun h => ?_) <;> first | have hs := cT h hs | have hs := cF h hs)
       | (refine bind_elim hs fun v hb hs => ?_; first | refine callK_liftG hG10 rfl hb ?_ | refine callK_liftG hG11 rfl hb ?_ | refine callK_liftG hG12 rfl hb ?_)
       | refine chk_elim hs fun hs => ?_
       | (have hs := letv_out hs)
       | exact fin_some hs rfl
       | (intro b hb; first | have hs := nilq_elim hs b hb | have hs := nilqn_elim hs b hb)
       | (have hs := cT rfl hs)
       | (have hs := cF rfl hs)
       | exact (none_ne hs).elim)
end Go.Proofs.YtdddmgbbjifkdaaDoorV
namespace Go.Proofs.YtdddmgbbjifkdaaDoor.opcodeFinds
open Go.ChangeShapes Go.WideShapes Go.ChangeAt Go.RowKit Go.Proofs.YtdddmgbbjifkdaaDoorV
set_option linter.unusedVariables false
theorem own : ownKnob Tryd.prog.godebug = none := by kernel_rfl
theorem gl_all : GlAll Tryd.prog Rows.opcodeFindsRow.laid GL := ⟨⟨"becket/opcode.kinds", Rows.laid_becket_opcode_kinds, 37, (.head _), by kernel_rfl, by kernel_rfl, by kernel_rfl, by kernel_rfl, by kernel_rfl⟩, trivial⟩
set_option maxRecDepth 100000 in
theorem lifted (os : Os) (started : os.Started) (H : Type) (enc : TypeId × Value → H) :
    ReturnsInHanded {} Tryd.checked os 4 .any (fun w args => (Rows.opcodeFindsSpec.pre enc Tryd.prog Tryd.f4 Rows.opcodeFindsRow.domain false w args ∧ laidMetH Tryd.prog Rows.opcodeFindsRow.laid w) ∧ sizedMet enc Tryd.prog Tryd.f4 (OpenSpec.ofChange Rows.opcodeFindsSpec) false w args)
      (Rows.opcodeFindsSpec.post enc Tryd.prog Tryd.f4 false true false false) := by
  refine returnsInHanded_of_change_and (C := Tryd.checked) (X := fun w _ => laidMetH Tryd.prog Rows.opcodeFindsRow.laid w) (fun _ _ _ hh h => h.of_heap hh) own started (by kernel_rfl) Tryd.func4
    (ChangeSpec.witness_shaped (enc := enc) (C := Tryd.checked) (os := os) (X := fun w _ => laidMetH Tryd.prog Rows.opcodeFindsRow.laid w) false (World.laidAll Tryd.prog os Rows.opcodeFindsRow.laid) #[.string ⟨#[]⟩] 12 (World.laidAll_os _ _ _)
      (World.shaped_of_ZipB (by kernel_rfl) (by kernel_rfl)) (by kernel_rfl) (by kernel_rfl) (by kernel_rfl)
      (by rw [MakeChecks.laidMetH_plain _ _ _ (by kernel_rfl)]; exact laidMet_laidAll _ (by kernel_rfl) (by kernel_rfl))) ?_
  intro W base args ds gs before hval0 hW hcnd hsz0 hL _
  refine row_of_gl (C := Tryd.checked) (s := Rows.opcodeFindsSpec) (c := bodyOf Tryd.f4) (tr := 4) c_L09_OpcodeFinds Tryd.func4 rfl (by decide) (by kernel_rfl) (by kernel_rfl) (by kernel_rfl) rfl Tryd.underlying4 rfl ?_ law_L09_OpcodeFinds W (gl_door (by kernel_rfl) hL gl_all) base args ds gs before hval0 hW hsz0
  intro ds hl
  match ds, hl with
  | [d1], _ => exact ⟨rfl, rfl, rfl⟩
theorem over : Rows.opcodeFindsRow.holds Tryd.pinned (OpenSpec.ofChange Rows.opcodeFindsSpec) :=
  OpenClaim.holds_of_wide 4 Tryd.f4 rfl rfl rfl rfl rfl rfl rfl ⟨rfl, rfl, rfl, rfl, rfl⟩ rfl rfl rfl rfl rfl (by kernel_rfl) Tryd.func4 (by kernel_rfl)
    (of_decide_eq_true (by kernel_rfl)) (by unfold Func.isWrapper; first | (rw [if_pos (by decide +kernel)]; kernel_rfl) | (rw [if_neg (by decide +kernel)]; exact ⟨rfl, rfl⟩))
    (fun os started H enc _ => lifted os started H enc)
theorem card : Rows.OpcodeFindsCardSaid :=
  Claim7.holds_tied_plain_at .later [] [.data] true (true, "3be0d0e9aed72d26eb42261fde3b4d23621c4b5d4697c1909e82c8db419e8610") false over (fun _ h => by cases h) (by kernel_rfl) (fun _ h => by cases h) opcodeFinds_row_tie rfl ⟨rfl, rfl⟩ (by kernel_rfl) rfl
    (fun f fn hf hfn => by
      obtain rfl : f = 4 := Option.some.inj ((show Tryd.prog.funcNamed "becket/becketlaw09.OpcodeFinds" = some 4 by kernel_rfl).symm.trans hf) |>.symm
      obtain rfl : fn = Tryd.f4 := (Option.some.inj (Tryd.func4.symm.trans hfn)).symm
      exact ⟨by kernel_rfl, fun j t ht => by
        rw [Tryd.params4] at ht
        have hm : t ∈ [9] := by simpa using Array.mem_of_getElem? ht
        have hall : ([9].all fun u => !Tryd.prog.wantsStandIn u) = true := by kernel_rfl
        exact (show Tryd.prog.wantsStandIn t = false by simpa using List.all_eq_true.1 hall t hm)⟩)
    (by kernel_rfl)
end Go.Proofs.YtdddmgbbjifkdaaDoor.opcodeFinds
namespace Go.Proofs.YtdddmgbbjifkdaaDoor
/-- The card, under a short name, for the claim. -/
theorem opcodeFinds_holds : Rows.OpcodeFindsCardSaid := opcodeFinds.card
end Go.Proofs.YtdddmgbbjifkdaaDoor
