/- becket/becketlaw22.BarrierEnds: for every input the law returns true, and each argument reads behind the call as before. The listed package-level variables hold what the program's text lays. -/
import Derived.Test.YtkpobmmabmelfaaDoorRows
import Derived.Test.YtkpobmmabmelfaaDoorVcG2
import Derived.Test.YtkpobmmabmelfaaDoorCL22
import Derived.Test.YtkpobmmabmelfaaDoorCBarrierEnds
import Derived.Test.YtkpobmmabmelfaaDoorMMBarrierEnds
import Derived.Test.YtkpobmmabmelfaaDoorVcG3
import Derived.Test.YtkpobmmabmelfaaDoorCards
import Derived.Test.YtkpobmmabmelfaaDoorTie
import Derived.ProofKit
import Derived.OpenShut
import Derived.LaidMore
import Derived.Lay
import Derived.SevenTiedAt
import Derived.Stop.Joined
namespace Go.Proofs.YtkpobmmabmelfaaDoor.barrierEnds
open Go.ChangeShapes Go.WideShapes Go.ChangeAt Go.RowKit Go.Proofs.YtkpobmmabmelfaaDoorV
set_option linter.unusedVariables false
theorem own : ownKnob Tryd.prog.godebug = none := by kernel_rfl
theorem gl_all : GlAll Tryd.prog Rows.barrierEndsRow.laid GL := ⟨⟨"math/bits.deBruijn64tab", Rows.laid_math_bits_deBruijn64tab, 152, (.head _), by kernel_rfl, by kernel_rfl, by kernel_rfl, by kernel_rfl, by kernel_rfl⟩, ⟨⟨"becket/roll.everybody", Rows.laid_becket_roll_everybody, 34, (.tail _ (.head _)), by kernel_rfl, by kernel_rfl, by kernel_rfl, by kernel_rfl, by kernel_rfl⟩, trivial⟩⟩
set_option maxRecDepth 100000 in
theorem lifted (os : Os) (started : os.Started) (H : Type) (enc : TypeId × Value → H) :
    ReturnsInHanded {} Tryd.checked os 5 .any (fun w args => (Rows.barrierEndsSpec.pre enc Tryd.prog Tryd.f5 Rows.barrierEndsRow.domain false w args ∧ laidMetH Tryd.prog Rows.barrierEndsRow.laid w) ∧ sizedMet enc Tryd.prog Tryd.f5 (OpenSpec.ofChange Rows.barrierEndsSpec) false w args)
      (Rows.barrierEndsSpec.post enc Tryd.prog Tryd.f5 false true false false) := by
  refine returnsInHanded_of_change_and (C := Tryd.checked) (X := fun w _ => laidMetH Tryd.prog Rows.barrierEndsRow.laid w) (fun _ _ _ hh h => h.of_heap hh) own started (by kernel_rfl) Tryd.func5
    (ChangeSpec.witness_shaped (enc := enc) (C := Tryd.checked) (os := os) (X := fun w _ => laidMetH Tryd.prog Rows.barrierEndsRow.laid w) false (World.laidAll Tryd.prog os Rows.barrierEndsRow.laid) #[.int .u8 0, .slice none 0 0] 12 (World.laidAll_os _ _ _)
      (World.shaped_of_ZipB (by kernel_rfl) (by kernel_rfl)) (by kernel_rfl) (by kernel_rfl) (by kernel_rfl)
      (by rw [MakeChecks.laidMetH_plain _ _ _ (by kernel_rfl)]; exact laidMet_laidAll _ (by kernel_rfl) (by kernel_rfl))) ?_
  intro W base args ds gs before hval0 hW hcnd hsz0 hL _
  refine row_of_gl (C := Tryd.checked) (s := Rows.barrierEndsSpec) (c := bodyOf Tryd.f5) (tr := 4) cq_L22_BarrierEnds Tryd.func5 rfl (by decide) (by kernel_rfl) (by kernel_rfl) (by kernel_rfl) rfl Tryd.underlying4 rfl ?_ law_L22_BarrierEnds W (gl_door (by kernel_rfl) hL gl_all) base args ds gs before hval0 hW hsz0
  intro ds hl
  match ds, hl with
  | [d1, d2], _ => exact ⟨rfl, rfl, rfl⟩
theorem over : Rows.barrierEndsRow.holds Tryd.pinned (OpenSpec.ofChange Rows.barrierEndsSpec) :=
  OpenClaim.holds_of_wide 5 Tryd.f5 rfl rfl rfl rfl rfl rfl rfl ⟨rfl, rfl, rfl, rfl, rfl⟩ rfl rfl rfl rfl rfl (by kernel_rfl) Tryd.func5 (by kernel_rfl)
    (of_decide_eq_true (by kernel_rfl)) (by unfold Func.isWrapper; first | (rw [if_pos (by decide +kernel)]; kernel_rfl) | (rw [if_neg (by decide +kernel)]; exact ⟨rfl, rfl⟩))
    (fun os started H enc _ => lifted os started H enc)
theorem card : Rows.BarrierEndsCardSaid :=
  Claim7.holds_tied_plain_at .later [] [.data, .data] true (true, "c67c4ed1d90af463eb488493ed02f63d1fb3e147c496d63791b7857adfba86c8") false over (fun _ h => by cases h) (by kernel_rfl) (fun _ h => by cases h) barrierEnds_row_tie rfl ⟨rfl, rfl⟩ (by kernel_rfl) rfl
    (fun f fn hf hfn => by
      obtain rfl : f = 5 := Option.some.inj ((show Tryd.prog.funcNamed "becket/becketlaw22.BarrierEnds" = some 5 by kernel_rfl).symm.trans hf) |>.symm
      obtain rfl : fn = Tryd.f5 := (Option.some.inj (Tryd.func5.symm.trans hfn)).symm
      exact ⟨by kernel_rfl, fun j t ht => by
        rw [Tryd.params5] at ht
        have hm : t ∈ [5, 62] := by simpa using Array.mem_of_getElem? ht
        have hall : ([5, 62].all fun u => !Tryd.prog.wantsStandIn u) = true := by kernel_rfl
        exact (show Tryd.prog.wantsStandIn t = false by simpa using List.all_eq_true.1 hall t hm)⟩)
    (by kernel_rfl)
end Go.Proofs.YtkpobmmabmelfaaDoor.barrierEnds
namespace Go.Proofs.YtkpobmmabmelfaaDoor
/-- The card, under a short name, for the claim. -/
theorem barrierEnds_holds : Rows.BarrierEndsCardSaid := barrierEnds.card
end Go.Proofs.YtkpobmmabmelfaaDoor
