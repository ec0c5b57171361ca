import Derived.Test.YtbkccpddkpclaaaGreatDoorRows
import Derived.Test.YtbkccpddkpclaaaGreatDoorBVcG2
import Derived.Test.YtbkccpddkpclaaaGreatDoorBCL29
import Derived.Test.YtbkccpddkpclaaaGreatDoorBCReadyBoth
import Derived.Test.YtbkccpddkpclaaaGreatDoorBMReadyBoth
import Derived.Test.YtbkccpddkpclaaaGreatDoorBVcG3
import Derived.Test.YtbkccpddkpclaaaGreatDoorCards
import Derived.Test.YtbkccpddkpclaaaGreatDoorTie
import Derived.ProofKit
import Derived.OpenShut
import Derived.LaidMore
import Derived.Lay
import Derived.SevenTiedAt
import Derived.Stop.Joined
namespace Go.Proofs.YtbkccpddkpclaaaGreatDoor.readyBoth
open Go.ChangeShapes Go.WideShapes Go.ChangeAt Go.RowKit Go.Proofs.YtbkccpddkpclaaaGreatDoorV
set_option linter.unusedVariables false
theorem own : ownKnob Tryz.prog.godebug = none := by kernel_rfl
theorem gl_all : GlAll Tryz.prog Rows.readyBothRow.laid GL := ⟨⟨"becket/roll.everybody", Rows.laid_becket_roll_everybody, 132, (.head _), by kernel_rfl, by kernel_rfl, by kernel_rfl, by kernel_rfl, by kernel_rfl⟩, trivial⟩
set_option maxRecDepth 100000 in
theorem lifted (os : Os) (started : os.Started) (H : Type) (enc : TypeId × Value → H) :
    ReturnsInHanded {} Tryz.checked os 4 .any (fun w args => (Rows.readyBothSpec.pre enc Tryz.prog Tryz.f4 Rows.readyBothRow.domain false w args ∧ laidMetH Tryz.prog Rows.readyBothRow.laid w) ∧ sizedMet enc Tryz.prog Tryz.f4 (OpenSpec.ofChange Rows.readyBothSpec) false w args)
      (Rows.readyBothSpec.post enc Tryz.prog Tryz.f4 false true false false) := by
  refine returnsInHanded_of_change_and (C := Tryz.checked) (X := fun w _ => laidMetH Tryz.prog Rows.readyBothRow.laid w) (fun _ _ _ hh h => h.of_heap hh) own started (by kernel_rfl) Tryz.func4
    (ChangeSpec.witness_shaped (enc := enc) (C := Tryz.checked) (os := os) (X := fun w _ => laidMetH Tryz.prog Rows.readyBothRow.laid w) false (World.laidAll Tryz.prog os Rows.readyBothRow.laid) #[.agg #[.slice none 0 0, .slice none 0 0, .slice none 0 0, .slice none 0 0, .slice none 0 0, .int .i64 0]] 12 (World.laidAll_os _ _ _)
      (World.shaped_of_ZipB (by kernel_rfl) (by kernel_rfl)) (by kernel_rfl) (by kernel_rfl) (by kernel_rfl)
      (by rw [MakeChecks.laidMetH_plain _ _ _ (by kernel_rfl)]; exact laidMet_laidAll _ (by kernel_rfl) (by kernel_rfl))) ?_
  intro W base args ds gs before hval0 hW hcnd hsz0 hL _
  refine row_of_gl (C := Tryz.checked) (s := Rows.readyBothSpec) (c := bodyOf Tryz.f4) (tr := 4) cq_L29_ReadyBoth Tryz.func4 rfl (by decide) (by kernel_rfl) (by kernel_rfl) (by kernel_rfl) rfl Tryz.underlying4 rfl ?_ law_L29_ReadyBoth W (gl_door (by kernel_rfl) hL gl_all) base args ds gs before hval0 hW hsz0
  intro ds hl
  match ds, hl with
  | [d1], _ => exact ⟨rfl, rfl, rfl⟩
theorem over : Rows.readyBothRow.holds Tryz.pinned (OpenSpec.ofChange Rows.readyBothSpec) :=
  OpenClaim.holds_of_wide 4 Tryz.f4 rfl rfl rfl rfl rfl rfl rfl ⟨rfl, rfl, rfl, rfl, rfl⟩ rfl rfl rfl rfl rfl (by kernel_rfl) Tryz.func4 (by kernel_rfl)
    (of_decide_eq_true (by kernel_rfl)) (by unfold Func.isWrapper; first | (rw [if_pos (by decide +kernel)]; kernel_rfl) | (rw [if_neg (by decide +kernel)]; exact ⟨rfl, rfl⟩))
    (fun os started H enc _ => lifted os started H enc)
theorem card : Rows.ReadyBothCardSaid :=
  Claim7.holds_tied_plain_at .later [] [.data] true (true, "686ed4b1ff36f154cca0019cb91a4391a68617ce616bac50a2ee2e98c1a789c3") false over (fun _ h => by cases h) (by kernel_rfl) (fun _ h => by cases h) readyBoth_row_tie rfl ⟨rfl, rfl⟩ (by kernel_rfl) rfl
    (fun f fn hf hfn => by
      obtain rfl : f = 4 := Option.some.inj ((show Tryz.prog.funcNamed "becket/becketlaw29.ReadyBoth" = some 4 by kernel_rfl).symm.trans hf) |>.symm
      obtain rfl : fn = Tryz.f4 := (Option.some.inj (Tryz.func4.symm.trans hfn)).symm
      exact ⟨by kernel_rfl, fun j t ht => by
        rw [Tryz.params4] at ht
        have hm : t ∈ [54] := by simpa using Array.mem_of_getElem? ht
        have hall : ([54].all fun u => !Tryz.prog.wantsStandIn u) = true := by kernel_rfl
        exact (show Tryz.prog.wantsStandIn t = false by simpa using List.all_eq_true.1 hall t hm)⟩)
    (by kernel_rfl)
end Go.Proofs.YtbkccpddkpclaaaGreatDoor.readyBoth
namespace Go.Proofs.YtbkccpddkpclaaaGreatDoor
theorem readyBoth_holds : Rows.ReadyBothCardSaid := readyBoth.card
end Go.Proofs.YtbkccpddkpclaaaGreatDoor
