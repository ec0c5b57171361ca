/- becket/becketlaw04.BitsetStops: for every input the law returns true, and each argument reads behind the call as before. The listed package-level variables hold what the program's text lays. -/
import Derived.Test.YtejedlpnejjnbaaDoorRows
import Derived.Test.YtejedlpnejjnbaaDoorBVcG2
import Derived.Test.YtejedlpnejjnbaaDoorBCL04
import Derived.Test.YtejedlpnejjnbaaDoorBCBitsetStops
import Derived.Test.YtejedlpnejjnbaaDoorBMBitsetStops
import Derived.Test.YtejedlpnejjnbaaDoorBVcG3
import Derived.Test.YtejedlpnejjnbaaDoorCards
import Derived.Test.YtejedlpnejjnbaaDoorTie
import Derived.ProofKit
import Derived.OpenShut
import Derived.LaidMore
import Derived.Lay
import Derived.SevenTiedAt
import Derived.Stop.Joined
namespace Go.Proofs.YtejedlpnejjnbaaDoor.bitsetStops
open Go.ChangeShapes Go.WideShapes Go.ChangeAt Go.RowKit Go.Proofs.YtejedlpnejjnbaaDoorBV
set_option linter.unusedVariables false
theorem own : ownKnob Tryd.prog.godebug = none := by kernel_rfl
theorem gl_all : GlAll Tryd.prog Rows.bitsetStopsRow.laid GL := ⟨⟨"math/bits.deBruijn64tab", Rows.laid_math_bits_deBruijn64tab, 83, (.head _), by kernel_rfl, by kernel_rfl, by kernel_rfl, by kernel_rfl, by kernel_rfl⟩, trivial⟩
set_option maxRecDepth 100000 in
theorem lifted (os : Os) (started : os.Started) (H : Type) (enc : TypeId × Value → H) :
    ReturnsInHanded {} Tryd.checked os 4 .any (fun w args => (Rows.bitsetStopsSpec.pre enc Tryd.prog Tryd.f4 Rows.bitsetStopsRow.domain false w args ∧ laidMetH Tryd.prog Rows.bitsetStopsRow.laid w) ∧ sizedMet enc Tryd.prog Tryd.f4 (OpenSpec.ofChange Rows.bitsetStopsSpec) false w args)
      (Rows.bitsetStopsSpec.post enc Tryd.prog Tryd.f4 false true false false) := by
  refine returnsInHanded_of_change_and (C := Tryd.checked) (X := fun w _ => laidMetH Tryd.prog Rows.bitsetStopsRow.laid w) (fun _ _ _ hh h => h.of_heap hh) own started (by kernel_rfl) Tryd.func4
    (ChangeSpec.witness_shaped (enc := enc) (C := Tryd.checked) (os := os) (X := fun w _ => laidMetH Tryd.prog Rows.bitsetStopsRow.laid w) false (World.laidAll Tryd.prog os Rows.bitsetStopsRow.laid) #[.agg #[.int .u64 0, .int .u64 0, .int .u64 0, .int .u64 0], .int .u8 0] 12 (World.laidAll_os _ _ _)
      (World.shaped_of_ZipB (by kernel_rfl) (by kernel_rfl)) (by kernel_rfl) (by kernel_rfl) (by kernel_rfl)
      (by rw [MakeChecks.laidMetH_plain _ _ _ (by kernel_rfl)]; exact laidMet_laidAll _ (by kernel_rfl) (by kernel_rfl))) ?_
  intro W base args ds gs before hval0 hW hcnd hsz0 hL _
  refine row_of_gl (C := Tryd.checked) (s := Rows.bitsetStopsSpec) (c := bodyOf Tryd.f4) (tr := 4) cq_L04_BitsetStops Tryd.func4 rfl (by decide) (by kernel_rfl) (by kernel_rfl) (by kernel_rfl) rfl Tryd.underlying4 rfl ?_ law_L04_BitsetStops W (gl_door (by kernel_rfl) hL gl_all) base args ds gs before hval0 hW hsz0
  intro ds hl
  match ds, hl with
  | [d1, d2], _ => exact ⟨rfl, rfl, rfl⟩
theorem over : Rows.bitsetStopsRow.holds Tryd.pinned (OpenSpec.ofChange Rows.bitsetStopsSpec) :=
  OpenClaim.holds_of_wide 4 Tryd.f4 rfl rfl rfl rfl rfl rfl rfl ⟨rfl, rfl, rfl, rfl, rfl⟩ rfl rfl rfl rfl rfl (by kernel_rfl) Tryd.func4 (by kernel_rfl)
    (of_decide_eq_true (by kernel_rfl)) (by unfold Func.isWrapper; first | (rw [if_pos (by decide +kernel)]; kernel_rfl) | (rw [if_neg (by decide +kernel)]; exact ⟨rfl, rfl⟩))
    (fun os started H enc _ => lifted os started H enc)
theorem card : Rows.BitsetStopsCardSaid :=
  Claim7.holds_tied_plain_at .later [] [.data] true (true, "f02cc16e840ace84d354975b68e0cdb8c84005bc15e9044edee3ba878c7e3c6a") false over (fun _ h => by cases h) (by kernel_rfl) (fun _ h => by cases h) bitsetStops_row_tie rfl ⟨rfl, rfl⟩ (by kernel_rfl) rfl
    (fun f fn hf hfn => by
      obtain rfl : f = 4 := Option.some.inj ((show Tryd.prog.funcNamed "becket/becketlaw04.BitsetStops" = some 4 by kernel_rfl).symm.trans hf) |>.symm
      obtain rfl : fn = Tryd.f4 := (Option.some.inj (Tryd.func4.symm.trans hfn)).symm
      exact ⟨by kernel_rfl, fun j t ht => by
        rw [Tryd.params4] at ht
        have hm : t ∈ [25, 5] := by simpa using Array.mem_of_getElem? ht
        have hall : ([25, 5].all fun u => !Tryd.prog.wantsStandIn u) = true := by kernel_rfl
        exact (show Tryd.prog.wantsStandIn t = false by simpa using List.all_eq_true.1 hall t hm)⟩)
    (by kernel_rfl)
end Go.Proofs.YtejedlpnejjnbaaDoor.bitsetStops
namespace Go.Proofs.YtejedlpnejjnbaaDoor
/-- The card, under a short name, for the claim. -/
theorem bitsetStops_holds : Rows.BitsetStopsCardSaid := bitsetStops.card
end Go.Proofs.YtejedlpnejjnbaaDoor
