/-
  NARROWER THAN 'FOR EVERY INPUT', by the rows' own cells (each row's printed sentence says how): BarrierFires: laid · BarrierActs: laid · BarrierEnds: laid · BartabOffers: laid · BartabActs: laid · BartabNew: laid · BartabQuits: laid.
  DERIVED. THE GIVEN ROWS OF THIS SEAT. 7 by the template 'for every input the law returns true; each argument reads behind the call as it read before'; 0 by the template 'total and deterministic' (their statements: YtkpobmmabmelfaaDoorTotals.lean).
  GIVEN WITH THE SEED: the statements are not yours to turn. If you find one false, say at which input.
  Laid BY PROGRAM, IN A SANDBOX (cutbox-rows.mjs): the forced cells as the released guide's own fill.sh prints them over the translation 1f2cc1bbdadd26fa… (all of the seat's roots in one cut). By AI agents, Wed Nov 11 2026. No macro, syntax, notation, axiom, sorry.
-/
import Derived.Test.YtkpobmmabmelfaaDoorChecked
import GoSem.Claim
import GoSem.ClaimJoined
import GoSem.ClaimMapViews
import Derived.JoinedTies
import Derived.KernelRfl
namespace Go.Proofs.YtkpobmmabmelfaaDoor
/- THE CELL 'sum', in the pinned program and in every row, IS THE sha256 OF THE DUMP (.gsa) THAT YtkpobmmabmelfaaDoorProg.lean LOADS. Nothing in Lean hashes anything: it is a label: what it is worth is what the hold of that sum in a sandbox is worth. -/
noncomputable def Tryd.pinned : Pinned := { name := "ytkpobmmabmelfaadoor", sum := "1f2cc1bbdadd26fa2570a34ccc7dde1b02227225877d777681f9325eb6f288b0", checked := Tryd.checked }
namespace Rows
def none {H : Type} : Left H := { results := [], args := [] }

/- WHAT THE LISTED PACKAGE-LEVEL VARIABLES READ AS WHEN THE CALL BEGINS. Each datum BY PROGRAM (the guide's laid-datum.mjs) off the statement by which the dump's own 'gosem.cut.vars' lays the variable. In a bare row this is a premise. The card (YtkpobmmabmelfaaDoorCards.lean) ties it to the program's text. -/
def laid_math_bits_deBruijn64tab {H : Type} : DataW H := .agg [.lit (.int .u8 0), .lit (.int .u8 1), .lit (.int .u8 56), .lit (.int .u8 2), .lit (.int .u8 57), .lit (.int .u8 49), .lit (.int .u8 28), .lit (.int .u8 3), .lit (.int .u8 61), .lit (.int .u8 58), .lit (.int .u8 42), .lit (.int .u8 50), .lit (.int .u8 38), .lit (.int .u8 29), .lit (.int .u8 17), .lit (.int .u8 4), .lit (.int .u8 62), .lit (.int .u8 47), .lit (.int .u8 59), .lit (.int .u8 36), .lit (.int .u8 45), .lit (.int .u8 43), .lit (.int .u8 51), .lit (.int .u8 22), .lit (.int .u8 53), .lit (.int .u8 39), .lit (.int .u8 33), .lit (.int .u8 30), .lit (.int .u8 24), .lit (.int .u8 18), .lit (.int .u8 12), .lit (.int .u8 5), .lit (.int .u8 63), .lit (.int .u8 55), .lit (.int .u8 48), .lit (.int .u8 27), .lit (.int .u8 60), .lit (.int .u8 41), .lit (.int .u8 37), .lit (.int .u8 16), .lit (.int .u8 46), .lit (.int .u8 35), .lit (.int .u8 44), .lit (.int .u8 21), .lit (.int .u8 52), .lit (.int .u8 32), .lit (.int .u8 23), .lit (.int .u8 11), .lit (.int .u8 54), .lit (.int .u8 26), .lit (.int .u8 40), .lit (.int .u8 15), .lit (.int .u8 34), .lit (.int .u8 20), .lit (.int .u8 31), .lit (.int .u8 10), .lit (.int .u8 25), .lit (.int .u8 14), .lit (.int .u8 19), .lit (.int .u8 9), .lit (.int .u8 13), .lit (.int .u8 8), .lit (.int .u8 7), .lit (.int .u8 6)]
def laid_becket_roll_everybody {H : Type} : DataW H := .agg [.lit (.int .u64 65535), .lit (.int .u64 0), .lit (.int .u64 0), .lit (.int .u64 0)]

/-- 'becketlaw22.BarrierFires': WHATEVER THE INPUT: true; the input reads as it did. -/
def barrierFiresSpec : ChangeSpec := { name := "barrierFires", fn := fun _ => fun
  | [d] => { results := [.lit (.bool true)], args := [d] }
  | _ => none }
def barrierFiresRow : OpenClaim := { program := "ytkpobmmabmelfaadoor", sum := "1f2cc1bbdadd26fa2570a34ccc7dde1b02227225877d777681f9325eb6f288b0", func := "becket/becketlaw22.BarrierFires", spec := "barrierFires", unfollowed := true, recurses := true, named := ["becket/roll.everybody", "math/bits.deBruijn64tab"], apart := false, laid := [("math/bits.deBruijn64tab", laid_math_bits_deBruijn64tab), ("becket/roll.everybody", laid_becket_roll_everybody)] }
def BarrierFiresSaid : Prop := barrierFiresRow.holds Tryd.pinned (OpenSpec.ofChange barrierFiresSpec)

/-- ITS FALSE NEIGHBOUR: 'it returns false'. Refute it at one input. -/
def barrierFiresWrong : ChangeSpec := { name := "barrierFires", fn := fun _ => fun
  | [d] => { results := [.lit (.bool false)], args := [d] }
  | _ => none }
def BarrierFiresWrongFalsely : Prop := barrierFiresRow.holds Tryd.pinned (OpenSpec.ofChange barrierFiresWrong)

/-- 'becketlaw22.BarrierActs': WHATEVER THE INPUT: true; the input reads as it did. -/
def barrierActsSpec : ChangeSpec := { name := "barrierActs", fn := fun _ => fun
  | [d1, d2, d3] => { results := [.lit (.bool true)], args := [d1, d2, d3] }
  | _ => none }
def barrierActsRow : OpenClaim := { program := "ytkpobmmabmelfaadoor", sum := "1f2cc1bbdadd26fa2570a34ccc7dde1b02227225877d777681f9325eb6f288b0", func := "becket/becketlaw22.BarrierActs", spec := "barrierActs", unfollowed := true, recurses := true, named := ["becket/roll.everybody", "math/bits.deBruijn64tab"], apart := false, laid := [("math/bits.deBruijn64tab", laid_math_bits_deBruijn64tab), ("becket/roll.everybody", laid_becket_roll_everybody)] }
def BarrierActsSaid : Prop := barrierActsRow.holds Tryd.pinned (OpenSpec.ofChange barrierActsSpec)

/-- ITS FALSE NEIGHBOUR: 'it returns false'. Refute it at one input. -/
def barrierActsWrong : ChangeSpec := { name := "barrierActs", fn := fun _ => fun
  | [d1, d2, d3] => { results := [.lit (.bool false)], args := [d1, d2, d3] }
  | _ => none }
def BarrierActsWrongFalsely : Prop := barrierActsRow.holds Tryd.pinned (OpenSpec.ofChange barrierActsWrong)

/-- 'becketlaw22.BarrierEnds': WHATEVER THE INPUT: true; the input reads as it did. -/
def barrierEndsSpec : ChangeSpec := { name := "barrierEnds", fn := fun _ => fun
  | [d1, d2] => { results := [.lit (.bool true)], args := [d1, d2] }
  | _ => none }
def barrierEndsRow : OpenClaim := { program := "ytkpobmmabmelfaadoor", sum := "1f2cc1bbdadd26fa2570a34ccc7dde1b02227225877d777681f9325eb6f288b0", func := "becket/becketlaw22.BarrierEnds", spec := "barrierEnds", unfollowed := true, recurses := true, named := ["becket/roll.everybody", "math/bits.deBruijn64tab"], apart := false, laid := [("math/bits.deBruijn64tab", laid_math_bits_deBruijn64tab), ("becket/roll.everybody", laid_becket_roll_everybody)] }
def BarrierEndsSaid : Prop := barrierEndsRow.holds Tryd.pinned (OpenSpec.ofChange barrierEndsSpec)

/-- ITS FALSE NEIGHBOUR: 'it returns false'. Refute it at one input. -/
def barrierEndsWrong : ChangeSpec := { name := "barrierEnds", fn := fun _ => fun
  | [d1, d2] => { results := [.lit (.bool false)], args := [d1, d2] }
  | _ => none }
def BarrierEndsWrongFalsely : Prop := barrierEndsRow.holds Tryd.pinned (OpenSpec.ofChange barrierEndsWrong)

/-- 'becketlaw23.BartabOffers': WHATEVER THE INPUT: true; the input reads as it did. -/
def bartabOffersSpec : ChangeSpec := { name := "bartabOffers", fn := fun _ => fun
  | [d1, d2] => { results := [.lit (.bool true)], args := [d1, d2] }
  | _ => none }
def bartabOffersRow : OpenClaim := { program := "ytkpobmmabmelfaadoor", sum := "1f2cc1bbdadd26fa2570a34ccc7dde1b02227225877d777681f9325eb6f288b0", func := "becket/becketlaw23.BartabOffers", spec := "bartabOffers", unfollowed := true, recurses := true, named := ["becket/roll.everybody", "math/bits.deBruijn64tab"], apart := false, laid := [("math/bits.deBruijn64tab", laid_math_bits_deBruijn64tab), ("becket/roll.everybody", laid_becket_roll_everybody)] }
def BartabOffersSaid : Prop := bartabOffersRow.holds Tryd.pinned (OpenSpec.ofChange bartabOffersSpec)

/-- ITS FALSE NEIGHBOUR: 'it returns false'. Refute it at one input. -/
def bartabOffersWrong : ChangeSpec := { name := "bartabOffers", fn := fun _ => fun
  | [d1, d2] => { results := [.lit (.bool false)], args := [d1, d2] }
  | _ => none }
def BartabOffersWrongFalsely : Prop := bartabOffersRow.holds Tryd.pinned (OpenSpec.ofChange bartabOffersWrong)

/-- 'becketlaw23.BartabActs': WHATEVER THE INPUT: true; the input reads as it did. -/
def bartabActsSpec : ChangeSpec := { name := "bartabActs", fn := fun _ => fun
  | [d1, d2, d3] => { results := [.lit (.bool true)], args := [d1, d2, d3] }
  | _ => none }
def bartabActsRow : OpenClaim := { program := "ytkpobmmabmelfaadoor", sum := "1f2cc1bbdadd26fa2570a34ccc7dde1b02227225877d777681f9325eb6f288b0", func := "becket/becketlaw23.BartabActs", spec := "bartabActs", unfollowed := true, recurses := true, named := ["becket/roll.everybody", "math/bits.deBruijn64tab"], apart := false, laid := [("math/bits.deBruijn64tab", laid_math_bits_deBruijn64tab), ("becket/roll.everybody", laid_becket_roll_everybody)] }
def BartabActsSaid : Prop := bartabActsRow.holds Tryd.pinned (OpenSpec.ofChange bartabActsSpec)

/-- ITS FALSE NEIGHBOUR: 'it returns false'. Refute it at one input. -/
def bartabActsWrong : ChangeSpec := { name := "bartabActs", fn := fun _ => fun
  | [d1, d2, d3] => { results := [.lit (.bool false)], args := [d1, d2, d3] }
  | _ => none }
def BartabActsWrongFalsely : Prop := bartabActsRow.holds Tryd.pinned (OpenSpec.ofChange bartabActsWrong)

/-- 'becketlaw23.BartabNew': WHATEVER THE INPUT: true; the input reads as it did. -/
def bartabNewSpec : ChangeSpec := { name := "bartabNew", fn := fun _ => fun
  | [d] => { results := [.lit (.bool true)], args := [d] }
  | _ => none }
def bartabNewRow : OpenClaim := { program := "ytkpobmmabmelfaadoor", sum := "1f2cc1bbdadd26fa2570a34ccc7dde1b02227225877d777681f9325eb6f288b0", func := "becket/becketlaw23.BartabNew", spec := "bartabNew", unfollowed := true, recurses := true, named := ["becket/roll.everybody", "math/bits.deBruijn64tab"], apart := false, laid := [("math/bits.deBruijn64tab", laid_math_bits_deBruijn64tab), ("becket/roll.everybody", laid_becket_roll_everybody)] }
def BartabNewSaid : Prop := bartabNewRow.holds Tryd.pinned (OpenSpec.ofChange bartabNewSpec)

/-- ITS FALSE NEIGHBOUR: 'it returns false'. Refute it at one input. -/
def bartabNewWrong : ChangeSpec := { name := "bartabNew", fn := fun _ => fun
  | [d] => { results := [.lit (.bool false)], args := [d] }
  | _ => none }
def BartabNewWrongFalsely : Prop := bartabNewRow.holds Tryd.pinned (OpenSpec.ofChange bartabNewWrong)

/-- 'becketlaw23.BartabQuits': WHATEVER THE INPUT: true; the input reads as it did. -/
def bartabQuitsSpec : ChangeSpec := { name := "bartabQuits", fn := fun _ => fun
  | [d1, d2, d3] => { results := [.lit (.bool true)], args := [d1, d2, d3] }
  | _ => none }
def bartabQuitsRow : OpenClaim := { program := "ytkpobmmabmelfaadoor", sum := "1f2cc1bbdadd26fa2570a34ccc7dde1b02227225877d777681f9325eb6f288b0", func := "becket/becketlaw23.BartabQuits", spec := "bartabQuits", unfollowed := true, recurses := true, named := ["becket/roll.everybody", "math/bits.deBruijn64tab"], apart := false, laid := [("math/bits.deBruijn64tab", laid_math_bits_deBruijn64tab), ("becket/roll.everybody", laid_becket_roll_everybody)] }
def BartabQuitsSaid : Prop := bartabQuitsRow.holds Tryd.pinned (OpenSpec.ofChange bartabQuitsSpec)

/-- ITS FALSE NEIGHBOUR: 'it returns false'. Refute it at one input. -/
def bartabQuitsWrong : ChangeSpec := { name := "bartabQuits", fn := fun _ => fun
  | [d1, d2, d3] => { results := [.lit (.bool false)], args := [d1, d2, d3] }
  | _ => none }
def BartabQuitsWrongFalsely : Prop := bartabQuitsRow.holds Tryd.pinned (OpenSpec.ofChange bartabQuitsWrong)

/- THE SECOND FORM. 'bulk': how many values and letters a reading holds, each counted each time it is reached (what is shared counts as often as it is met; a slice's spare places count too). A statement '..UptoSaid' is the law's where the arguments, and the package variables that the reading takes, are together of bulk at most 1048576: NARROWER than '..Said'. Prove '..Said' where nothing that the law and all that it calls make is longer than what came in: it says more and counts as full. Else prove '..UptoSaid'. A law counts once. -/
mutual
def uptoBulk {H : Type} : DataW H → Nat
  | .lit (.string bytes) => bytes.length + 1
  | .lit _ => 1
  | .nil => 1
  | .ptr d => uptoBulk d + 1
  | .slice elems spare => uptoBulkAll elems + uptoBulkAll spare + 1
  | .agg parts => uptoBulkAll parts + 1
  | .iface _ d => uptoBulk d + 1
  | .map entries => uptoBulkEntries entries + 1
  | .held _ => 1
def uptoBulkAll {H : Type} : List (DataW H) → Nat
  | [] => 0
  | d :: r => uptoBulk d + uptoBulkAll r
def uptoBulkEntries {H : Type} : List (Lit × DataW H) → Nat
  | [] => 0
  | x :: r => uptoBulkEntry x + uptoBulkEntries r
def uptoBulkEntry {H : Type} : Lit × DataW H → Nat
  | (.string bytes, d) => bytes.length + uptoBulk d + 1
  | (_, d) => uptoBulk d + 1
 end
def uptoSmall : (H : Type) → List (DataW H) → Bool := fun _ ds => decide (uptoBulkAll ds ≤ 1048576)
def OpenSpec.upto (s : _root_.Go.ChangeSpec) : _root_.Go.OpenSpec := { _root_.Go.OpenSpec.ofChange s with cond := some uptoSmall }

/-- 'becketlaw22.BarrierFires', WHERE WHAT IT READS IS OF BULK AT MOST 1048576: true; the input reads as it did. -/
def barrierFiresUptoRow : OpenClaim := { program := "ytkpobmmabmelfaadoor", sum := "1f2cc1bbdadd26fa2570a34ccc7dde1b02227225877d777681f9325eb6f288b0", func := "becket/becketlaw22.BarrierFires", spec := "barrierFires", unfollowed := true, recurses := true, named := ["becket/roll.everybody", "math/bits.deBruijn64tab"], apart := false, laid := [("math/bits.deBruijn64tab", laid_math_bits_deBruijn64tab), ("becket/roll.everybody", laid_becket_roll_everybody)], narrowed := true }
def BarrierFiresUptoSaid : Prop := barrierFiresUptoRow.holds Tryd.pinned (OpenSpec.upto barrierFiresSpec)

/-- 'becketlaw22.BarrierActs', WHERE WHAT IT READS IS OF BULK AT MOST 1048576: true; the input reads as it did. -/
def barrierActsUptoRow : OpenClaim := { program := "ytkpobmmabmelfaadoor", sum := "1f2cc1bbdadd26fa2570a34ccc7dde1b02227225877d777681f9325eb6f288b0", func := "becket/becketlaw22.BarrierActs", spec := "barrierActs", unfollowed := true, recurses := true, named := ["becket/roll.everybody", "math/bits.deBruijn64tab"], apart := false, laid := [("math/bits.deBruijn64tab", laid_math_bits_deBruijn64tab), ("becket/roll.everybody", laid_becket_roll_everybody)], narrowed := true }
def BarrierActsUptoSaid : Prop := barrierActsUptoRow.holds Tryd.pinned (OpenSpec.upto barrierActsSpec)

/-- 'becketlaw22.BarrierEnds', WHERE WHAT IT READS IS OF BULK AT MOST 1048576: true; the input reads as it did. -/
def barrierEndsUptoRow : OpenClaim := { program := "ytkpobmmabmelfaadoor", sum := "1f2cc1bbdadd26fa2570a34ccc7dde1b02227225877d777681f9325eb6f288b0", func := "becket/becketlaw22.BarrierEnds", spec := "barrierEnds", unfollowed := true, recurses := true, named := ["becket/roll.everybody", "math/bits.deBruijn64tab"], apart := false, laid := [("math/bits.deBruijn64tab", laid_math_bits_deBruijn64tab), ("becket/roll.everybody", laid_becket_roll_everybody)], narrowed := true }
def BarrierEndsUptoSaid : Prop := barrierEndsUptoRow.holds Tryd.pinned (OpenSpec.upto barrierEndsSpec)

/-- 'becketlaw23.BartabOffers', WHERE WHAT IT READS IS OF BULK AT MOST 1048576: true; the input reads as it did. -/
def bartabOffersUptoRow : OpenClaim := { program := "ytkpobmmabmelfaadoor", sum := "1f2cc1bbdadd26fa2570a34ccc7dde1b02227225877d777681f9325eb6f288b0", func := "becket/becketlaw23.BartabOffers", spec := "bartabOffers", unfollowed := true, recurses := true, named := ["becket/roll.everybody", "math/bits.deBruijn64tab"], apart := false, laid := [("math/bits.deBruijn64tab", laid_math_bits_deBruijn64tab), ("becket/roll.everybody", laid_becket_roll_everybody)], narrowed := true }
def BartabOffersUptoSaid : Prop := bartabOffersUptoRow.holds Tryd.pinned (OpenSpec.upto bartabOffersSpec)

/-- 'becketlaw23.BartabActs', WHERE WHAT IT READS IS OF BULK AT MOST 1048576: true; the input reads as it did. -/
def bartabActsUptoRow : OpenClaim := { program := "ytkpobmmabmelfaadoor", sum := "1f2cc1bbdadd26fa2570a34ccc7dde1b02227225877d777681f9325eb6f288b0", func := "becket/becketlaw23.BartabActs", spec := "bartabActs", unfollowed := true, recurses := true, named := ["becket/roll.everybody", "math/bits.deBruijn64tab"], apart := false, laid := [("math/bits.deBruijn64tab", laid_math_bits_deBruijn64tab), ("becket/roll.everybody", laid_becket_roll_everybody)], narrowed := true }
def BartabActsUptoSaid : Prop := bartabActsUptoRow.holds Tryd.pinned (OpenSpec.upto bartabActsSpec)

/-- 'becketlaw23.BartabNew', WHERE WHAT IT READS IS OF BULK AT MOST 1048576: true; the input reads as it did. -/
def bartabNewUptoRow : OpenClaim := { program := "ytkpobmmabmelfaadoor", sum := "1f2cc1bbdadd26fa2570a34ccc7dde1b02227225877d777681f9325eb6f288b0", func := "becket/becketlaw23.BartabNew", spec := "bartabNew", unfollowed := true, recurses := true, named := ["becket/roll.everybody", "math/bits.deBruijn64tab"], apart := false, laid := [("math/bits.deBruijn64tab", laid_math_bits_deBruijn64tab), ("becket/roll.everybody", laid_becket_roll_everybody)], narrowed := true }
def BartabNewUptoSaid : Prop := bartabNewUptoRow.holds Tryd.pinned (OpenSpec.upto bartabNewSpec)

/-- 'becketlaw23.BartabQuits', WHERE WHAT IT READS IS OF BULK AT MOST 1048576: true; the input reads as it did. -/
def bartabQuitsUptoRow : OpenClaim := { program := "ytkpobmmabmelfaadoor", sum := "1f2cc1bbdadd26fa2570a34ccc7dde1b02227225877d777681f9325eb6f288b0", func := "becket/becketlaw23.BartabQuits", spec := "bartabQuits", unfollowed := true, recurses := true, named := ["becket/roll.everybody", "math/bits.deBruijn64tab"], apart := false, laid := [("math/bits.deBruijn64tab", laid_math_bits_deBruijn64tab), ("becket/roll.everybody", laid_becket_roll_everybody)], narrowed := true }
def BartabQuitsUptoSaid : Prop := bartabQuitsUptoRow.holds Tryd.pinned (OpenSpec.upto bartabQuitsSpec)

end Rows
end Go.Proofs.YtkpobmmabmelfaaDoor
