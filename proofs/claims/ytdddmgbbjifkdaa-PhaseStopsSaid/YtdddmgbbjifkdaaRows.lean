/-
  No cell of these rows narrows 'for every input' (looked for: loops, veiled, ifaces, maps, wideKeys, modest, calm, conditions, laid).
  DERIVED. THE GIVEN ROWS OF THIS SEAT. 9 by the template 'for every input the law returns true; each argument reads behind the call as it read before'; 0 by the template 'total and deterministic' (their statements: YtdddmgbbjifkdaaTotals.lean).
  GIVEN WITH THE SEED: the statements are not yours to turn. If you find one false, say at which input.
  Laid BY PROGRAM, IN A SANDBOX (cutbox-rows.mjs): the forced cells as the released guide's own fill.sh prints them over the translation 7231498c32dbba1d… (all of the seat's roots in one cut). By AI agents, Wed Nov 11 2026. No macro, syntax, notation, axiom, sorry.
-/
import Derived.Test.YtdddmgbbjifkdaaChecked
import GoSem.Claim
import GoSem.ClaimJoined
import GoSem.ClaimMapViews
import Derived.JoinedTies
import Derived.KernelRfl
namespace Go.Proofs.Ytdddmgbbjifkdaa
/- THE CELL 'sum', in the pinned program and in every row, IS THE sha256 OF THE DUMP (.gsa) THAT YtdddmgbbjifkdaaProg.lean LOADS. Nothing in Lean hashes anything: it is a label: what it is worth is what the hold of that sum in a sandbox is worth. -/
noncomputable def Try.pinned : Pinned := { name := "ytdddmgbbjifkdaa", sum := "7231498c32dbba1d4fbed56cbb528b81c588be3c45c7457050b3c74be75e9c1d", checked := Try.checked }
namespace Rows
def none {H : Type} : Left H := { results := [], args := [] }

/-- 'becketlaw05.ClockTells': WHATEVER THE INPUT: true; the input reads as it did. -/
def clockTellsSpec : ChangeSpec := { name := "clockTells", fn := fun _ => fun
  | [d1, d2] => { results := [.lit (.bool true)], args := [d1, d2] }
  | _ => none }
def clockTellsRow : OpenClaim := { program := "ytdddmgbbjifkdaa", sum := "7231498c32dbba1d4fbed56cbb528b81c588be3c45c7457050b3c74be75e9c1d", func := "becket/becketlaw05.ClockTells", spec := "clockTells", apart := false }
def ClockTellsSaid : Prop := clockTellsRow.holds Try.pinned (OpenSpec.ofChange clockTellsSpec)

/-- ITS FALSE NEIGHBOUR: 'it returns false'. Refute it at one input. -/
def clockTellsWrong : ChangeSpec := { name := "clockTells", fn := fun _ => fun
  | [d1, d2] => { results := [.lit (.bool false)], args := [d1, d2] }
  | _ => none }
def ClockTellsWrongFalsely : Prop := clockTellsRow.holds Try.pinned (OpenSpec.ofChange clockTellsWrong)

/-- 'becketlaw05.ClockGoes': WHATEVER THE INPUT: true; the input reads as it did. -/
def clockGoesSpec : ChangeSpec := { name := "clockGoes", fn := fun _ => fun
  | [d1, d2, d3] => { results := [.lit (.bool true)], args := [d1, d2, d3] }
  | _ => none }
def clockGoesRow : OpenClaim := { program := "ytdddmgbbjifkdaa", sum := "7231498c32dbba1d4fbed56cbb528b81c588be3c45c7457050b3c74be75e9c1d", func := "becket/becketlaw05.ClockGoes", spec := "clockGoes", apart := false }
def ClockGoesSaid : Prop := clockGoesRow.holds Try.pinned (OpenSpec.ofChange clockGoesSpec)

/-- ITS FALSE NEIGHBOUR: 'it returns false'. Refute it at one input. -/
def clockGoesWrong : ChangeSpec := { name := "clockGoes", fn := fun _ => fun
  | [d1, d2, d3] => { results := [.lit (.bool false)], args := [d1, d2, d3] }
  | _ => none }
def ClockGoesWrongFalsely : Prop := clockGoesRow.holds Try.pinned (OpenSpec.ofChange clockGoesWrong)

/-- 'becketlaw05.ClockEnds': WHATEVER THE INPUT: true; the input reads as it did. -/
def clockEndsSpec : ChangeSpec := { name := "clockEnds", fn := fun _ => fun
  | [d1, d2] => { results := [.lit (.bool true)], args := [d1, d2] }
  | _ => none }
def clockEndsRow : OpenClaim := { program := "ytdddmgbbjifkdaa", sum := "7231498c32dbba1d4fbed56cbb528b81c588be3c45c7457050b3c74be75e9c1d", func := "becket/becketlaw05.ClockEnds", spec := "clockEnds", apart := false }
def ClockEndsSaid : Prop := clockEndsRow.holds Try.pinned (OpenSpec.ofChange clockEndsSpec)

/-- ITS FALSE NEIGHBOUR: 'it returns false'. Refute it at one input. -/
def clockEndsWrong : ChangeSpec := { name := "clockEnds", fn := fun _ => fun
  | [d1, d2] => { results := [.lit (.bool false)], args := [d1, d2] }
  | _ => none }
def ClockEndsWrongFalsely : Prop := clockEndsRow.holds Try.pinned (OpenSpec.ofChange clockEndsWrong)

/-- 'becketlaw20.PhaseTells': WHATEVER THE INPUT: true; the input reads as it did. -/
def phaseTellsSpec : ChangeSpec := { name := "phaseTells", fn := fun _ => fun
  | [d1, d2] => { results := [.lit (.bool true)], args := [d1, d2] }
  | _ => none }
def phaseTellsRow : OpenClaim := { program := "ytdddmgbbjifkdaa", sum := "7231498c32dbba1d4fbed56cbb528b81c588be3c45c7457050b3c74be75e9c1d", func := "becket/becketlaw20.PhaseTells", spec := "phaseTells", apart := false }
def PhaseTellsSaid : Prop := phaseTellsRow.holds Try.pinned (OpenSpec.ofChange phaseTellsSpec)

/-- ITS FALSE NEIGHBOUR: 'it returns false'. Refute it at one input. -/
def phaseTellsWrong : ChangeSpec := { name := "phaseTells", fn := fun _ => fun
  | [d1, d2] => { results := [.lit (.bool false)], args := [d1, d2] }
  | _ => none }
def PhaseTellsWrongFalsely : Prop := phaseTellsRow.holds Try.pinned (OpenSpec.ofChange phaseTellsWrong)

/-- 'becketlaw20.PhaseGoes': WHATEVER THE INPUT: true; the input reads as it did. -/
def phaseGoesSpec : ChangeSpec := { name := "phaseGoes", fn := fun _ => fun
  | [d1, d2, d3] => { results := [.lit (.bool true)], args := [d1, d2, d3] }
  | _ => none }
def phaseGoesRow : OpenClaim := { program := "ytdddmgbbjifkdaa", sum := "7231498c32dbba1d4fbed56cbb528b81c588be3c45c7457050b3c74be75e9c1d", func := "becket/becketlaw20.PhaseGoes", spec := "phaseGoes", apart := false }
def PhaseGoesSaid : Prop := phaseGoesRow.holds Try.pinned (OpenSpec.ofChange phaseGoesSpec)

/-- ITS FALSE NEIGHBOUR: 'it returns false'. Refute it at one input. -/
def phaseGoesWrong : ChangeSpec := { name := "phaseGoes", fn := fun _ => fun
  | [d1, d2, d3] => { results := [.lit (.bool false)], args := [d1, d2, d3] }
  | _ => none }
def PhaseGoesWrongFalsely : Prop := phaseGoesRow.holds Try.pinned (OpenSpec.ofChange phaseGoesWrong)

/-- 'becketlaw20.PhaseStops': WHATEVER THE INPUT: true; the input reads as it did. -/
def phaseStopsSpec : ChangeSpec := { name := "phaseStops", fn := fun _ => fun
  | [d1, d2] => { results := [.lit (.bool true)], args := [d1, d2] }
  | _ => none }
def phaseStopsRow : OpenClaim := { program := "ytdddmgbbjifkdaa", sum := "7231498c32dbba1d4fbed56cbb528b81c588be3c45c7457050b3c74be75e9c1d", func := "becket/becketlaw20.PhaseStops", spec := "phaseStops", apart := false }
def PhaseStopsSaid : Prop := phaseStopsRow.holds Try.pinned (OpenSpec.ofChange phaseStopsSpec)

/-- ITS FALSE NEIGHBOUR: 'it returns false'. Refute it at one input. -/
def phaseStopsWrong : ChangeSpec := { name := "phaseStops", fn := fun _ => fun
  | [d1, d2] => { results := [.lit (.bool false)], args := [d1, d2] }
  | _ => none }
def PhaseStopsWrongFalsely : Prop := phaseStopsRow.holds Try.pinned (OpenSpec.ofChange phaseStopsWrong)

/-- 'becketlaw16.PoisonTells': WHATEVER THE INPUT: true; the input reads as it did. -/
def poisonTellsSpec : ChangeSpec := { name := "poisonTells", fn := fun _ => fun
  | [d1, d2] => { results := [.lit (.bool true)], args := [d1, d2] }
  | _ => none }
def poisonTellsRow : OpenClaim := { program := "ytdddmgbbjifkdaa", sum := "7231498c32dbba1d4fbed56cbb528b81c588be3c45c7457050b3c74be75e9c1d", func := "becket/becketlaw16.PoisonTells", spec := "poisonTells", apart := false }
def PoisonTellsSaid : Prop := poisonTellsRow.holds Try.pinned (OpenSpec.ofChange poisonTellsSpec)

/-- ITS FALSE NEIGHBOUR: 'it returns false'. Refute it at one input. -/
def poisonTellsWrong : ChangeSpec := { name := "poisonTells", fn := fun _ => fun
  | [d1, d2] => { results := [.lit (.bool false)], args := [d1, d2] }
  | _ => none }
def PoisonTellsWrongFalsely : Prop := poisonTellsRow.holds Try.pinned (OpenSpec.ofChange poisonTellsWrong)

/-- 'becketlaw16.PoisonMany': WHATEVER THE INPUT: true; the input reads as it did. -/
def poisonManySpec : ChangeSpec := { name := "poisonMany", fn := fun _ => fun
  | [d1, d2] => { results := [.lit (.bool true)], args := [d1, d2] }
  | _ => none }
def poisonManyRow : OpenClaim := { program := "ytdddmgbbjifkdaa", sum := "7231498c32dbba1d4fbed56cbb528b81c588be3c45c7457050b3c74be75e9c1d", func := "becket/becketlaw16.PoisonMany", spec := "poisonMany", apart := false }
def PoisonManySaid : Prop := poisonManyRow.holds Try.pinned (OpenSpec.ofChange poisonManySpec)

/-- ITS FALSE NEIGHBOUR: 'it returns false'. Refute it at one input. -/
def poisonManyWrong : ChangeSpec := { name := "poisonMany", fn := fun _ => fun
  | [d1, d2] => { results := [.lit (.bool false)], args := [d1, d2] }
  | _ => none }
def PoisonManyWrongFalsely : Prop := poisonManyRow.holds Try.pinned (OpenSpec.ofChange poisonManyWrong)

/-- 'becketlaw16.PoisonOrder': WHATEVER THE INPUT: true; the input reads as it did. -/
def poisonOrderSpec : ChangeSpec := { name := "poisonOrder", fn := fun _ => fun
  | [d1, d2] => { results := [.lit (.bool true)], args := [d1, d2] }
  | _ => none }
def poisonOrderRow : OpenClaim := { program := "ytdddmgbbjifkdaa", sum := "7231498c32dbba1d4fbed56cbb528b81c588be3c45c7457050b3c74be75e9c1d", func := "becket/becketlaw16.PoisonOrder", spec := "poisonOrder", apart := false }
def PoisonOrderSaid : Prop := poisonOrderRow.holds Try.pinned (OpenSpec.ofChange poisonOrderSpec)

/-- ITS FALSE NEIGHBOUR: 'it returns false'. Refute it at one input. -/
def poisonOrderWrong : ChangeSpec := { name := "poisonOrder", fn := fun _ => fun
  | [d1, d2] => { results := [.lit (.bool false)], args := [d1, d2] }
  | _ => none }
def PoisonOrderWrongFalsely : Prop := poisonOrderRow.holds Try.pinned (OpenSpec.ofChange poisonOrderWrong)

/- THE SECOND FORM. 'bulk': how many values and letters a reading holds, each counted each time it is reached (what is shared counts as often as it is met; a slice's spare places count too). A statement '..UptoSaid' is the law's where the arguments, and the package variables that the reading takes, are together of bulk at most 1048576: NARROWER than '..Said'. Prove '..Said' where nothing that the law and all that it calls make is longer than what came in: it says more and counts as full. Else prove '..UptoSaid'. A law counts once. -/
mutual
def uptoBulk {H : Type} : DataW H → Nat
  | .lit (.string bytes) => bytes.length + 1
  | .lit _ => 1
  | .nil => 1
  | .ptr d => uptoBulk d + 1
  | .slice elems spare => uptoBulkAll elems + uptoBulkAll spare + 1
  | .agg parts => uptoBulkAll parts + 1
  | .iface _ d => uptoBulk d + 1
  | .map entries => uptoBulkEntries entries + 1
  | .held _ => 1
def uptoBulkAll {H : Type} : List (DataW H) → Nat
  | [] => 0
  | d :: r => uptoBulk d + uptoBulkAll r
def uptoBulkEntries {H : Type} : List (Lit × DataW H) → Nat
  | [] => 0
  | x :: r => uptoBulkEntry x + uptoBulkEntries r
def uptoBulkEntry {H : Type} : Lit × DataW H → Nat
  | (.string bytes, d) => bytes.length + uptoBulk d + 1
  | (_, d) => uptoBulk d + 1
 end
def uptoSmall : (H : Type) → List (DataW H) → Bool := fun _ ds => decide (uptoBulkAll ds ≤ 1048576)
def OpenSpec.upto (s : _root_.Go.ChangeSpec) : _root_.Go.OpenSpec := { _root_.Go.OpenSpec.ofChange s with cond := some uptoSmall }

/-- 'becketlaw05.ClockTells', WHERE WHAT IT READS IS OF BULK AT MOST 1048576: true; the input reads as it did. -/
def clockTellsUptoRow : OpenClaim := { program := "ytdddmgbbjifkdaa", sum := "7231498c32dbba1d4fbed56cbb528b81c588be3c45c7457050b3c74be75e9c1d", func := "becket/becketlaw05.ClockTells", spec := "clockTells", apart := false, narrowed := true }
def ClockTellsUptoSaid : Prop := clockTellsUptoRow.holds Try.pinned (OpenSpec.upto clockTellsSpec)

/-- 'becketlaw05.ClockGoes', WHERE WHAT IT READS IS OF BULK AT MOST 1048576: true; the input reads as it did. -/
def clockGoesUptoRow : OpenClaim := { program := "ytdddmgbbjifkdaa", sum := "7231498c32dbba1d4fbed56cbb528b81c588be3c45c7457050b3c74be75e9c1d", func := "becket/becketlaw05.ClockGoes", spec := "clockGoes", apart := false, narrowed := true }
def ClockGoesUptoSaid : Prop := clockGoesUptoRow.holds Try.pinned (OpenSpec.upto clockGoesSpec)

/-- 'becketlaw05.ClockEnds', WHERE WHAT IT READS IS OF BULK AT MOST 1048576: true; the input reads as it did. -/
def clockEndsUptoRow : OpenClaim := { program := "ytdddmgbbjifkdaa", sum := "7231498c32dbba1d4fbed56cbb528b81c588be3c45c7457050b3c74be75e9c1d", func := "becket/becketlaw05.ClockEnds", spec := "clockEnds", apart := false, narrowed := true }
def ClockEndsUptoSaid : Prop := clockEndsUptoRow.holds Try.pinned (OpenSpec.upto clockEndsSpec)

/-- 'becketlaw20.PhaseTells', WHERE WHAT IT READS IS OF BULK AT MOST 1048576: true; the input reads as it did. -/
def phaseTellsUptoRow : OpenClaim := { program := "ytdddmgbbjifkdaa", sum := "7231498c32dbba1d4fbed56cbb528b81c588be3c45c7457050b3c74be75e9c1d", func := "becket/becketlaw20.PhaseTells", spec := "phaseTells", apart := false, narrowed := true }
def PhaseTellsUptoSaid : Prop := phaseTellsUptoRow.holds Try.pinned (OpenSpec.upto phaseTellsSpec)

/-- 'becketlaw20.PhaseGoes', WHERE WHAT IT READS IS OF BULK AT MOST 1048576: true; the input reads as it did. -/
def phaseGoesUptoRow : OpenClaim := { program := "ytdddmgbbjifkdaa", sum := "7231498c32dbba1d4fbed56cbb528b81c588be3c45c7457050b3c74be75e9c1d", func := "becket/becketlaw20.PhaseGoes", spec := "phaseGoes", apart := false, narrowed := true }
def PhaseGoesUptoSaid : Prop := phaseGoesUptoRow.holds Try.pinned (OpenSpec.upto phaseGoesSpec)

/-- 'becketlaw20.PhaseStops', WHERE WHAT IT READS IS OF BULK AT MOST 1048576: true; the input reads as it did. -/
def phaseStopsUptoRow : OpenClaim := { program := "ytdddmgbbjifkdaa", sum := "7231498c32dbba1d4fbed56cbb528b81c588be3c45c7457050b3c74be75e9c1d", func := "becket/becketlaw20.PhaseStops", spec := "phaseStops", apart := false, narrowed := true }
def PhaseStopsUptoSaid : Prop := phaseStopsUptoRow.holds Try.pinned (OpenSpec.upto phaseStopsSpec)

/-- 'becketlaw16.PoisonTells', WHERE WHAT IT READS IS OF BULK AT MOST 1048576: true; the input reads as it did. -/
def poisonTellsUptoRow : OpenClaim := { program := "ytdddmgbbjifkdaa", sum := "7231498c32dbba1d4fbed56cbb528b81c588be3c45c7457050b3c74be75e9c1d", func := "becket/becketlaw16.PoisonTells", spec := "poisonTells", apart := false, narrowed := true }
def PoisonTellsUptoSaid : Prop := poisonTellsUptoRow.holds Try.pinned (OpenSpec.upto poisonTellsSpec)

/-- 'becketlaw16.PoisonMany', WHERE WHAT IT READS IS OF BULK AT MOST 1048576: true; the input reads as it did. -/
def poisonManyUptoRow : OpenClaim := { program := "ytdddmgbbjifkdaa", sum := "7231498c32dbba1d4fbed56cbb528b81c588be3c45c7457050b3c74be75e9c1d", func := "becket/becketlaw16.PoisonMany", spec := "poisonMany", apart := false, narrowed := true }
def PoisonManyUptoSaid : Prop := poisonManyUptoRow.holds Try.pinned (OpenSpec.upto poisonManySpec)

/-- 'becketlaw16.PoisonOrder', WHERE WHAT IT READS IS OF BULK AT MOST 1048576: true; the input reads as it did. -/
def poisonOrderUptoRow : OpenClaim := { program := "ytdddmgbbjifkdaa", sum := "7231498c32dbba1d4fbed56cbb528b81c588be3c45c7457050b3c74be75e9c1d", func := "becket/becketlaw16.PoisonOrder", spec := "poisonOrder", apart := false, narrowed := true }
def PoisonOrderUptoSaid : Prop := poisonOrderUptoRow.holds Try.pinned (OpenSpec.upto poisonOrderSpec)

end Rows
end Go.Proofs.Ytdddmgbbjifkdaa
