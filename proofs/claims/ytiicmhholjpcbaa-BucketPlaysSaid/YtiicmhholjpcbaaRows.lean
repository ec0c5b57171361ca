/-
  No cell of these rows narrows 'for every input' (looked for: loops, veiled, ifaces, maps, wideKeys, modest, calm, conditions, laid).
  DERIVED. THE GIVEN ROWS OF THIS SEAT. 12 by the template 'for every input the law returns true; each argument reads behind the call as it read before'; 0 by the template 'total and deterministic' (their statements: YtiicmhholjpcbaaTotals.lean).
  GIVEN WITH THE SEED: the statements are not yours to turn. If you find one false, say at which input.
  Laid BY PROGRAM, IN A SANDBOX (cutbox-rows.mjs): the forced cells as the released guide's own fill.sh prints them over the translation 627bdd75a12722e1… (all of the seat's roots in one cut). By AI agents, Wed Nov 11 2026. No macro, syntax, notation, axiom, sorry.
-/
import Derived.Test.YtiicmhholjpcbaaChecked
import GoSem.Claim
import GoSem.ClaimJoined
import GoSem.ClaimMapViews
import Derived.JoinedTies
import Derived.KernelRfl
namespace Go.Proofs.Ytiicmhholjpcbaa
/- THE CELL 'sum', in the pinned program and in every row, IS THE sha256 OF THE DUMP (.gsa) THAT YtiicmhholjpcbaaProg.lean LOADS. Nothing in Lean hashes anything: it is a label: what it is worth is what the hold of that sum in a sandbox is worth. -/
noncomputable def Try.pinned : Pinned := { name := "ytiicmhholjpcbaa", sum := "627bdd75a12722e11132441fd96b3ed89f23b279f6c14e10908db4f63d0b382f", checked := Try.checked }
namespace Rows
def none {H : Type} : Left H := { results := [], args := [] }

/-- 'becketlaw02.ArenaOnce': WHATEVER THE INPUT: true; the input reads as it did. -/
def arenaOnceSpec : ChangeSpec := { name := "arenaOnce", fn := fun _ => fun
  | [d1, d2, d3] => { results := [.lit (.bool true)], args := [d1, d2, d3] }
  | _ => none }
def arenaOnceRow : OpenClaim := { program := "ytiicmhholjpcbaa", sum := "627bdd75a12722e11132441fd96b3ed89f23b279f6c14e10908db4f63d0b382f", func := "becket/becketlaw02.ArenaOnce", spec := "arenaOnce", apart := false }
def ArenaOnceSaid : Prop := arenaOnceRow.holds Try.pinned (OpenSpec.ofChange arenaOnceSpec)

/-- ITS FALSE NEIGHBOUR: 'it returns false'. Refute it at one input. -/
def arenaOnceWrong : ChangeSpec := { name := "arenaOnce", fn := fun _ => fun
  | [d1, d2, d3] => { results := [.lit (.bool false)], args := [d1, d2, d3] }
  | _ => none }
def ArenaOnceWrongFalsely : Prop := arenaOnceRow.holds Try.pinned (OpenSpec.ofChange arenaOnceWrong)

/-- 'becketlaw02.ArenaPlays': WHATEVER THE INPUT: true; the input reads as it did. -/
def arenaPlaysSpec : ChangeSpec := { name := "arenaPlays", fn := fun _ => fun
  | [d1, d2, d3] => { results := [.lit (.bool true)], args := [d1, d2, d3] }
  | _ => none }
def arenaPlaysRow : OpenClaim := { program := "ytiicmhholjpcbaa", sum := "627bdd75a12722e11132441fd96b3ed89f23b279f6c14e10908db4f63d0b382f", func := "becket/becketlaw02.ArenaPlays", spec := "arenaPlays", apart := false }
def ArenaPlaysSaid : Prop := arenaPlaysRow.holds Try.pinned (OpenSpec.ofChange arenaPlaysSpec)

/-- ITS FALSE NEIGHBOUR: 'it returns false'. Refute it at one input. -/
def arenaPlaysWrong : ChangeSpec := { name := "arenaPlays", fn := fun _ => fun
  | [d1, d2, d3] => { results := [.lit (.bool false)], args := [d1, d2, d3] }
  | _ => none }
def ArenaPlaysWrongFalsely : Prop := arenaPlaysRow.holds Try.pinned (OpenSpec.ofChange arenaPlaysWrong)

/-- 'becketlaw02.ArenaNobody': WHATEVER THE INPUT: true; the input reads as it did. -/
def arenaNobodySpec : ChangeSpec := { name := "arenaNobody", fn := fun _ => fun
  | [d1, d2] => { results := [.lit (.bool true)], args := [d1, d2] }
  | _ => none }
def arenaNobodyRow : OpenClaim := { program := "ytiicmhholjpcbaa", sum := "627bdd75a12722e11132441fd96b3ed89f23b279f6c14e10908db4f63d0b382f", func := "becket/becketlaw02.ArenaNobody", spec := "arenaNobody", apart := false }
def ArenaNobodySaid : Prop := arenaNobodyRow.holds Try.pinned (OpenSpec.ofChange arenaNobodySpec)

/-- ITS FALSE NEIGHBOUR: 'it returns false'. Refute it at one input. -/
def arenaNobodyWrong : ChangeSpec := { name := "arenaNobody", fn := fun _ => fun
  | [d1, d2] => { results := [.lit (.bool false)], args := [d1, d2] }
  | _ => none }
def ArenaNobodyWrongFalsely : Prop := arenaNobodyRow.holds Try.pinned (OpenSpec.ofChange arenaNobodyWrong)

/-- 'becketlaw03.QueuePlays': WHATEVER THE INPUT: true; the input reads as it did. -/
def queuePlaysSpec : ChangeSpec := { name := "queuePlays", fn := fun _ => fun
  | [d1, d2, d3] => { results := [.lit (.bool true)], args := [d1, d2, d3] }
  | _ => none }
def queuePlaysRow : OpenClaim := { program := "ytiicmhholjpcbaa", sum := "627bdd75a12722e11132441fd96b3ed89f23b279f6c14e10908db4f63d0b382f", func := "becket/becketlaw03.QueuePlays", spec := "queuePlays", apart := false }
def QueuePlaysSaid : Prop := queuePlaysRow.holds Try.pinned (OpenSpec.ofChange queuePlaysSpec)

/-- ITS FALSE NEIGHBOUR: 'it returns false'. Refute it at one input. -/
def queuePlaysWrong : ChangeSpec := { name := "queuePlays", fn := fun _ => fun
  | [d1, d2, d3] => { results := [.lit (.bool false)], args := [d1, d2, d3] }
  | _ => none }
def QueuePlaysWrongFalsely : Prop := queuePlaysRow.holds Try.pinned (OpenSpec.ofChange queuePlaysWrong)

/-- 'becketlaw03.QueueOrder': WHATEVER THE INPUT: true; the input reads as it did. -/
def queueOrderSpec : ChangeSpec := { name := "queueOrder", fn := fun _ => fun
  | [d] => { results := [.lit (.bool true)], args := [d] }
  | _ => none }
def queueOrderRow : OpenClaim := { program := "ytiicmhholjpcbaa", sum := "627bdd75a12722e11132441fd96b3ed89f23b279f6c14e10908db4f63d0b382f", func := "becket/becketlaw03.QueueOrder", spec := "queueOrder", apart := false }
def QueueOrderSaid : Prop := queueOrderRow.holds Try.pinned (OpenSpec.ofChange queueOrderSpec)

/-- ITS FALSE NEIGHBOUR: 'it returns false'. Refute it at one input. -/
def queueOrderWrong : ChangeSpec := { name := "queueOrder", fn := fun _ => fun
  | [d] => { results := [.lit (.bool false)], args := [d] }
  | _ => none }
def QueueOrderWrongFalsely : Prop := queueOrderRow.holds Try.pinned (OpenSpec.ofChange queueOrderWrong)

/-- 'becketlaw03.QueueNobody': WHATEVER THE INPUT: true; the input reads as it did. -/
def queueNobodySpec : ChangeSpec := { name := "queueNobody", fn := fun _ => fun
  | [d1, d2] => { results := [.lit (.bool true)], args := [d1, d2] }
  | _ => none }
def queueNobodyRow : OpenClaim := { program := "ytiicmhholjpcbaa", sum := "627bdd75a12722e11132441fd96b3ed89f23b279f6c14e10908db4f63d0b382f", func := "becket/becketlaw03.QueueNobody", spec := "queueNobody", apart := false }
def QueueNobodySaid : Prop := queueNobodyRow.holds Try.pinned (OpenSpec.ofChange queueNobodySpec)

/-- ITS FALSE NEIGHBOUR: 'it returns false'. Refute it at one input. -/
def queueNobodyWrong : ChangeSpec := { name := "queueNobody", fn := fun _ => fun
  | [d1, d2] => { results := [.lit (.bool false)], args := [d1, d2] }
  | _ => none }
def QueueNobodyWrongFalsely : Prop := queueNobodyRow.holds Try.pinned (OpenSpec.ofChange queueNobodyWrong)

/-- 'becketlaw24.BucketPlays': WHATEVER THE INPUT: true; the input reads as it did. -/
def bucketPlaysSpec : ChangeSpec := { name := "bucketPlays", fn := fun _ => fun
  | [d1, d2] => { results := [.lit (.bool true)], args := [d1, d2] }
  | _ => none }
def bucketPlaysRow : OpenClaim := { program := "ytiicmhholjpcbaa", sum := "627bdd75a12722e11132441fd96b3ed89f23b279f6c14e10908db4f63d0b382f", func := "becket/becketlaw24.BucketPlays", spec := "bucketPlays", apart := false }
def BucketPlaysSaid : Prop := bucketPlaysRow.holds Try.pinned (OpenSpec.ofChange bucketPlaysSpec)

/-- ITS FALSE NEIGHBOUR: 'it returns false'. Refute it at one input. -/
def bucketPlaysWrong : ChangeSpec := { name := "bucketPlays", fn := fun _ => fun
  | [d1, d2] => { results := [.lit (.bool false)], args := [d1, d2] }
  | _ => none }
def BucketPlaysWrongFalsely : Prop := bucketPlaysRow.holds Try.pinned (OpenSpec.ofChange bucketPlaysWrong)

/-- 'becketlaw24.BucketOnce': WHATEVER THE INPUT: true; the input reads as it did. -/
def bucketOnceSpec : ChangeSpec := { name := "bucketOnce", fn := fun _ => fun
  | [d] => { results := [.lit (.bool true)], args := [d] }
  | _ => none }
def bucketOnceRow : OpenClaim := { program := "ytiicmhholjpcbaa", sum := "627bdd75a12722e11132441fd96b3ed89f23b279f6c14e10908db4f63d0b382f", func := "becket/becketlaw24.BucketOnce", spec := "bucketOnce", apart := false }
def BucketOnceSaid : Prop := bucketOnceRow.holds Try.pinned (OpenSpec.ofChange bucketOnceSpec)

/-- ITS FALSE NEIGHBOUR: 'it returns false'. Refute it at one input. -/
def bucketOnceWrong : ChangeSpec := { name := "bucketOnce", fn := fun _ => fun
  | [d] => { results := [.lit (.bool false)], args := [d] }
  | _ => none }
def BucketOnceWrongFalsely : Prop := bucketOnceRow.holds Try.pinned (OpenSpec.ofChange bucketOnceWrong)

/-- 'becketlaw24.BucketNobody': WHATEVER THE INPUT: true; the input reads as it did. -/
def bucketNobodySpec : ChangeSpec := { name := "bucketNobody", fn := fun _ => fun
  | [d1, d2] => { results := [.lit (.bool true)], args := [d1, d2] }
  | _ => none }
def bucketNobodyRow : OpenClaim := { program := "ytiicmhholjpcbaa", sum := "627bdd75a12722e11132441fd96b3ed89f23b279f6c14e10908db4f63d0b382f", func := "becket/becketlaw24.BucketNobody", spec := "bucketNobody", apart := false }
def BucketNobodySaid : Prop := bucketNobodyRow.holds Try.pinned (OpenSpec.ofChange bucketNobodySpec)

/-- ITS FALSE NEIGHBOUR: 'it returns false'. Refute it at one input. -/
def bucketNobodyWrong : ChangeSpec := { name := "bucketNobody", fn := fun _ => fun
  | [d1, d2] => { results := [.lit (.bool false)], args := [d1, d2] }
  | _ => none }
def BucketNobodyWrongFalsely : Prop := bucketNobodyRow.holds Try.pinned (OpenSpec.ofChange bucketNobodyWrong)

/-- 'becketlaw26.OffersPlay': WHATEVER THE INPUT: true; the input reads as it did. -/
def offersPlaySpec : ChangeSpec := { name := "offersPlay", fn := fun _ => fun
  | [d1, d2] => { results := [.lit (.bool true)], args := [d1, d2] }
  | _ => none }
def offersPlayRow : OpenClaim := { program := "ytiicmhholjpcbaa", sum := "627bdd75a12722e11132441fd96b3ed89f23b279f6c14e10908db4f63d0b382f", func := "becket/becketlaw26.OffersPlay", spec := "offersPlay", apart := false }
def OffersPlaySaid : Prop := offersPlayRow.holds Try.pinned (OpenSpec.ofChange offersPlaySpec)

/-- ITS FALSE NEIGHBOUR: 'it returns false'. Refute it at one input. -/
def offersPlayWrong : ChangeSpec := { name := "offersPlay", fn := fun _ => fun
  | [d1, d2] => { results := [.lit (.bool false)], args := [d1, d2] }
  | _ => none }
def OffersPlayWrongFalsely : Prop := offersPlayRow.holds Try.pinned (OpenSpec.ofChange offersPlayWrong)

/-- 'becketlaw26.OffersKeep': WHATEVER THE INPUT: true; the input reads as it did. -/
def offersKeepSpec : ChangeSpec := { name := "offersKeep", fn := fun _ => fun
  | [d] => { results := [.lit (.bool true)], args := [d] }
  | _ => none }
def offersKeepRow : OpenClaim := { program := "ytiicmhholjpcbaa", sum := "627bdd75a12722e11132441fd96b3ed89f23b279f6c14e10908db4f63d0b382f", func := "becket/becketlaw26.OffersKeep", spec := "offersKeep", apart := false }
def OffersKeepSaid : Prop := offersKeepRow.holds Try.pinned (OpenSpec.ofChange offersKeepSpec)

/-- ITS FALSE NEIGHBOUR: 'it returns false'. Refute it at one input. -/
def offersKeepWrong : ChangeSpec := { name := "offersKeep", fn := fun _ => fun
  | [d] => { results := [.lit (.bool false)], args := [d] }
  | _ => none }
def OffersKeepWrongFalsely : Prop := offersKeepRow.holds Try.pinned (OpenSpec.ofChange offersKeepWrong)

/-- 'becketlaw26.OffersNobody': WHATEVER THE INPUT: true; the input reads as it did. -/
def offersNobodySpec : ChangeSpec := { name := "offersNobody", fn := fun _ => fun
  | [d1, d2] => { results := [.lit (.bool true)], args := [d1, d2] }
  | _ => none }
def offersNobodyRow : OpenClaim := { program := "ytiicmhholjpcbaa", sum := "627bdd75a12722e11132441fd96b3ed89f23b279f6c14e10908db4f63d0b382f", func := "becket/becketlaw26.OffersNobody", spec := "offersNobody", apart := false }
def OffersNobodySaid : Prop := offersNobodyRow.holds Try.pinned (OpenSpec.ofChange offersNobodySpec)

/-- ITS FALSE NEIGHBOUR: 'it returns false'. Refute it at one input. -/
def offersNobodyWrong : ChangeSpec := { name := "offersNobody", fn := fun _ => fun
  | [d1, d2] => { results := [.lit (.bool false)], args := [d1, d2] }
  | _ => none }
def OffersNobodyWrongFalsely : Prop := offersNobodyRow.holds Try.pinned (OpenSpec.ofChange offersNobodyWrong)

/- THE SECOND FORM. 'bulk': how many values and letters a reading holds, each counted each time it is reached (what is shared counts as often as it is met; a slice's spare places count too). A statement '..UptoSaid' is the law's where the arguments, and the package variables that the reading takes, are together of bulk at most 1048576: NARROWER than '..Said'. Prove '..Said' where nothing that the law and all that it calls make is longer than what came in: it says more and counts as full. Else prove '..UptoSaid'. A law counts once. -/
mutual
def uptoBulk {H : Type} : DataW H → Nat
  | .lit (.string bytes) => bytes.length + 1
  | .lit _ => 1
  | .nil => 1
  | .ptr d => uptoBulk d + 1
  | .slice elems spare => uptoBulkAll elems + uptoBulkAll spare + 1
  | .agg parts => uptoBulkAll parts + 1
  | .iface _ d => uptoBulk d + 1
  | .map entries => uptoBulkEntries entries + 1
  | .held _ => 1
def uptoBulkAll {H : Type} : List (DataW H) → Nat
  | [] => 0
  | d :: r => uptoBulk d + uptoBulkAll r
def uptoBulkEntries {H : Type} : List (Lit × DataW H) → Nat
  | [] => 0
  | x :: r => uptoBulkEntry x + uptoBulkEntries r
def uptoBulkEntry {H : Type} : Lit × DataW H → Nat
  | (.string bytes, d) => bytes.length + uptoBulk d + 1
  | (_, d) => uptoBulk d + 1
 end
def uptoSmall : (H : Type) → List (DataW H) → Bool := fun _ ds => decide (uptoBulkAll ds ≤ 1048576)
def OpenSpec.upto (s : _root_.Go.ChangeSpec) : _root_.Go.OpenSpec := { _root_.Go.OpenSpec.ofChange s with cond := some uptoSmall }

/-- 'becketlaw02.ArenaOnce', WHERE WHAT IT READS IS OF BULK AT MOST 1048576: true; the input reads as it did. -/
def arenaOnceUptoRow : OpenClaim := { program := "ytiicmhholjpcbaa", sum := "627bdd75a12722e11132441fd96b3ed89f23b279f6c14e10908db4f63d0b382f", func := "becket/becketlaw02.ArenaOnce", spec := "arenaOnce", apart := false, narrowed := true }
def ArenaOnceUptoSaid : Prop := arenaOnceUptoRow.holds Try.pinned (OpenSpec.upto arenaOnceSpec)

/-- 'becketlaw02.ArenaPlays', WHERE WHAT IT READS IS OF BULK AT MOST 1048576: true; the input reads as it did. -/
def arenaPlaysUptoRow : OpenClaim := { program := "ytiicmhholjpcbaa", sum := "627bdd75a12722e11132441fd96b3ed89f23b279f6c14e10908db4f63d0b382f", func := "becket/becketlaw02.ArenaPlays", spec := "arenaPlays", apart := false, narrowed := true }
def ArenaPlaysUptoSaid : Prop := arenaPlaysUptoRow.holds Try.pinned (OpenSpec.upto arenaPlaysSpec)

/-- 'becketlaw02.ArenaNobody', WHERE WHAT IT READS IS OF BULK AT MOST 1048576: true; the input reads as it did. -/
def arenaNobodyUptoRow : OpenClaim := { program := "ytiicmhholjpcbaa", sum := "627bdd75a12722e11132441fd96b3ed89f23b279f6c14e10908db4f63d0b382f", func := "becket/becketlaw02.ArenaNobody", spec := "arenaNobody", apart := false, narrowed := true }
def ArenaNobodyUptoSaid : Prop := arenaNobodyUptoRow.holds Try.pinned (OpenSpec.upto arenaNobodySpec)

/-- 'becketlaw03.QueuePlays', WHERE WHAT IT READS IS OF BULK AT MOST 1048576: true; the input reads as it did. -/
def queuePlaysUptoRow : OpenClaim := { program := "ytiicmhholjpcbaa", sum := "627bdd75a12722e11132441fd96b3ed89f23b279f6c14e10908db4f63d0b382f", func := "becket/becketlaw03.QueuePlays", spec := "queuePlays", apart := false, narrowed := true }
def QueuePlaysUptoSaid : Prop := queuePlaysUptoRow.holds Try.pinned (OpenSpec.upto queuePlaysSpec)

/-- 'becketlaw03.QueueOrder', WHERE WHAT IT READS IS OF BULK AT MOST 1048576: true; the input reads as it did. -/
def queueOrderUptoRow : OpenClaim := { program := "ytiicmhholjpcbaa", sum := "627bdd75a12722e11132441fd96b3ed89f23b279f6c14e10908db4f63d0b382f", func := "becket/becketlaw03.QueueOrder", spec := "queueOrder", apart := false, narrowed := true }
def QueueOrderUptoSaid : Prop := queueOrderUptoRow.holds Try.pinned (OpenSpec.upto queueOrderSpec)

/-- 'becketlaw03.QueueNobody', WHERE WHAT IT READS IS OF BULK AT MOST 1048576: true; the input reads as it did. -/
def queueNobodyUptoRow : OpenClaim := { program := "ytiicmhholjpcbaa", sum := "627bdd75a12722e11132441fd96b3ed89f23b279f6c14e10908db4f63d0b382f", func := "becket/becketlaw03.QueueNobody", spec := "queueNobody", apart := false, narrowed := true }
def QueueNobodyUptoSaid : Prop := queueNobodyUptoRow.holds Try.pinned (OpenSpec.upto queueNobodySpec)

/-- 'becketlaw24.BucketPlays', WHERE WHAT IT READS IS OF BULK AT MOST 1048576: true; the input reads as it did. -/
def bucketPlaysUptoRow : OpenClaim := { program := "ytiicmhholjpcbaa", sum := "627bdd75a12722e11132441fd96b3ed89f23b279f6c14e10908db4f63d0b382f", func := "becket/becketlaw24.BucketPlays", spec := "bucketPlays", apart := false, narrowed := true }
def BucketPlaysUptoSaid : Prop := bucketPlaysUptoRow.holds Try.pinned (OpenSpec.upto bucketPlaysSpec)

/-- 'becketlaw24.BucketOnce', WHERE WHAT IT READS IS OF BULK AT MOST 1048576: true; the input reads as it did. -/
def bucketOnceUptoRow : OpenClaim := { program := "ytiicmhholjpcbaa", sum := "627bdd75a12722e11132441fd96b3ed89f23b279f6c14e10908db4f63d0b382f", func := "becket/becketlaw24.BucketOnce", spec := "bucketOnce", apart := false, narrowed := true }
def BucketOnceUptoSaid : Prop := bucketOnceUptoRow.holds Try.pinned (OpenSpec.upto bucketOnceSpec)

/-- 'becketlaw24.BucketNobody', WHERE WHAT IT READS IS OF BULK AT MOST 1048576: true; the input reads as it did. -/
def bucketNobodyUptoRow : OpenClaim := { program := "ytiicmhholjpcbaa", sum := "627bdd75a12722e11132441fd96b3ed89f23b279f6c14e10908db4f63d0b382f", func := "becket/becketlaw24.BucketNobody", spec := "bucketNobody", apart := false, narrowed := true }
def BucketNobodyUptoSaid : Prop := bucketNobodyUptoRow.holds Try.pinned (OpenSpec.upto bucketNobodySpec)

/-- 'becketlaw26.OffersPlay', WHERE WHAT IT READS IS OF BULK AT MOST 1048576: true; the input reads as it did. -/
def offersPlayUptoRow : OpenClaim := { program := "ytiicmhholjpcbaa", sum := "627bdd75a12722e11132441fd96b3ed89f23b279f6c14e10908db4f63d0b382f", func := "becket/becketlaw26.OffersPlay", spec := "offersPlay", apart := false, narrowed := true }
def OffersPlayUptoSaid : Prop := offersPlayUptoRow.holds Try.pinned (OpenSpec.upto offersPlaySpec)

/-- 'becketlaw26.OffersKeep', WHERE WHAT IT READS IS OF BULK AT MOST 1048576: true; the input reads as it did. -/
def offersKeepUptoRow : OpenClaim := { program := "ytiicmhholjpcbaa", sum := "627bdd75a12722e11132441fd96b3ed89f23b279f6c14e10908db4f63d0b382f", func := "becket/becketlaw26.OffersKeep", spec := "offersKeep", apart := false, narrowed := true }
def OffersKeepUptoSaid : Prop := offersKeepUptoRow.holds Try.pinned (OpenSpec.upto offersKeepSpec)

/-- 'becketlaw26.OffersNobody', WHERE WHAT IT READS IS OF BULK AT MOST 1048576: true; the input reads as it did. -/
def offersNobodyUptoRow : OpenClaim := { program := "ytiicmhholjpcbaa", sum := "627bdd75a12722e11132441fd96b3ed89f23b279f6c14e10908db4f63d0b382f", func := "becket/becketlaw26.OffersNobody", spec := "offersNobody", apart := false, narrowed := true }
def OffersNobodyUptoSaid : Prop := offersNobodyUptoRow.holds Try.pinned (OpenSpec.upto offersNobodySpec)

end Rows
end Go.Proofs.Ytiicmhholjpcbaa
