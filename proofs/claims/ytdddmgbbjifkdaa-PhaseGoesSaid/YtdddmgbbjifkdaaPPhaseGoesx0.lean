-- PRINTED BY print.sh 35421559b90ae4d0a3588c463048766b98c2df88dd9212a6774a882060cdf62d: not written by this session
import Derived.Test.YtdddmgbbjifkdaaProg
import Derived.Below
import Derived.Deep.Draws
import Derived.Deep.AppendLies
import Derived.Maps.AppendAt
import Derived.OwnWalk
import Derived.Laws.BytesArg
import Derived.Laws.MakeOwn
import Derived.Laws.OwnMore
import Derived.Deep.OwnRows
import Derived.Tactics
import Derived.Lib.ConvBytes
import Derived.Laws.Slices
import Derived.WalkKit
import Derived.KernelRfl
import Derived.RowKit3
import Derived.Deep.LoopGhost
import Derived.Deep.QuietTactic
import Derived.BigQuiet
import Derived.WideLaws
import Derived.Deep.DeepCutAuto
import Derived.Deep.CutBlock
import Derived.Deep.RegionHeld3
import Derived.Laws.Rows
import Derived.Lib.AppendStr
import Derived.ArgAppend
import Derived.Laws.IdiomCopy
import Derived.OrdersHeld
import Derived.Laws.BitsLemmas
import Derived.RowKit
import Derived.Test.YtdddmgbbjifkdaaWWords
import Derived.Test.YtdddmgbbjifkdaaWLast
import Derived.Test.YtdddmgbbjifkdaaWTab
import Derived.Test.YtdddmgbbjifkdaaWFour
import Derived.Test.YtdddmgbbjifkdaaWQPut
import Derived.Test.YtdddmgbbjifkdaaWApart
import Derived.Test.YtdddmgbbjifkdaaWArr
import Derived.Test.YtdddmgbbjifkdaaWZeros
import Derived.Test.YtdddmgbbjifkdaaWFoot
import Derived.Test.YtdddmgbbjifkdaaWKept
import Derived.Test.YtdddmgbbjifkdaaWShare
import Derived.Test.YtdddmgbbjifkdaaWN
import Derived.Test.YtdddmgbbjifkdaaWFootNe
import Derived.Test.YtdddmgbbjifkdaaWAt
import Derived.Test.YtdddmgbbjifkdaaWEqStruct
import Derived.Test.YtdddmgbbjifkdaaWRepsOne
import Derived.Test.YtdddmgbbjifkdaaWInv
import Derived.Test.YtdddmgbbjifkdaaWInvWords
import Derived.Test.YtdddmgbbjifkdaaWGuard
import Derived.Test.YtdddmgbbjifkdaaWNEv
import Derived.Test.YtdddmgbbjifkdaaWMore
namespace Go.Proofs.Ytdddmgbbjifkdaa.PPhaseGoes
open Go.RowKit Go.Proofs.YtdddmgbbjifkdaaW.PrintWords Go.Proofs.YtdddmgbbjifkdaaW.PrintLast Go.Proofs.YtdddmgbbjifkdaaW.PrintMore
attribute [local go_sem] max2_int min2_int max_two min_two max_three min_three max_four min_four   -- for this text's walks alone
set_option linter.unusedVariables false
set_option linter.unusedSimpArgs false



def errW : Option Int → Value
  | none => .nilIface
  | some c => .iface 0 (.int .i64 c)
theorem errW_none : errW none = .nilIface := rfl
theorem errW_some (c : Int) : errW (some c) = .iface 0 (.int .i64 c) := rfl

-- the values' own types

end Go.Proofs.Ytdddmgbbjifkdaa.PPhaseGoes
