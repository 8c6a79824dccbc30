-- Written by a program of this session over the translation (wip/tools/pprint.py). Not trusted: Lean checks it.
import Derived.Test.YteldaggcdnlpdaaProg
import Derived.Below
import Derived.Deep.Draws
import Derived.Deep.AppendLies
import Derived.Maps.AppendAt
import Derived.OwnWalk
import Derived.Laws.BytesArg
import Derived.Laws.MakeOwn
import Derived.Laws.OwnMore
import Derived.Deep.OwnRows
import Derived.Tactics
import Derived.Lib.ConvBytes
import Derived.Laws.Slices
import Derived.WalkKit
import Derived.KernelRfl
import Derived.RowKit3
import Derived.Deep.LoopGhost
import Derived.Deep.QuietTactic
import Derived.BigQuiet
import Derived.WideLaws
import Derived.Deep.DeepCutAuto
import Derived.Deep.CutBlock
import Derived.Deep.RegionHeld3
import Derived.Laws.Rows
import Derived.Lib.AppendStr
import Derived.ArgAppend
import Derived.Laws.IdiomCopy
import Derived.OrdersHeld
import Derived.Laws.BitsLemmas
import Derived.RowKit
import Derived.Test.YteldaggcdnlpdaaWWords
import Derived.Test.YteldaggcdnlpdaaWLast
import Derived.Test.YteldaggcdnlpdaaWTab
import Derived.Test.YteldaggcdnlpdaaWFour
import Derived.Test.YteldaggcdnlpdaaWQPut
import Derived.Test.YteldaggcdnlpdaaWApart
import Derived.Test.YteldaggcdnlpdaaWArr
import Derived.Test.YteldaggcdnlpdaaWZeros
import Derived.Test.YteldaggcdnlpdaaWFoot
import Derived.Test.YteldaggcdnlpdaaWKept
import Derived.Test.YteldaggcdnlpdaaWShare
import Derived.Test.YteldaggcdnlpdaaWN
import Derived.Test.YteldaggcdnlpdaaWFootNe
import Derived.Test.YteldaggcdnlpdaaWAt
import Derived.Test.YteldaggcdnlpdaaWEqStruct
import Derived.Test.YteldaggcdnlpdaaWRepsOne
import Derived.Test.YteldaggcdnlpdaaWInv
import Derived.Test.YteldaggcdnlpdaaWInvWords
import Derived.Test.YteldaggcdnlpdaaWGuard
import Derived.Test.YteldaggcdnlpdaaWNEv
import Derived.Test.YteldaggcdnlpdaaWMore
namespace Go.Proofs.Yteldaggcdnlpdaa.PP
open Go.RowKit Go.Proofs.YteldaggcdnlpdaaW.PrintWords Go.Proofs.YteldaggcdnlpdaaW.PrintLast Go.Proofs.YteldaggcdnlpdaaW.PrintMore
attribute [local go_sem] max2_int min2_int max_two min_two max_three min_three max_four min_four   -- for this text's walks alone
set_option linter.unusedVariables false
set_option linter.unusedSimpArgs false



def errW : Option Int → Value
  | none => .nilIface
  | some c => .iface 0 (.int .i64 c)
theorem errW_none : errW none = .nilIface := rfl
theorem errW_some (c : Int) : errW (some c) = .iface 0 (.int .i64 c) := rfl

-- the values' own types

end Go.Proofs.Yteldaggcdnlpdaa.PP
