-- Written by a program of this session (wip/tools/pp.py) out of the translation; Lean checks it.
import Derived.Test.YtgakeihdnlmeaaaProg
import Derived.Below
import Derived.Deep.Draws
import Derived.Deep.AppendLies
import Derived.Maps.AppendAt
import Derived.OwnWalk
import Derived.Laws.BytesArg
import Derived.Laws.MakeOwn
import Derived.Laws.OwnMore
import Derived.Deep.OwnRows
import Derived.Tactics
import Derived.Lib.ConvBytes
import Derived.Laws.Slices
import Derived.WalkKit
import Derived.KernelRfl
import Derived.RowKit3
import Derived.Deep.LoopGhost
import Derived.Deep.QuietTactic
import Derived.BigQuiet
import Derived.WideLaws
import Derived.Deep.DeepCutAuto
import Derived.Deep.CutBlock
import Derived.Deep.RegionHeld3
import Derived.Laws.Rows
import Derived.Lib.AppendStr
import Derived.ArgAppend
import Derived.Laws.IdiomCopy
import Derived.OrdersHeld
import Derived.Laws.BitsLemmas
import Derived.RowKit
import Derived.Test.YtgakeihdnlmeaaaWWords
import Derived.Test.YtgakeihdnlmeaaaWLast
import Derived.Test.YtgakeihdnlmeaaaWTab
import Derived.Test.YtgakeihdnlmeaaaWFour
import Derived.Test.YtgakeihdnlmeaaaWQPut
import Derived.Test.YtgakeihdnlmeaaaWApart
import Derived.Test.YtgakeihdnlmeaaaWArr
import Derived.Test.YtgakeihdnlmeaaaWZeros
import Derived.Test.YtgakeihdnlmeaaaWFoot
import Derived.Test.YtgakeihdnlmeaaaWKept
import Derived.Test.YtgakeihdnlmeaaaWShare
import Derived.Test.YtgakeihdnlmeaaaWN
import Derived.Test.YtgakeihdnlmeaaaWFootNe
import Derived.Test.YtgakeihdnlmeaaaWAt
import Derived.Test.YtgakeihdnlmeaaaWEqStruct
import Derived.Test.YtgakeihdnlmeaaaWRepsOne
import Derived.Test.YtgakeihdnlmeaaaWInv
import Derived.Test.YtgakeihdnlmeaaaWInvWords
import Derived.Test.YtgakeihdnlmeaaaWGuard
import Derived.Test.YtgakeihdnlmeaaaWNEv
import Derived.Test.YtgakeihdnlmeaaaWMore
import Derived.Test.YtgakeihdnlmeaaaGi
namespace Go.Proofs.Ytgakeihdnlmeaaa.L
open Go.RowKit Go.Proofs.YtgakeihdnlmeaaaW.PrintWords Go.Proofs.YtgakeihdnlmeaaaW.PrintLast Go.Proofs.YtgakeihdnlmeaaaW.PrintMore
open Go.Proofs.Ytgakeihdnlmeaaa.S
attribute [local go_sem] max2_int min2_int max_two min_two max_three min_three max_four min_four   -- for this text's walks alone
set_option linter.unusedVariables false
set_option linter.unusedSimpArgs false



def errW : Option Int → Value
  | none => .nilIface
  | some c => .iface 0 (.int .i64 c)
theorem errW_none : errW none = .nilIface := rfl
theorem errW_some (c : Int) : errW (some c) = .iface 0 (.int .i64 c) := rfl

-- the values' own types

end Go.Proofs.Ytgakeihdnlmeaaa.L
