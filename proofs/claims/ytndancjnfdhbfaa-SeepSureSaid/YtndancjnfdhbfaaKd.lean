-- Written by a program of this session (wip/tools/kinds.sh) out of the translation: the kinds of elements; Lean checks it.
import Derived.Test.YtndancjnfdhbfaaProg
import Derived.Below
import Derived.Deep.Draws
import Derived.Deep.AppendLies
import Derived.Maps.AppendAt
import Derived.OwnWalk
import Derived.Laws.BytesArg
import Derived.Laws.MakeOwn
import Derived.Laws.OwnMore
import Derived.Deep.OwnRows
import Derived.Tactics
import Derived.Lib.ConvBytes
import Derived.Laws.Slices
import Derived.WalkKit
import Derived.KernelRfl
import Derived.RowKit3
import Derived.Deep.LoopGhost
import Derived.Deep.QuietTactic
import Derived.BigQuiet
import Derived.WideLaws
import Derived.Deep.DeepCutAuto
import Derived.Deep.CutBlock
import Derived.Deep.RegionHeld3
import Derived.Laws.Rows
import Derived.Lib.AppendStr
import Derived.ArgAppend
import Derived.Laws.IdiomCopy
import Derived.OrdersHeld
import Derived.Laws.BitsLemmas
import Derived.RowKit
import Derived.Test.YtndancjnfdhbfaaWWords
import Derived.Test.YtndancjnfdhbfaaWLast
import Derived.Test.YtndancjnfdhbfaaWTab
import Derived.Test.YtndancjnfdhbfaaWQPut
import Derived.Test.YtndancjnfdhbfaaWApart
import Derived.Test.YtndancjnfdhbfaaWFoot
import Derived.Test.YtndancjnfdhbfaaWKept
import Derived.Test.YtndancjnfdhbfaaWShare
import Derived.Test.YtndancjnfdhbfaaWN
import Derived.Test.YtndancjnfdhbfaaWAt
import Derived.Test.YtndancjnfdhbfaaWEqStruct
import Derived.Test.YtndancjnfdhbfaaWRepsOne
import Derived.Test.YtndancjnfdhbfaaWInv
import Derived.Test.YtndancjnfdhbfaaWGuard
import Derived.Test.YtndancjnfdhbfaaWMore
namespace Go.Proofs.Ytndancjnfdhbfaa.S
open Go.RowKit Go.Proofs.YtndancjnfdhbfaaW.PrintWords Go.Proofs.YtndancjnfdhbfaaW.PrintLast Go.Proofs.YtndancjnfdhbfaaW.PrintMore
set_option linter.unusedVariables false
set_option linter.unusedSimpArgs false
-- the values' own types
/-! #### struct type 90 -/
structure S90 where
  f0 : Int
  f1 : Int
def k90 : Kd S90 := Kd.iso (Kd.pair (Kd.int .i64) (Kd.int .i64)) (fun x : S90 => (x.f0, x.f1))
end Go.Proofs.Ytndancjnfdhbfaa.S
