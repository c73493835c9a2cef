-- Written by a program of this session (wip/tools/pp.py) out of the translation; Lean checks it.
import Derived.Test.YtoiclhdkgalhcaaProg
import Derived.Below
import Derived.Deep.Draws
import Derived.Deep.AppendLies
import Derived.Maps.AppendAt
import Derived.OwnWalk
import Derived.Laws.BytesArg
import Derived.Laws.MakeOwn
import Derived.Laws.OwnMore
import Derived.Deep.OwnRows
import Derived.Tactics
import Derived.Lib.ConvBytes
import Derived.Laws.Slices
import Derived.WalkKit
import Derived.KernelRfl
import Derived.RowKit3
import Derived.Deep.LoopGhost
import Derived.Deep.QuietTactic
import Derived.BigQuiet
import Derived.WideLaws
import Derived.Deep.DeepCutAuto
import Derived.Deep.CutBlock
import Derived.Deep.RegionHeld3
import Derived.Laws.Rows
import Derived.Lib.AppendStr
import Derived.ArgAppend
import Derived.Laws.IdiomCopy
import Derived.OrdersHeld
import Derived.Laws.BitsLemmas
import Derived.RowKit
import Derived.Test.YtoiclhdkgalhcaaWWords
import Derived.Test.YtoiclhdkgalhcaaWLast
import Derived.Test.YtoiclhdkgalhcaaWTab
import Derived.Test.YtoiclhdkgalhcaaWQPut
import Derived.Test.YtoiclhdkgalhcaaWApart
import Derived.Test.YtoiclhdkgalhcaaWFoot
import Derived.Test.YtoiclhdkgalhcaaWKept
import Derived.Test.YtoiclhdkgalhcaaWShare
import Derived.Test.YtoiclhdkgalhcaaWN
import Derived.Test.YtoiclhdkgalhcaaWEqStruct
import Derived.Test.YtoiclhdkgalhcaaWRepsOne
import Derived.Test.YtoiclhdkgalhcaaWInv
import Derived.Test.YtoiclhdkgalhcaaWGuard
import Derived.Test.YtoiclhdkgalhcaaWMore
import Derived.Test.YtoiclhdkgalhcaaLt
import Derived.Test.YtoiclhdkgalhcaaNf
namespace Go.Proofs.Ytoiclhdkgalhcaa.L
open Go.RowKit Go.Proofs.YtoiclhdkgalhcaaW.PrintWords Go.Proofs.YtoiclhdkgalhcaaW.PrintLast Go.Proofs.YtoiclhdkgalhcaaW.PrintMore
open Go.Proofs.Ytoiclhdkgalhcaa.S
attribute [local go_sem] max2_int min2_int max_two min_two max_three min_three max_four min_four   -- for this text's walks alone
set_option linter.unusedVariables false
set_option linter.unusedSimpArgs false



def errW : Option Int → Value
 | none => .nilIface
 | some c => .iface 0 (.int .i64 c)
theorem errW_none : errW none = .nilIface := rfl
theorem errW_some (c : Int) : errW (some c) = .iface 0 (.int .i64 c) := rfl

theorem info37 : (Try.prog.info? 37).map (fun i => (i.zero, i.size, i.bytes)) = some (some (.agg #[(.int .i64 0), (.int .i64 0)]), 2, 16) := by kernel_rfl
-- the values' own types

end Go.Proofs.Ytoiclhdkgalhcaa.L
