/- The example that each statement of this layer checks first holds. -/
import Derived.Test.YtcdlielgifkemaaQx2
namespace Go.Proofs.Ytcdlielgifkemaa.Q
open Go.Proofs.Ytcdlielgifkemaa.S
theorem bournelaw26_small_ok : bournelaw26_small.f 3 = some true := by decide +kernel
end Go.Proofs.Ytcdlielgifkemaa.Q
set_option linter.unusedVariables false
namespace Go.Proofs.Ytcdlielgifkemaa.S
open Go.RowKit Go.Proofs.YtcdlielgifkemaaW.PrintWords Go.Proofs.YtcdlielgifkemaaW.PrintLast Go.Proofs.YtcdlielgifkemaaW.PrintMore
def bournelaw26_small.f : Option Bool := some true
theorem bournelaw26_small.calls (r : Bool) (w : World) (h : bournelaw26_small.f = some r) :
    Calls Try.prog 8 #[] w fun e w' => e = .returned (.bool r) ∧ Below w.heap.size w w' := by
  have hr : r = true := (Option.some.inj h).symm
  exact Q.bournelaw26_small.calls 3 r w (Q.bournelaw26_small_ok.trans h) ⟨hr⟩
end Go.Proofs.Ytcdlielgifkemaa.S
