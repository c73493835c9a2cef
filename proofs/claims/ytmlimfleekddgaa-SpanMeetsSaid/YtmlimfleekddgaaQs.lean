/- The examples that each statement of this layer checks first hold. -/
import Derived.Test.YtmlimfleekddgaaQx2
namespace Go.Proofs.Ytmlimfleekddgaa.Q
open Go.Proofs.Ytmlimfleekddgaa.S
theorem bournelaw09_small_ok : bournelaw09_small.f = some true := by decide +kernel
end Go.Proofs.Ytmlimfleekddgaa.Q
namespace Go.Proofs.Ytmlimfleekddgaa.S
open Go.RowKit Go.Proofs.YtmlimfleekddgaaW.PrintWords Go.Proofs.YtmlimfleekddgaaW.PrintLast Go.Proofs.YtmlimfleekddgaaW.PrintMore
def bournelaw09_small.f : Option Bool := some true
theorem bournelaw09_small.calls (r : Bool) (w : World) (h : bournelaw09_small.f = some r) :
    Calls Try.prog 8 #[] w fun e w' => e = .returned (.bool r) ∧ Below w.heap.size w w' := by
  have hr : r = true := (Option.some.inj h).symm
  exact Q.bournelaw09_small.calls r w (Q.bournelaw09_small_ok.trans h) ⟨hr⟩
end Go.Proofs.Ytmlimfleekddgaa.S
