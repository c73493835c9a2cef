/- The examples that each statement of this layer checks first hold; the statements' own small functions in closed form. -/
import Derived.Test.YtndancjnfdhbfaaQx2
import Derived.Test.YtndancjnfdhbfaaYx1
namespace Go.Proofs.Ytndancjnfdhbfaa.Q
open Go.Proofs.Ytndancjnfdhbfaa.S
theorem bournelaw20_small_ok : bournelaw20_small.f = some true := by decide +kernel
end Go.Proofs.Ytndancjnfdhbfaa.Q
namespace Go.Proofs.Ytndancjnfdhbfaa.Y
open Go.Proofs.Ytndancjnfdhbfaa.S
open Go.RowKit Go.Proofs.YtndancjnfdhbfaaW.PrintWords Go.Proofs.YtndancjnfdhbfaaW.PrintLast Go.Proofs.YtndancjnfdhbfaaW.PrintMore
theorem bournelaw20_within_ok (lo hi : Int) : bournelaw20_within.f lo hi = some (decide (0 ≤ lo ∧ lo ≤ hi ∧ hi ≤ 1125899906842624)) := by
  unfold bournelaw20_within.f span_Within.f span_Right.f
  simp only [Option.bind_some, decide_eq_true_eq]
  by_cases h : 0 ≤ lo ∧ hi ≤ 1125899906842624
  · rw [if_pos h]
    congr 1
    exact decide_eq_decide.mpr (by omega)
  · rw [if_neg h]
    congr 1
    exact (decide_eq_false (by omega)).symm
theorem bournelaw20_inside_ok (lo hi n : Int) : bournelaw20_inside.f lo hi n = some (if n < lo then lo else if n > hi then hi else n) := by
  unfold bournelaw20_inside.f exact_Clamp.f
  simp only [Option.bind_some]
end Go.Proofs.Ytndancjnfdhbfaa.Y
set_option linter.unusedVariables false
namespace Go.Proofs.Ytndancjnfdhbfaa.S
open Go.RowKit Go.Proofs.YtndancjnfdhbfaaW.PrintWords Go.Proofs.YtndancjnfdhbfaaW.PrintLast Go.Proofs.YtndancjnfdhbfaaW.PrintMore
def bournelaw20_small.f : Option Bool := some true
theorem bournelaw20_small.calls (r : Bool) (w : World) (h : bournelaw20_small.f = some r) :
    Calls Try.prog 9 #[] w fun e w' => e = .returned (.bool r) ∧ Below w.heap.size w w' := by
  have hr : r = true := (Option.some.inj h).symm
  exact Q.bournelaw20_small.calls r w (Q.bournelaw20_small_ok.trans h) ⟨hr⟩
def bournelaw20_within.f (a0_0 : Int) (a0_1 : Int) : Option (Bool) := some (decide (0 ≤ a0_0 ∧ a0_0 ≤ a0_1 ∧ a0_1 ≤ 1125899906842624))
theorem bournelaw20_within.calls (a0_0 : Int) (a0_1 : Int) (r : Bool) (w : World) (h : bournelaw20_within.f a0_0 a0_1 = some r) :
  Calls Try.prog 18 #[.agg #[.int .i64 a0_0, .int .i64 a0_1]] w fun e w' => e = .returned (.bool r) ∧ Below w.heap.size w w' := by
  have hk := Y.bournelaw20_within_ok a0_0 a0_1
  exact Y.bournelaw20_within.calls a0_0 a0_1 r w (hk.trans h)

def bournelaw20_inside.f (a0_0 : Int) (a0_1 : Int) (a1 : Int) : Option (Int) := some (if a1 < a0_0 then a0_0 else if a1 > a0_1 then a0_1 else a1)
theorem bournelaw20_inside.calls (a0_0 : Int) (a0_1 : Int) (a1 : Int) (r : Int) (w : World) (h : bournelaw20_inside.f a0_0 a0_1 a1 = some r) :
  Calls Try.prog 21 #[.agg #[.int .i64 a0_0, .int .i64 a0_1], .int .i64 a1] w fun e w' => e = .returned (.int .i64 r) ∧ Below w.heap.size w w' := by
  have hk := Y.bournelaw20_inside_ok a0_0 a0_1 a1
  exact Y.bournelaw20_inside.calls a0_0 a0_1 a1 r w (hk.trans h)

end Go.Proofs.Ytndancjnfdhbfaa.S
