/- CurveTells holds: for all lists of at most 40 points and all ints, every function of the package curve returns what the reference returns. No conditions beyond the statement's own. -/
import Derived.Test.YtoiclhdkgalhcaaTx2
import Derived.Test.YtoiclhdkgalhcaaWf
namespace Go.Proofs.Ytoiclhdkgalhcaa.Pure
open Go.Proofs.Ytoiclhdkgalhcaa.S
open Go.RowKit Go.Proofs.Ytoiclhdkgalhcaa.T Go.Proofs.YtoiclhdkgalhcaaW.PrintWords Go.Proofs.YtoiclhdkgalhcaaW.PrintMore
theorem CurveTells (a b : List S37) (x y num den : Int) (_ : a.length ≤ maxLen) (_ : b.length ≤ maxLen) (hx : (Lit.int .i64 x).wf = true) (_ : (Lit.int .i64 y).wf = true) (_ : (Lit.int .i64 num).wf = true) (_ : (Lit.int .i64 den).wf = true) :
    bournelaw10_CurveTells.f a b x y num den = some true := by
  have ix : I64 x := by have := i64b hx; unfold I64; omega
  unfold bournelaw10_CurveTells.f bournelaw10_small.f
  simp only [Option.bind_some]
  by_cases h1 : (a.length : Int) > 40
  · rw [if_pos h1]
  by_cases h2 : (b.length : Int) > 40
  · rw [if_neg h1, if_pos h2]
  have la : a.length < 4611686018427387904 := by omega
  have lb : b.length < 4611686018427387904 := by omega
  unfold curve_Least.f bourneref10_Least.f curve_Right.f bourneref10_Right.f curve_At.f bourneref10_At.f curve_Slope.f bourneref10_Slope.f curve_Under.f bourneref10_Under.f curve_Band.f bourneref10_Band.f
  simp [h1, h2, la, lb, ix]
end Go.Proofs.Ytoiclhdkgalhcaa.Pure
