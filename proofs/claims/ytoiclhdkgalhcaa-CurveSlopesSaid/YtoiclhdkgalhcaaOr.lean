/- The arguments' openers of this seat. -/
import Derived.Test.YtoiclhdkgalhcaaOp
import Derived.Test.YtoiclhdkgalhcaaKd
namespace Go.Proofs.Ytoiclhdkgalhcaa.S
open Go.RowKit Go.Proofs.YtoiclhdkgalhcaaW.PrintWords Go.Proofs.YtoiclhdkgalhcaaW.PrintLast Go.Proofs.YtoiclhdkgalhcaaW.PrintMore
/-- a slice of points -/
theorem op22 : Op Try.prog 22 (Kd.slice 37 k37) (fun l => l.length ≤ maxLen ∧ ∀ y ∈ l, (Lit.int .i64 y.f0).wf = true ∧ (Lit.int .i64 y.f1).wf = true) :=
  Op.slice Try.underlying22 (by kernel_rfl) (Op.iso (fun x : Int × Int => (⟨x.1, x.2⟩ : S37)) (fun _ => rfl)
    (Op.struct Try.underlying37 (by kernel_rfl) (FO.cons rfl (Op.int Try.underlying3 (by kernel_rfl)) (FO.one rfl (Op.int Try.underlying3 (by kernel_rfl))))))
end Go.Proofs.Ytoiclhdkgalhcaa.S
