/- The bounds of a 64-bit integer, out of the form's word for them. -/
import Derived.DataShut
namespace Go.Proofs.Ytcdlielgifkemaa.S
theorem i64b {n : Int} (h : (Lit.int .i64 n).wf = true) : -9223372036854775808 ≤ n ∧ n < 9223372036854775808 := by
  have := (Lit.wf_int_iff .i64 n).1 h
  simp [IntKind.min, IntKind.max, IntKind.signed, IntKind.bits] at this
  omega
end Go.Proofs.Ytcdlielgifkemaa.S
