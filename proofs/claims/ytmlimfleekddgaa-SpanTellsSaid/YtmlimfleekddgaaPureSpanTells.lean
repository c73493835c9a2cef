/- SpanTells holds: for all spans, right or not, and all integers, every function of the package span returns what the reference returns. No conditions beyond the statement's own. -/
import Derived.Test.YtmlimfleekddgaaTx2
import Derived.Test.YtmlimfleekddgaaWf
namespace Go.Proofs.Ytmlimfleekddgaa.Pure
open Go.Proofs.Ytmlimfleekddgaa.S
open Go.RowKit Go.Proofs.Ytmlimfleekddgaa.T

theorem SpanTells (a b c d n num den : Int) (ha : (Lit.int .i64 a).wf = true) (hb : (Lit.int .i64 b).wf = true) (hc : (Lit.int .i64 c).wf = true) (hd : (Lit.int .i64 d).wf = true)
    (_ : (Lit.int .i64 n).wf = true) (_ : (Lit.int .i64 num).wf = true) (_ : (Lit.int .i64 den).wf = true) : bournelaw09_SpanTells.f a b c d n num den = some true := by
  have ia : I64 a := by have := i64b ha; unfold I64; omega
  have ib : I64 b := by have := i64b hb; unfold I64; omega
  have ic : I64 c := by have := i64b hc; unfold I64; omega
  have id : I64 d := by have := i64b hd; unfold I64; omega
  unfold bournelaw09_SpanTells.f bournelaw09_small.f span_Scale.f bourneref09_Scale.f span_Meet.f bourneref09_Meet.f span_Right.f bourneref09_Right.f span_Of.f bourneref09_Of.f span_Has.f bourneref09_Has.f
    span_Add.f bourneref09_Add.f span_Sub.f bourneref09_Sub.f span_Join.f bourneref09_Join.f span_Within.f bourneref09_Within.f span_Width.f bourneref09_Width.f
  simp [ia, ib, ic, id]

end Go.Proofs.Ytmlimfleekddgaa.Pure
