/- Variables of many cells, loaded as a whole by one law. -/
import Derived.Test.YtndancjnfdhbfaaWg
import Derived.Test.YtndancjnfdhbfaaKd
namespace Go.Proofs.Ytndancjnfdhbfaa.S
open Go.RowKit Go.Proofs.YtndancjnfdhbfaaW.PrintWords Go.Proofs.YtndancjnfdhbfaaW.PrintLast Go.Proofs.YtndancjnfdhbfaaW.PrintMore
theorem ld26 {w : World} {b : Nat} {cs : Array Value} (h : w.heap[b]? = some (.cells cs 26 (0, 0))) (hs : cs.size = 18) :
    (Instr.loadAt 26 (.pointer (some ⟨b, 0, none⟩))).run Try.prog w = .ok (.agg cs) w := by
  have := run_loadAt_mid (P := Try.prog) w b 0 26 cs.toList _ (rangeAt_blk h) Try.underlying26 rfl (by rw [Array.length_toList, hs]; kernel_rfl)
  simpa using this
theorem ld26c {w : World} {b : Nat} {v0 v1 v2 v3 v4 v5 v6 v7 v8 v9 v10 v11 v12 v13 v14 v15 v16 v17 : Value} (s0 : w.cell? ⟨b, 0, none⟩ = some v0) (s1 : w.cell? ⟨b, 1, none⟩ = some v1) (s2 : w.cell? ⟨b, 2, none⟩ = some v2) (s3 : w.cell? ⟨b, 3, none⟩ = some v3) (s4 : w.cell? ⟨b, 4, none⟩ = some v4) (s5 : w.cell? ⟨b, 5, none⟩ = some v5) (s6 : w.cell? ⟨b, 6, none⟩ = some v6) (s7 : w.cell? ⟨b, 7, none⟩ = some v7) (s8 : w.cell? ⟨b, 8, none⟩ = some v8) (s9 : w.cell? ⟨b, 9, none⟩ = some v9) (s10 : w.cell? ⟨b, 10, none⟩ = some v10) (s11 : w.cell? ⟨b, 11, none⟩ = some v11) (s12 : w.cell? ⟨b, 12, none⟩ = some v12) (s13 : w.cell? ⟨b, 13, none⟩ = some v13) (s14 : w.cell? ⟨b, 14, none⟩ = some v14) (s15 : w.cell? ⟨b, 15, none⟩ = some v15) (s16 : w.cell? ⟨b, 16, none⟩ = some v16) (s17 : w.cell? ⟨b, 17, none⟩ = some v17) :
    (Instr.loadAt 26 (.pointer (some ⟨b, 0, none⟩))).run Try.prog w = .ok (.agg #[v0, v1, v2, v3, v4, v5, v6, v7, v8, v9, v10, v11, v12, v13, v14, v15, v16, v17]) w :=
  run_loadAt_mid (P := Try.prog) w b 0 26 [v0, v1, v2, v3, v4, v5, v6, v7, v8, v9, v10, v11, v12, v13, v14, v15, v16, v17] _ (rangeAt_cons s0 (rangeAt_cons s1 (rangeAt_cons s2 (rangeAt_cons s3 (rangeAt_cons s4 (rangeAt_cons s5 (rangeAt_cons s6 (rangeAt_cons s7 (rangeAt_cons s8 (rangeAt_cons s9 (rangeAt_cons s10 (rangeAt_cons s11 (rangeAt_cons s12 (rangeAt_cons s13 (rangeAt_cons s14 (rangeAt_cons s15 (rangeAt_cons s16 (rangeAt_cons s17 rangeAt_nil)))))))))))))))))) Try.underlying26 rfl (by kernel_rfl)
/-! fields of a value -/
theorem fld28_3 (a b : Int) (c d : Bool) (W : World) : (Instr.field 28 (.agg #[.int .i64 a, .int .i64 b, .bool c, .bool d]) 3).run Try.prog W = .ok (.bool d) W := by kernel_rfl
end Go.Proofs.Ytndancjnfdhbfaa.S
