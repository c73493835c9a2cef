/- Variables of many cells, loaded as a whole by one law. -/
import Derived.Test.YtcdlielgifkemaaWg
import Derived.Test.YtcdlielgifkemaaKd
namespace Go.Proofs.Ytcdlielgifkemaa.S
open Go.RowKit Go.Proofs.YtcdlielgifkemaaW.PrintWords Go.Proofs.YtcdlielgifkemaaW.PrintLast Go.Proofs.YtcdlielgifkemaaW.PrintMore
theorem ld41 {w : World} {b : Nat} {cs : Array Value} (h : w.heap[b]? = some (.cells cs 41 (0, 0))) (hs : cs.size = 11) :
    (Instr.loadAt 41 (.pointer (some ⟨b, 0, none⟩))).run Try.prog w = .ok (.agg cs) w := by
  have := run_loadAt_mid (P := Try.prog) w b 0 41 cs.toList _ (rangeAt_blk h) Try.underlying41 rfl (by rw [Array.length_toList, hs]; kernel_rfl)
  simpa using this
theorem ld41c {w : World} {b : Nat} {v0 v1 v2 v3 v4 v5 v6 v7 v8 v9 v10 : Value} (s0 : w.cell? ⟨b, 0, none⟩ = some v0) (s1 : w.cell? ⟨b, 1, none⟩ = some v1) (s2 : w.cell? ⟨b, 2, none⟩ = some v2) (s3 : w.cell? ⟨b, 3, none⟩ = some v3) (s4 : w.cell? ⟨b, 4, none⟩ = some v4) (s5 : w.cell? ⟨b, 5, none⟩ = some v5) (s6 : w.cell? ⟨b, 6, none⟩ = some v6) (s7 : w.cell? ⟨b, 7, none⟩ = some v7) (s8 : w.cell? ⟨b, 8, none⟩ = some v8) (s9 : w.cell? ⟨b, 9, none⟩ = some v9) (s10 : w.cell? ⟨b, 10, none⟩ = some v10) :
    (Instr.loadAt 41 (.pointer (some ⟨b, 0, none⟩))).run Try.prog w = .ok (.agg #[v0, v1, v2, v3, v4, v5, v6, v7, v8, v9, v10]) w :=
  run_loadAt_mid (P := Try.prog) w b 0 41 [v0, v1, v2, v3, v4, v5, v6, v7, v8, v9, v10] _ (rangeAt_cons s0 (rangeAt_cons s1 (rangeAt_cons s2 (rangeAt_cons s3 (rangeAt_cons s4 (rangeAt_cons s5 (rangeAt_cons s6 (rangeAt_cons s7 (rangeAt_cons s8 (rangeAt_cons s9 (rangeAt_cons s10 rangeAt_nil))))))))))) Try.underlying41 rfl (by kernel_rfl)
end Go.Proofs.Ytcdlielgifkemaa.S
