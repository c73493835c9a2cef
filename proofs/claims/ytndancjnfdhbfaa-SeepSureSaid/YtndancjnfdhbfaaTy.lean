/- seep.turns: what it hands back. -/
import Derived.Test.YtndancjnfdhbfaaTn
namespace Go.Proofs.Ytndancjnfdhbfaa.S
open Go.RowKit Go.Shelf Go.Proofs.YtndancjnfdhbfaaW.PrintWords Go.Proofs.YtndancjnfdhbfaaW.PrintMore
attribute [local go_sem] Oper.semAt_some
set_option linter.unusedVariables false
set_option linter.unusedSimpArgs false
set_option maxRecDepth 100000 in
set_option maxHeartbeats 4000000 in
theorem turns_in (a0 : Value) (a1 a2 a3 : Value) (s1 s2 s3 : Value) (b1 b2 b3 b4 b5 b6 b7 b8 b9 b10 b11 : Value) (lo hi : Int) (w : World) :
    CallsIn Fence.wide 5 Try.prog 27 #[.agg #[a0, a1, a2, a3, s1, s2, s3, b1, b2, b3, b4, b5, b6, b7, b8, b9, b10, b11], .agg #[.int .i64 lo, .int .i64 hi]] w fun e w' =>
      e = .returned (.func (.func 33) #[] #[.pointer (some ⟨w.heap.size + 1, 0, none⟩), .pointer (some ⟨w.heap.size, 0, none⟩)]) ∧
      w' = (w.alloc (.cells #[a0, a1, a2, a3, s1, s2, s3, b1, b2, b3, b4, b5, b6, b7, b8, b9, b10, b11] 26)).alloc (.cells #[.int .i64 lo, .int .i64 hi] 30) := by
  have hu30 := Try.underlying30
  have hu26 := Try.underlying26
  refine callsIn_of_wp Try.func27 rfl trivial ?_ rfl
  simp only [Try.ntmps27, List.size_toArray, List.length_cons, List.length_nil, Nat.reduceAdd, Nat.reduceSub, Array.replicate_succ, Array.replicate_zero, List.push_toArray, List.append_toArray, List.nil_append, List.cons_append]
  gi_wp2
  refine bodyPost_ret (results_tmp rfl _ _ _) rfl ?_
  exact ⟨rfl, rfl⟩
theorem turns_stops (hHas : ∀ (lo hi x : Int) (w : World), Calls Try.prog 22 #[.agg #[.int .i64 lo, .int .i64 hi], .int .i64 x] w fun e w' => e = .returned (.bool (decide (lo ≤ x ∧ x ≤ hi))) ∧ Below w.heap.size w w')
    (Bv Bl : Nat) (lo hi p b : Int) (hp : I64 p) (hb : I64 b) (w : World) (hv : Bv < w.heap.size) (hl : Bl < w.heap.size)
    (hv0 : w.cell? ⟨Bv, 0, none⟩ = some (.int .i64 lo)) (hv1 : w.cell? ⟨Bv, 1, none⟩ = some (.int .i64 hi))
    (hl0 : w.cell? ⟨Bl, 13, none⟩ = some (.int .i64 p)) (hl1 : w.cell? ⟨Bl, 14, none⟩ = some (.int .i64 b)) :
    SeqStopsK Fence.wide 5 Try.prog 33 #[.pointer (some ⟨Bv, 0, none⟩), .pointer (some ⟨Bl, 0, none⟩)] (fun x : Int => #[.int .i64 x]) (Kp2 Bv Bl) (fun xs => xs = trn lo hi p b 6) (fun _ => True) 7 w :=
  fun l J Jx W hW hJ hJx hY h0 => turns1_in hHas l Bv Bl lo hi p b hp hb J Jx W hJ hY (Nat.lt_of_lt_of_le hv hW.size) (Nat.lt_of_lt_of_le hl hW.size)
    ((cell_of_block (hW.block Bv hv)).trans hv0) ((cell_of_block (hW.block Bv hv)).trans hv1) ((cell_of_block (hW.block Bl hl)).trans hl0) ((cell_of_block (hW.block Bl hl)).trans hl1) h0
end Go.Proofs.Ytndancjnfdhbfaa.S
