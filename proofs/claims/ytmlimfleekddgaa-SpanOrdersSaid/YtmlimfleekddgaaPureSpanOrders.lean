/- SpanOrders holds: Within is reflexive, transitive and antisymmetric, Add and Join do not depend on the order of their arguments, and for right spans Within means that every integer of one is in the other. No conditions beyond the statement's own. -/
import Derived.Test.YtmlimfleekddgaaOx2
import Derived.Test.YtmlimfleekddgaaWf
namespace Go.Proofs.Ytmlimfleekddgaa.Pure
open Go.Proofs.Ytmlimfleekddgaa.S
open Go.RowKit Go.Proofs.Ytmlimfleekddgaa.O Go.Proofs.YtmlimfleekddgaaW.PrintWords Go.Proofs.YtmlimfleekddgaaW.PrintMore

theorem mx_comm (a b : Int) : mx a b = mx b a := by unfold mx; split <;> split <;> omega
theorem mn_comm (a b : Int) : mn a b = mn b a := by unfold mn; split <;> split <;> omega
theorem mx_self (a : Int) : mx a a = a := by unfold mx; simp
theorem mn_self (a : Int) : mn a a = a := by unfold mn; simp

theorem j2_ok (n a b c d : Int) : bournelaw09_SpanOrders.j2 1 n true false a b c d = some true := by
  simp only [bournelaw09_SpanOrders.j2, Bool.false_eq_true, if_false, if_true]
  unfold span_Within.f span_Has.f span_Of.f
  simp only [Option.bind_some, decide_eq_true_eq, BEq.rfl, Bool.and_self, if_true]
  by_cases h1 : c ≤ a ∧ b ≤ d
  · by_cases h2 : a ≤ n ∧ n ≤ b
    · rw [if_pos h1, if_pos h2, if_pos (by omega)]; simp
    · rw [if_pos h1, if_neg h2]; simp
  · rw [if_neg h1]; simp

theorem j1_ok (n a b c d : Int) : bournelaw09_SpanOrders.j1 2 n true false a b c d = some true := by
  simp only [bournelaw09_SpanOrders.j1, Bool.false_eq_true, if_false]
  unfold span_Right.f span_Within.f span_Has.f
  simp only [Option.bind_some, decide_eq_true_eq]
  by_cases h : a ≤ b
  · rw [if_pos h]
    by_cases h1 : c ≤ a ∧ a ≤ d
    · rw [if_pos h1]
      have e : (decide (c ≤ a ∧ b ≤ d) != decide (c ≤ b ∧ b ≤ d)) = false := by
        have : decide (c ≤ a ∧ b ≤ d) = decide (c ≤ b ∧ b ≤ d) := by rw [Bool.eq_iff_iff, decide_eq_true_eq, decide_eq_true_eq]; omega
        rw [this]; simp
      rw [e]; exact j2_ok n a b c d
    · rw [if_neg h1, decide_eq_false (by omega : ¬ (c ≤ a ∧ b ≤ d))]
      exact j2_ok n a b c d
  · rw [if_neg h]; exact j2_ok n a b c d

theorem j0_ok (n a b c d : Int) (ia : I64 a) (ib : I64 b) (ic : I64 c) (id : I64 d) : bournelaw09_SpanOrders.j0 3 n true false a b c d = some true := by
  simp only [bournelaw09_SpanOrders.j0, Bool.false_eq_true, if_false]
  unfold span_Add.f span_Join.f
  rw [if_pos ⟨ia, ib, ic, id⟩, if_pos ⟨ic, id, ia, ib⟩]
  simp only [Option.bind_some]
  rw [Int.add_comm c a, Int.add_comm d b, mn_comm c a, mx_comm d b, mn_self, mx_self]
  simp only [BEq.rfl, Bool.not_true, Bool.or_self, Bool.false_eq_true, if_false]
  exact j1_ok n a b c d

theorem SpanOrders (a b c d e f n : Int) (ha : (Lit.int .i64 a).wf = true) (hb : (Lit.int .i64 b).wf = true) (hc : (Lit.int .i64 c).wf = true) (hd : (Lit.int .i64 d).wf = true)
    (_ : (Lit.int .i64 e).wf = true) (_ : (Lit.int .i64 f).wf = true) (_ : (Lit.int .i64 n).wf = true) : ∃ k, bournelaw09_SpanOrders.f k a b c d e f n = some true := by
  have ia : I64 a := by have := i64b ha; unfold I64; omega
  have ib : I64 b := by have := i64b hb; unfold I64; omega
  have ic : I64 c := by have := i64b hc; unfold I64; omega
  have id : I64 d := by have := i64b hd; unfold I64; omega
  refine ⟨3, ?_⟩
  have k0 := j0_ok n a b c d ia ib ic id
  unfold bournelaw09_SpanOrders.f bournelaw09_small.f span_Within.f
  simp only [Option.bind_some, decide_eq_true_eq]
  rw [if_pos ⟨Int.le_refl _, Int.le_refl _⟩]
  have tail : (if c ≤ a ∧ b ≤ d then (if a ≤ c ∧ d ≤ b then bournelaw09_SpanOrders.j0 3 n true (!(a == c) || (!(b == d))) a b c d else bournelaw09_SpanOrders.j0 3 n true false a b c d) else bournelaw09_SpanOrders.j0 3 n true false a b c d) = some true := by
    by_cases h1 : c ≤ a ∧ b ≤ d
    · rw [if_pos h1]
      by_cases h2 : a ≤ c ∧ d ≤ b
      · have e1 : a = c := by omega
        have e2 : b = d := by omega
        rw [if_pos h2, beq_iff_eq.2 e1, beq_iff_eq.2 e2]
        exact k0
      · rw [if_neg h2]; exact k0
    · rw [if_neg h1]; exact k0
  by_cases h1 : c ≤ a ∧ b ≤ d
  · rw [if_pos h1]
    rw [if_pos h1] at tail
    by_cases h2 : e ≤ c ∧ d ≤ f
    · rw [if_pos h2, if_pos (by omega : e ≤ a ∧ b ≤ f), if_pos h1]; exact tail
    · rw [if_neg h2, if_pos h1]; exact tail
  · rw [if_neg h1]; exact tail

end Go.Proofs.Ytmlimfleekddgaa.Pure
