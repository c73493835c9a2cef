/- SpanEncloses holds: the limited sum and difference of numbers in two spans are in Add and Sub, and n * num / den, rounded down and up, is in Scale, if Scale returns true; all these results are right. No conditions beyond the statement's own. -/
import Derived.Test.YtmlimfleekddgaaJx1
import Derived.Test.YtmlimfleekddgaaWf
namespace Go.Proofs.Ytmlimfleekddgaa.Pure
open Go.Proofs.Ytmlimfleekddgaa.S
open Go.RowKit Go.Proofs.Ytmlimfleekddgaa.J Go.Proofs.YtmlimfleekddgaaW.PrintWords Go.Proofs.YtmlimfleekddgaaW.PrintMore

theorem sat_mono {x y : Int} (h : x ≤ y) : sat x ≤ sat y := by unfold sat; (repeat' split) <;> omega

theorem scl_true {a n d : Int} (h : (scl a n d).2.2 = true) : 0 ≤ a ∧ a ≤ 1125899906842624 ∧ 0 ≤ n ∧ n ≤ 1125899906842624 ∧ 1 ≤ d ∧ d ≤ 1125899906842624 ∧ a * n / d ≤ 1125899906842624 ∧ scl a n d = (a * n / d, a * n % d, true) := by
  unfold scl at h ⊢
  split at h
  · rename_i hc
    rw [if_pos hc]
    exact ⟨hc.1, hc.2.1, hc.2.2.1, hc.2.2.2.1, hc.2.2.2.2.1, hc.2.2.2.2.2.1, hc.2.2.2.2.2.2, rfl⟩
  · cases h

/-- between two numbers whose fractions exist, and in the same order -/
theorem scl_between {a x b n d : Int} (h1 : a ≤ x) (h2 : x ≤ b) (ha : (scl a n d).2.2 = true) (hb : (scl b n d).2.2 = true) :
    (scl x n d).2.2 = true ∧ (scl a n d).1 ≤ (scl x n d).1 ∧ (scl x n d).1 ≤ (scl b n d).1 ∧ upq (scl x n d) ≤ upq (scl b n d) := by
  obtain ⟨a0, a1, n0, n1, d0, d1, aq, ea⟩ := scl_true ha
  obtain ⟨b0, b1, _, _, _, _, bq, eb⟩ := scl_true hb
  have m1 : a * n ≤ x * n := Int.mul_le_mul_of_nonneg_right h1 n0
  have m2 : x * n ≤ b * n := Int.mul_le_mul_of_nonneg_right h2 n0
  have q1 := Int.ediv_le_ediv (show 0 < d by omega) m1
  have q2 := Int.ediv_le_ediv (show 0 < d by omega) m2
  have ex : scl x n d = (x * n / d, x * n % d, true) := by
    unfold scl
    rw [if_pos ⟨by omega, by omega, n0, n1, d0, d1, by omega⟩]
  rw [ea, eb, ex]
  refine ⟨rfl, q1, q2, ?_⟩
  unfold upq
  have r1 := Int.mul_ediv_add_emod (x * n) d
  have r2 := Int.mul_ediv_add_emod (b * n) d
  have s1 := Int.emod_nonneg (x * n) (show d ≠ 0 by omega)
  have s2 := Int.emod_nonneg (b * n) (show d ≠ 0 by omega)
  dsimp only
  by_cases hq : x * n / d = b * n / d
  · rw [hq] at r1 ⊢
    split <;> split <;> omega
  · split <;> split <;> omega

theorem SpanEncloses (a b c d n m num den : Int) (ha : (Lit.int .i64 a).wf = true) (hb : (Lit.int .i64 b).wf = true) (hc : (Lit.int .i64 c).wf = true) (hd : (Lit.int .i64 d).wf = true)
    (hn : (Lit.int .i64 n).wf = true) (hm : (Lit.int .i64 m).wf = true) (_ : (Lit.int .i64 num).wf = true) (_ : (Lit.int .i64 den).wf = true) :
    ∃ k, bournelaw09_SpanEncloses.f k a b c d n m num den = some true := by
  have ia : I64 a := by have := i64b ha; unfold I64; omega
  have ib : I64 b := by have := i64b hb; unfold I64; omega
  have ic : I64 c := by have := i64b hc; unfold I64; omega
  have id : I64 d := by have := i64b hd; unfold I64; omega
  have iN : I64 n := by have := i64b hn; unfold I64; omega
  have im : I64 m := by have := i64b hm; unfold I64; omega
  refine ⟨4, ?_⟩
  unfold bournelaw09_SpanEncloses.f bournelaw09_small.f span_Has.f
  simp only [Option.bind_some, decide_eq_true_eq]
  by_cases h1 : a ≤ n ∧ n ≤ b
  · rw [if_pos h1]
    by_cases h2 : c ≤ m ∧ m ≤ d
    · rw [decide_eq_true h2]
      simp only [bournelaw09_SpanEncloses.j0, Bool.not_true, Bool.false_eq_true, if_false]
      unfold span_Add.f span_Sub.f span_Right.f exact_Add.f exact_Sub.f span_Has.f
      rw [if_pos ⟨ia, ib, ic, id⟩, if_pos ⟨ia, ib, ic, id⟩, if_pos ⟨iN, im⟩, if_pos ⟨iN, im⟩]
      simp only [Option.bind_some, decide_eq_true_eq]
      have s1 : sat (a + c) ≤ sat (n + m) := sat_mono (by omega)
      have s2 : sat (n + m) ≤ sat (b + d) := sat_mono (by omega)
      have t1 : sat (a - d) ≤ sat (n - m) := sat_mono (by omega)
      have t2 : sat (n - m) ≤ sat (b - c) := sat_mono (by omega)
      rw [if_pos (by omega), if_pos (by omega), if_pos ⟨s1, s2⟩, decide_eq_true (show sat (a - d) ≤ sat (n - m) ∧ sat (n - m) ≤ sat (b - c) from ⟨t1, t2⟩), Bool.not_true]
      simp only [bournelaw09_SpanEncloses.j1, Bool.false_eq_true, if_false]
      unfold span_Scale.f exact_Scale.f
      simp only [Option.bind_some]
      unfold sscl
      by_cases hs : a ≤ b ∧ (scl a num den).2.2 = true ∧ (scl b num den).2.2 = true ∧ upq (scl b num den) ≤ 1125899906842624
      · rw [if_pos hs]
        simp only [if_true]
        obtain ⟨k1, k2, k3, k4⟩ := scl_between h1.1 h1.2 hs.2.1 hs.2.2.1
        have ub : (scl b num den).1 ≤ upq (scl b num den) := by unfold upq; split <;> omega
        have ux : (scl n num den).1 ≤ upq (scl n num den) := by unfold upq; split <;> omega
        have q0 : 0 ≤ (scl n num den).1 := by
          obtain ⟨a0, _, n0, _, d0, _, _, e⟩ := scl_true k1
          rw [e]; exact Int.ediv_nonneg (Int.mul_nonneg a0 n0) (by omega)
        have fin : ∀ u : Int, (scl a num den).1 ≤ u → u ≤ upq (scl b num den) → bournelaw09_SpanEncloses.j2 2 true (scl n num den).1 (scl n num den).2.2 u (scl a num den).1 (upq (scl b num den)) = some true := by
          intro u u1 u2
          simp only [bournelaw09_SpanEncloses.j2, k1, if_true]
          unfold span_Right.f span_Has.f
          simp only [Option.bind_some, decide_eq_true_eq]
          rw [if_pos (by omega), if_pos ⟨k2, by omega⟩, decide_eq_true ⟨u1, u2⟩]
        by_cases hr : (scl n num den).2.1 > 0
        · rw [if_pos hr]
          have e : upq (scl n num den) = (scl n num den).1 + 1 := by unfold upq; rw [if_pos hr]
          have w : wrap64 ((scl n num den).1 + 1) = (scl n num den).1 + 1 := by unfold wrap64; omega
          rw [w]
          exact fin _ (by omega) (by omega)
        · rw [if_neg hr]
          exact fin _ k2 (by omega)
      · rw [if_neg hs]
        simp only [Bool.false_eq_true, if_false]
    · rw [decide_eq_false h2]
      simp only [bournelaw09_SpanEncloses.j0, Bool.not_false, if_true]
  · rw [if_neg h1]
    simp only [bournelaw09_SpanEncloses.j0, if_true]

end Go.Proofs.Ytmlimfleekddgaa.Pure
