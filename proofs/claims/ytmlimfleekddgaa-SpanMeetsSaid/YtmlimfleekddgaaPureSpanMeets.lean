/- SpanMeets holds: for right spans an integer is in both exactly if Meet returns true and it is in its result, which lies within both; Join contains both. No conditions beyond the statement's own. -/
import Derived.Test.YtmlimfleekddgaaMx2
import Derived.Test.YtmlimfleekddgaaWf
namespace Go.Proofs.Ytmlimfleekddgaa.Pure
open Go.Proofs.Ytmlimfleekddgaa.S
open Go.RowKit Go.Proofs.Ytmlimfleekddgaa.M Go.Proofs.YtmlimfleekddgaaW.PrintWords Go.Proofs.YtmlimfleekddgaaW.PrintMore

theorem mx_eq (a b : Int) : mx a b = if a < b then b else a := rfl
theorem mn_eq (a b : Int) : mn a b = if b < a then b else a := rfl

theorem j3_ok (k : Nat) (a b c d : Int) : bournelaw09_SpanMeets.j3 (k + 1) true false a b c d (mn a c) (mx b d) = some true := by
  simp only [bournelaw09_SpanMeets.j3, Bool.false_eq_true, if_false, if_true]
  rw [mn_eq, mx_eq]
  by_cases h1 : c < a <;> by_cases h2 : b < d <;> simp [h1, h2]

theorem j2_ok (k : Nat) (n a b c d : Int) : bournelaw09_SpanMeets.j2 (k + 2) n true false a b c d (mn a c) (mx b d) = some true := by
  have w1 : mn a c ≤ a ∧ b ≤ mx b d := by rw [mn_eq, mx_eq]; constructor <;> split <;> omega
  have w2 : mn a c ≤ c ∧ d ≤ mx b d := by rw [mn_eq, mx_eq]; constructor <;> split <;> omega
  simp only [bournelaw09_SpanMeets.j2, Bool.false_eq_true, if_false]
  unfold span_Has.f span_Within.f
  simp only [Option.bind_some, decide_eq_true_eq]
  rw [if_pos w1, decide_eq_true w2, Bool.not_true]
  by_cases h : a ≤ n ∧ n ≤ b
  · rw [if_pos h, if_pos (by omega)]; exact j3_ok k a b c d
  · rw [if_neg h]
    by_cases h2 : c ≤ n ∧ n ≤ d
    · rw [if_pos h2, if_pos (by omega)]; exact j3_ok k a b c d
    · rw [if_neg h2]; exact j3_ok k a b c d

theorem SpanMeets (a b c d n : Int) (_ : (Lit.int .i64 a).wf = true) (_ : (Lit.int .i64 b).wf = true) (_ : (Lit.int .i64 c).wf = true) (_ : (Lit.int .i64 d).wf = true) (_ : (Lit.int .i64 n).wf = true) :
    ∃ k, bournelaw09_SpanMeets.f k a b c d n = some true := by
  refine ⟨4, ?_⟩
  unfold bournelaw09_SpanMeets.f bournelaw09_small.f span_Right.f
  simp only [Option.bind_some, decide_eq_true_eq]
  by_cases hab : a ≤ b
  · rw [if_pos hab]
    by_cases hcd : c ≤ d
    · rw [decide_eq_true hcd]
      simp only [bournelaw09_SpanMeets.j0, Bool.not_true, Bool.false_eq_true, if_false]
      unfold span_Meet.f span_Join.f span_Has.f
      simp only [Option.bind_some, decide_eq_true_eq]
      have m1 : mx a c = if a < c then c else a := rfl
      have m2 : mn b d = if d < b then d else b := rfl
      have j1 : ∀ both : Bool, (both = true ↔ (a ≤ n ∧ n ≤ b) ∧ (c ≤ n ∧ n ≤ d)) → bournelaw09_SpanMeets.j1 3 n true (meet a b c d).2.2 both a b c d (meet a b c d).1 (meet a b c d).2.1 (mn a c) (mx b d) = some true := by
        intro both hb
        unfold meet
        by_cases hm : mx a c ≤ mn b d
        · rw [if_pos hm]
          simp only [bournelaw09_SpanMeets.j1, if_true]
          unfold span_Has.f span_Within.f span_Right.f
          simp only [Option.bind_some, decide_eq_true_eq]
          have e : (both != decide (mx a c ≤ n ∧ n ≤ mn b d)) = false := by
            have : both = decide (mx a c ≤ n ∧ n ≤ mn b d) := by
              rw [Bool.eq_iff_iff, hb, decide_eq_true_eq, m1, m2]
              split <;> split <;> omega
            rw [this]; simp
          have h1 : a ≤ mx a c ∧ mn b d ≤ b := by rw [m1, m2]; constructor <;> split <;> omega
          have h2 : c ≤ mx a c ∧ mn b d ≤ d := by rw [m1, m2]; constructor <;> split <;> omega
          rw [e, if_neg (by decide), if_pos h1, if_pos h2, if_pos hm]
          exact j2_ok 1 n a b c d
        · rw [if_neg hm]
          simp only [bournelaw09_SpanMeets.j1, Bool.false_eq_true, if_false]
          have hf : both = false := by
            cases both with
            | false => rfl
            | true =>
              exfalso
              have := hb.1 rfl
              rw [m1, m2] at hm
              split at hm <;> split at hm <;> omega
          rw [hf]
          simp only [bne_self_eq_false, Bool.false_eq_true, if_false, BEq.rfl, Bool.not_true, Bool.or_self]
          exact j2_ok 1 n a b c d
      by_cases h1 : a ≤ n ∧ n ≤ b
      · rw [if_pos h1]
        exact j1 _ (by rw [decide_eq_true_eq]; exact ⟨fun h => ⟨h1, h⟩, fun h => h.2⟩)
      · rw [if_neg h1]
        exact j1 false ⟨fun h => (by cases h), fun h => absurd h.1 h1⟩
    · rw [decide_eq_false hcd]
      simp only [bournelaw09_SpanMeets.j0, Bool.not_false, if_true]
  · rw [if_neg hab]
    simp only [bournelaw09_SpanMeets.j0, if_true]

end Go.Proofs.Ytmlimfleekddgaa.Pure
