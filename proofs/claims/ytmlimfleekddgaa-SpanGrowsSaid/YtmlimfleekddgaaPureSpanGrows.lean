/- SpanGrows holds: for spans within others the sums, differences, meetings and scaled spans lie within theirs, and the width does not decrease. No conditions beyond the statement's own. -/
import Derived.Test.YtmlimfleekddgaaGx1
import Derived.Test.YtmlimfleekddgaaWf
namespace Go.Proofs.Ytmlimfleekddgaa.Pure
open Go.Proofs.Ytmlimfleekddgaa.S
open Go.RowKit Go.Proofs.Ytmlimfleekddgaa.G Go.Proofs.YtmlimfleekddgaaW.PrintWords Go.Proofs.YtmlimfleekddgaaW.PrintMore

theorem sat_mono {x y : Int} (h : x ≤ y) : sat x ≤ sat y := by unfold sat; (repeat' split) <;> omega
theorem mx_mono {a b c d : Int} (h1 : a ≤ c) (h2 : b ≤ d) : mx a b ≤ mx c d := by unfold mx; split <;> split <;> omega
theorem mn_mono {a b c d : Int} (h1 : a ≤ c) (h2 : b ≤ d) : mn a b ≤ mn c d := by unfold mn; split <;> split <;> omega

theorem scl_true {a n d : Int} (h : (scl a n d).2.2 = true) : 0 ≤ a ∧ a ≤ 1125899906842624 ∧ 0 ≤ n ∧ n ≤ 1125899906842624 ∧ 1 ≤ d ∧ d ≤ 1125899906842624 ∧ a * n / d ≤ 1125899906842624 ∧ scl a n d = (a * n / d, a * n % d, true) := by
  unfold scl at h ⊢
  split at h
  · rename_i hc
    rw [if_pos hc]
    exact ⟨hc.1, hc.2.1, hc.2.2.1, hc.2.2.2.1, hc.2.2.2.2.1, hc.2.2.2.2.2.1, hc.2.2.2.2.2.2, rfl⟩
  · cases h

theorem scl_between {a x b n d : Int} (h1 : a ≤ x) (h2 : x ≤ b) (ha : (scl a n d).2.2 = true) (hb : (scl b n d).2.2 = true) :
    (scl x n d).2.2 = true ∧ (scl a n d).1 ≤ (scl x n d).1 ∧ upq (scl x n d) ≤ upq (scl b n d) := by
  obtain ⟨a0, a1, n0, n1, d0, d1, aq, ea⟩ := scl_true ha
  obtain ⟨b0, b1, _, _, _, _, bq, eb⟩ := scl_true hb
  have m1 : a * n ≤ x * n := Int.mul_le_mul_of_nonneg_right h1 n0
  have m2 : x * n ≤ b * n := Int.mul_le_mul_of_nonneg_right h2 n0
  have q1 := Int.ediv_le_ediv (show 0 < d by omega) m1
  have q2 := Int.ediv_le_ediv (show 0 < d by omega) m2
  have ex : scl x n d = (x * n / d, x * n % d, true) := by
    unfold scl
    rw [if_pos ⟨by omega, by omega, n0, n1, d0, d1, by omega⟩]
  rw [ea, eb, ex]
  refine ⟨rfl, q1, ?_⟩
  unfold upq
  have r1 := Int.mul_ediv_add_emod (x * n) d
  have r2 := Int.mul_ediv_add_emod (b * n) d
  have s1 := Int.emod_nonneg (x * n) (show d ≠ 0 by omega)
  have s2 := Int.emod_nonneg (b * n) (show d ≠ 0 by omega)
  dsimp only
  by_cases hq : x * n / d = b * n / d
  · rw [hq] at r1 ⊢
    split <;> split <;> omega
  · split <;> split <;> omega

theorem j2_ok (k : Nat) (a b c d e f g h : Int) (h1 : e ≤ a) (h2 : b ≤ f) (h3 : g ≤ c) (h4 : d ≤ h) : bournelaw09_SpanGrows.j2 (k + 1) true false a b c d e f g h = some true := by
  simp only [bournelaw09_SpanGrows.j2, Bool.false_eq_true, if_false, if_true]
  unfold span_Join.f span_Within.f
  simp only [Option.bind_some]
  rw [decide_eq_true ⟨mn_mono h1 h3, mx_mono h2 h4⟩]

theorem j1_ok (k : Nat) (num den a b c d e f g h : Int) (hab : a ≤ b) (h1 : e ≤ a) (h2 : b ≤ f) (h3 : g ≤ c) (h4 : d ≤ h) : bournelaw09_SpanGrows.j1 (k + 2) num den true false a b c d e f g h = some true := by
  have k2 := j2_ok k a b c d e f g h h1 h2 h3 h4
  simp only [bournelaw09_SpanGrows.j1, Bool.false_eq_true, if_false]
  unfold span_Meet.f span_Scale.f span_Within.f
  simp only [Option.bind_some, decide_eq_true_eq]
  have m1 := mx_mono h1 h3
  have m2 := mn_mono h2 h4
  have sc : (if (sscl e f num den).2.2 = true then (if (sscl a b num den).2.2 = true then bournelaw09_SpanGrows.j2 (k + 1) true (!decide ((sscl e f num den).1 ≤ (sscl a b num den).1 ∧ (sscl a b num den).2.1 ≤ (sscl e f num den).2.1)) a b c d e f g h
      else bournelaw09_SpanGrows.j2 (k + 1) true true a b c d e f g h) else bournelaw09_SpanGrows.j2 (k + 1) true false a b c d e f g h) = some true := by
    by_cases hs : e ≤ f ∧ (scl e num den).2.2 = true ∧ (scl f num den).2.2 = true ∧ upq (scl f num den) ≤ 1125899906842624
    · obtain ⟨x1, x2, x3⟩ := scl_between h1 (show a ≤ f by omega) hs.2.1 hs.2.2.1
      obtain ⟨y1, y2, y3⟩ := scl_between (show e ≤ b by omega) h2 hs.2.1 hs.2.2.1
      have es : sscl e f num den = ((scl e num den).1, upq (scl f num den), true) := by unfold sscl; rw [if_pos hs]
      have ea : sscl a b num den = ((scl a num den).1, upq (scl b num den), true) := by unfold sscl; rw [if_pos ⟨hab, x1, y1, by omega⟩]
      rw [es, ea, if_pos rfl, if_pos rfl, decide_eq_true ⟨x2, y3⟩]
      exact k2
    · have es : sscl e f num den = (0, 0, false) := by unfold sscl; rw [if_neg hs]
      rw [es, if_neg (by decide)]
      exact k2
  by_cases hm : mx a c ≤ mn b d
  · have e1 : meet a b c d = (mx a c, mn b d, true) := by unfold meet; rw [if_pos hm]
    have e2 : meet e f g h = (mx e g, mn f h, true) := by unfold meet; rw [if_pos (by omega)]
    rw [e1, e2, if_pos rfl, if_pos rfl, if_pos ⟨m1, m2⟩]
    exact sc
  · have e1 : meet a b c d = (0, 0, false) := by unfold meet; rw [if_neg hm]
    rw [e1, if_neg (by decide)]
    exact sc

theorem SpanGrows (a b c d e f g h num den : Int) (ha : (Lit.int .i64 a).wf = true) (hb : (Lit.int .i64 b).wf = true) (hc : (Lit.int .i64 c).wf = true) (hd : (Lit.int .i64 d).wf = true)
    (he : (Lit.int .i64 e).wf = true) (hf : (Lit.int .i64 f).wf = true) (hg : (Lit.int .i64 g).wf = true) (hh : (Lit.int .i64 h).wf = true) (_ : (Lit.int .i64 num).wf = true) (_ : (Lit.int .i64 den).wf = true) :
    ∃ k, bournelaw09_SpanGrows.f k a b c d e f g h num den = some true := by
  have ia : I64 a := by have := i64b ha; unfold I64; omega
  have ib : I64 b := by have := i64b hb; unfold I64; omega
  have ic : I64 c := by have := i64b hc; unfold I64; omega
  have id : I64 d := by have := i64b hd; unfold I64; omega
  have ie : I64 e := by have := i64b he; unfold I64; omega
  have if' : I64 f := by have := i64b hf; unfold I64; omega
  have ig : I64 g := by have := i64b hg; unfold I64; omega
  have ih : I64 h := by have := i64b hh; unfold I64; omega
  refine ⟨3, ?_⟩
  have bad : bournelaw09_SpanGrows.j0 3 num den true true a b c d e f g h = some true := by simp only [bournelaw09_SpanGrows.j0, if_true]
  unfold bournelaw09_SpanGrows.f bournelaw09_small.f span_Right.f span_Within.f
  simp only [Option.bind_some, decide_eq_true_eq]
  by_cases hab : a ≤ b
  · by_cases hcd : c ≤ d
    · by_cases h1 : e ≤ a ∧ b ≤ f
      · by_cases h2 : g ≤ c ∧ d ≤ h
        · rw [if_pos hab, if_pos hcd, if_pos h1, decide_eq_true h2]
          simp only [bournelaw09_SpanGrows.j0, Bool.not_true, Bool.false_eq_true, if_false]
          unfold span_Add.f span_Sub.f span_Width.f span_Within.f
          rw [if_pos ⟨ia, ib, ic, id⟩, if_pos ⟨ie, if', ig, ih⟩, if_pos ⟨ia, ib, ic, id⟩, if_pos ⟨ie, if', ig, ih⟩, if_pos ⟨ia, ib⟩, if_pos ⟨ie, if'⟩]
          simp only [Option.bind_some, decide_eq_true_eq]
          rw [if_pos ⟨sat_mono (by omega), sat_mono (by omega)⟩, if_pos ⟨sat_mono (by omega), sat_mono (by omega)⟩, decide_eq_false (by have := sat_mono (show b - a ≤ f - e by omega); omega)]
          exact j1_ok 0 num den a b c d e f g h hab h1.1 h1.2 h2.1 h2.2
        · rw [if_pos hab, if_pos hcd, if_pos h1, decide_eq_false h2]; exact bad
      · rw [if_pos hab, if_pos hcd, if_neg h1]; exact bad
    · rw [if_pos hab, if_neg hcd]; exact bad
  · rw [if_neg hab]; exact bad

end Go.Proofs.Ytmlimfleekddgaa.Pure
