/- CurveInverse holds: At is monotonic, passes through the points and lies between its neighbours; Least is its inverse. No conditions beyond the statement's own. -/
import Derived.Test.YtoiclhdkgalhcaaVx1
import Derived.Test.YtoiclhdkgalhcaaWf
namespace Go.Proofs.Ytoiclhdkgalhcaa.Pure
open Go.Proofs.Ytoiclhdkgalhcaa.S
open Go.RowKit Go.Proofs.Ytoiclhdkgalhcaa.V Go.Proofs.YtoiclhdkgalhcaaW.PrintWords Go.Proofs.YtoiclhdkgalhcaaW.PrintMore
theorem ci_end {c : List S37} (hR : right c) (x y : Int) (k : Nat) :
    bournelaw10_CurveInverse.l0 (k + 1) c x y true (aval c x) (c.length : Int) (c.length : Int) = some true := by
  have hp := right_pos hR
  have la : c.length < 4611686018427387904 := by omega
  have hw := wpre (by omega : 0 < c.length) la
  rw [bournelaw10_CurveInverse.l0, if_neg (Int.lt_irrefl _), hw]
  unfold curve_Least.f curve_At.f
  simp only [if_pos la, Option.bind_some]
  rw [if_pos (by omega), if_pos (by omega)]
  by_cases hy : y ≤ Y c (c.length - 1)
  · obtain ⟨b0, b1, b2, b3, b4⟩ := least_spec hR hy
    have hx := (right_in hR (c.length - 1) (by omega)).2.1
    have hx2 : X c (c.length - 1) ≤ 1125899906842624 := hx
    have e : least c y = leastr c y := by unfold least; rw [if_pos hR]
    rw [e]
    generalize leastr c y = p at *
    obtain ⟨L, ok⟩ := p
    simp only at b0 b1 b2 b3 b4
    subst b0
    have hwp : L > 0 → wrap64 (L - 1) = L - 1 := fun h => wid (by omega) (by omega)
    have n1 : ¬ L < 0 := by omega
    have n2 : ¬ aval c L < y := by omega
    have hiff : 0 ≤ x → (decide (aval c x ≥ y) == decide (L ≤ x)) = true := fun h0 => by
      by_cases hLx : L ≤ x
      · have := aval_mono hR hLx
        have h3 : aval c x ≥ y := by omega
        rw [decide_eq_true hLx, decide_eq_true h3]; rfl
      · have := b4 x h0 (by omega)
        have h3 : ¬ aval c x ≥ y := by omega
        rw [decide_eq_false hLx, decide_eq_false h3]; rfl
    have hdone : (if true = true then (if x < 0 then some true else some (decide (aval c x ≥ y) == decide (L ≤ x))) else some false) = some true := by
      rw [if_pos rfl]
      by_cases h0 : x < 0
      · rw [if_pos h0]
      · rw [if_neg h0, hiff (by omega)]
    have hy' : decide (y ≤ (rd_T37 c ((c.length - 1 : Nat) : Int)).f1) = true := decide_eq_true hy
    rw [hy']
    show (if ((true : Bool) != true) = true then some false else if true = true then _ else _) = _
    rw [if_neg (by decide), if_pos rfl]
    show (if L < 0 then _ else if aval c L < y then _ else _) = _
    rw [if_neg n1, if_neg n2]
    by_cases hL : L > 0
    · have h6 := b4 (L - 1) (by omega) (by omega)
      rw [if_pos hL, hwp hL, if_neg (by omega)]
      exact hdone
    · rw [if_neg hL]
      exact hdone
  · have e : least c y = (0, false) := by unfold least leastr; rw [if_pos hR, if_pos ((iy_last hR y).2 (by omega))]
    have hy' : decide (y ≤ (rd_T37 c ((c.length - 1 : Nat) : Int)).f1) = false := decide_eq_false hy
    rw [e, hy', if_neg (by decide), if_neg (by decide), if_pos trivial]
    by_cases h0 : x < 0
    · rw [if_pos h0]
    · rw [if_neg h0]
      have h3 : aval c x ≤ Y c (c.length - 1) := by
        rcases Int.le_total x (X c (c.length - 1)) with h1 | h1
        · have := aval_mono hR h1
          rw [aval_point hR (by omega)] at this
          exact this
        · rw [aval_right hR h1]; exact Int.le_refl _
      rw [decide_eq_false (by omega : ¬ aval c x ≥ y)]; rfl
theorem ci_loop {c : List S37} (hR : right c) (x y : Int) : ∀ n j, n + j = c.length →
    ∃ k, bournelaw10_CurveInverse.l0 k c x y true (aval c x) (c.length : Int) (j : Int) = some true := by
  have hp := right_pos hR
  have la : c.length < 4611686018427387904 := by omega
  intro n
  induction n with
  | zero =>
    intro j hj
    obtain rfl : j = c.length := by omega
    exact ⟨1, ci_end hR x y 0⟩
  | succ n ih =>
    intro j hj
    obtain ⟨k, hk⟩ := ih (j + 1) (by omega)
    refine ⟨k + 1, ?_⟩
    have hjl : j < c.length := by omega
    have hw := wsuc (i := j) (by omega)
    have hpt := aval_point hR hjl
    have h1 : x ≤ X c j → ¬ aval c x > Y c j := fun h => by have := aval_mono hR h; omega
    have h2 : x ≥ X c j → ¬ aval c x < Y c j := fun h => by have := aval_mono hR h; omega
    rw [bournelaw10_CurveInverse.l0, if_pos (by omega), if_pos (by omega), if_pos (by omega), hw, hk]
    unfold curve_At.f
    rw [if_pos la, Option.bind_some, if_pos hpt]
    have hge : (if x ≥ (rd_T37 c (j : Int)).f0 then (if aval c x < (rd_T37 c (j : Int)).f1 then some false else some true) else some true) = some true := by
      by_cases h : x ≥ (rd_T37 c (j : Int)).f0
      · rw [if_pos h, if_neg (h2 h)]
      · rw [if_neg h]
    by_cases h : x ≤ (rd_T37 c (j : Int)).f0
    · rw [if_pos h, if_neg (h1 h)]; exact hge
    · rw [if_neg h]; exact hge
theorem CurveInverse (c : List S37) (x z y : Int) (_ : c.length ≤ maxLen) (_ : (Lit.int .i64 x).wf = true) (_ : (Lit.int .i64 z).wf = true) (_ : (Lit.int .i64 y).wf = true) :
    ∃ k, bournelaw10_CurveInverse.f k c x z y = some true := by
  unfold bournelaw10_CurveInverse.f bournelaw10_small.f
  simp only [Option.bind_some]
  by_cases h1 : (c.length : Int) > 40
  · exact ⟨0, by rw [if_pos h1]⟩
  have la : c.length < 4611686018427387904 := by omega
  simp only [if_neg h1]
  unfold curve_Right.f curve_At.f
  simp only [if_pos la, Option.bind_some]
  by_cases hR : right c
  case neg => exact ⟨0, by rw [if_neg (by simpa using hR)]⟩
  simp only [if_pos (decide_eq_true hR)]
  by_cases h2 : x > z
  · exact ⟨0, by rw [if_pos h2]⟩
  have hp := right_pos hR
  have hw := wpre (by omega : 0 < c.length) la
  have hm := aval_mono hR (show x ≤ z by omega)
  obtain ⟨k, hk⟩ := ci_loop hR x y c.length 0 (by omega)
  have g1 : ¬ aval c x < Y c 0 := by
    rcases Int.le_total x (X c 0) with h3 | h3
    · rw [aval_left hR h3]; exact Int.lt_irrefl _
    · have := aval_mono hR h3
      rw [aval_point hR (by omega)] at this
      omega
  have g2 : ¬ aval c x > Y c (c.length - 1) := by
    rcases Int.le_total x (X c (c.length - 1)) with h3 | h3
    · have := aval_mono hR h3
      rw [aval_point hR (by omega)] at this
      omega
    · rw [aval_right hR h3]; exact Int.lt_irrefl _
  refine ⟨k, ?_⟩
  rw [if_neg h2, if_neg (by omega), if_pos (by omega), if_neg (show ¬ aval c x < (rd_T37 c 0).f1 from g1), hw, if_pos (by omega), if_pos (by omega), if_neg g2]
  exact hk
end Go.Proofs.Ytoiclhdkgalhcaa.Pure
