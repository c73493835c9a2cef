/- CurveSlopes holds: a true slope limits every rise, a steeper one is true, too, and each part of the curve has it. No conditions beyond the statement's own. -/
import Derived.Test.YtoiclhdkgalhcaaLx1
import Derived.Test.YtoiclhdkgalhcaaWf
namespace Go.Proofs.Ytoiclhdkgalhcaa.Pure
open Go.Proofs.Ytoiclhdkgalhcaa.S
open Go.RowKit Go.Proofs.Ytoiclhdkgalhcaa.L Go.Proofs.YtoiclhdkgalhcaaW.PrintWords Go.Proofs.YtoiclhdkgalhcaaW.PrintMore
theorem two : ∀ {l : List S37} {j : Nat}, j + 1 < l.length → (l.take (j + 2)).drop j = [rd_T37 l j, rd_T37 l (j + 1 : Nat)]
  | [], _, h => absurd h (by simp)
  | [_], 0, h => absurd h (by simp)
  | _ :: _ :: _, 0, _ => rfl
  | _ :: l, j + 1, h => two (l := l) (j := j) (by simpa using h)
theorem slope_two {l : List S37} {n d : Int} {j : Nat} (h : slope l n d) (hj : j + 1 < l.length) : slope [rd_T37 l j, rd_T37 l (j + 1 : Nat)] n d := by
  refine ⟨⟨right_in h.1 j (by omega), ⟨(right_step h.1 j hj).1, (right_step h.1 j hj).2, right_in h.1 (j + 1) hj, trivial⟩, by simp⟩, h.2.1, fun i h1 h2 => ?_⟩
  obtain rfl : i = 1 := by simp at h2; omega
  have := h.2.2 (j + 1) (by omega) hj
  rw [Nat.add_sub_cancel] at this
  exact this
theorem slope_num {l : List S37} {n d : Int} (h : slope l n d) (hn : n < 1125899906842624) : slope l (n + 1) d := by
  refine ⟨h.1, by have := h.2.1; omega, fun j h1 h2 => ?_⟩
  have h3 := h.2.2 j h1 h2
  obtain ⟨i, rfl⟩ : ∃ i, j = i + 1 := ⟨j - 1, by omega⟩
  rw [Nat.add_sub_cancel] at *
  have := right_step h.1 i h2
  rw [Int.add_mul, Int.one_mul]
  omega
theorem slope_den {l : List S37} {n d : Int} (h : slope l n d) (hd : d > 1) : slope l n (d - 1) := by
  refine ⟨h.1, by have := h.2.1; omega, fun j h1 h2 => ?_⟩
  have h3 := h.2.2 j h1 h2
  obtain ⟨i, rfl⟩ : ∃ i, j = i + 1 := ⟨j - 1, by omega⟩
  rw [Nat.add_sub_cancel] at *
  have := right_step h.1 i h2
  rw [Int.mul_sub, Int.mul_one]
  omega
theorem slope_ev {K : Int} {l : List S37} {n d : Int} (h : slope l n d) (hK : isK K l) (x : Int) (k : Nat) : d * (ev K l (x + k) - ev K l x) ≤ k * (n * K) := by
  obtain ⟨hR, hb, hs⟩ := h
  induction k with
  | zero => simp
  | succ k ih =>
    rw [show x + ((k + 1 : Nat) : Int) = x + k + 1 by omega]
    have step : d * (ev K l (x + k + 1) - ev K l (x + k)) ≤ n * K := by
      rcases ev_step hR hK (x + k) with h | ⟨j, hj, h⟩
      · rw [h, Int.sub_self, Int.mul_zero]
        exact Int.mul_nonneg (by omega) (by have := hK.1; omega)
      · rw [h, Int.add_comm, Int.add_sub_cancel]
        have h1 := hs (j + 1) (by omega) hj
        rw [Nat.add_sub_cancel] at h1
        have h2 := Int.mul_le_mul_of_nonneg_right h1 (quot_pos hR hK hj)
        rw [Int.mul_assoc n, Int.mul_ediv_cancel' (hK.2 j hj)] at h2
        rw [← Int.mul_assoc, Int.mul_comm d]
        exact h2
    have e1 : d * (ev K l (x + k + 1) - ev K l x) = d * (ev K l (x + k + 1) - ev K l (x + k)) + d * (ev K l (x + k) - ev K l x) := by rw [← Int.mul_add]; congr 1; omega
    have e2 : ((k + 1 : Nat) : Int) * (n * K) = k * (n * K) + n * K := by
      rw [show ((k + 1 : Nat) : Int) = (k : Int) + 1 by omega, Int.add_mul, Int.one_mul]
    rw [e1, e2]
    omega
theorem slope_aval {l : List S37} {n d : Int} (h : slope l n d) (x k : Int) (hk : 0 ≤ k) : aval l (x + k) - aval l x ≤ cdiv (k * n) d := by
  have hR := h.1
  obtain ⟨K, hK⟩ := isK_ex l hR
  have hk0 := hK.1
  have hd : 1 ≤ d := h.2.1.2.2.1
  have hs := slope_ev h hK x k.toNat
  rw [show ((k.toNat : Nat) : Int) = k by omega] at hs
  rw [aval_ev hR hK, aval_ev hR hK]
  generalize ev K l (x + k) = B at *
  generalize ev K l x = A at *
  have hA := Int.mul_ediv_add_emod A K
  have hA1 := Int.emod_lt_of_pos A hk0
  have hA0 := Int.emod_nonneg A (show K ≠ 0 by omega)
  have hB := Int.mul_ediv_add_emod B K
  have hB0 := Int.emod_nonneg B (show K ≠ 0 by omega)
  have lt : K * (B / K - A / K - 1) < B - A := by
    rw [Int.mul_sub, Int.mul_sub, Int.mul_one]; omega
  have c1 : k * n ≤ d * cdiv (k * n) d := (cdiv_le (by omega)).1 (Int.le_refl _)
  apply Int.le_of_lt_add_one
  apply Int.lt_of_sub_pos
  have h1 : d * (K * (B / K - A / K - 1)) < d * (K * cdiv (k * n) d) := by
    have s1 := Int.mul_lt_mul_of_pos_left lt (show 0 < d by omega)
    have s2 := Int.mul_le_mul_of_nonneg_right c1 (show 0 ≤ K by omega)
    rw [Int.mul_assoc d, Int.mul_comm (cdiv _ _) K] at s2
    rw [← Int.mul_assoc] at hs
    omega
  have h2 := Int.lt_of_mul_lt_mul_left (Int.lt_of_mul_lt_mul_left h1 (by omega)) (by omega : 0 ≤ K)
  omega
theorem aval_in {c : List S37} (hR : right c) (x : Int) : 0 ≤ aval c x ∧ aval c x ≤ 1125899906842624 := by
  have hp := right_pos hR
  have b0 : 0 ≤ Y c 0 := (right_in hR 0 (by omega)).2.2.1
  have b1 : Y c (c.length - 1) ≤ 1125899906842624 := (right_in hR (c.length - 1) (by omega)).2.2.2
  constructor
  · rcases Int.le_total x (X c 0) with h3 | h3
    · rw [aval_left hR h3]; exact b0
    · have := aval_mono hR h3
      rw [aval_point hR (by omega)] at this
      omega
  · rcases Int.le_total x (X c (c.length - 1)) with h3 | h3
    · have := aval_mono hR h3
      rw [aval_point hR (by omega)] at this
      omega
    · rw [aval_right hR h3]; exact b1
theorem cs_end {c : List S37} {n d x e : Int} (la : c.length < 4611686018427387904) (x0 : 0 ≤ x) (x1 : x ≤ 1125899906842624) (e0 : 0 ≤ e) (e1 : e ≤ 1125899906842624) :
    (if decide (slope c n d) = true then ((exact_Scale.f e n d).bind fun bt => (if bt.2.1 > 0 then (if true = true then (if bt.2.2 = true then ((curve_At.f c (wrap64 (x + e))).bind fun t114 => ((curve_At.f c x).bind fun t115 => (some (decide ((wrap64 (t114 - t115)) ≤ (wrap64 (bt.1 + 1))))))) else (some true)) else (some false)) else (if true = true then (if bt.2.2 = true then ((curve_At.f c (wrap64 (x + e))).bind fun t116 => ((curve_At.f c x).bind fun t117 => (some (decide ((wrap64 (t116 - t117)) ≤ bt.1))))) else (some true)) else (some false)))) else (some true)) = some true := by
  by_cases hs : slope c n d
  case neg => rw [if_neg (by simpa using hs)]
  rw [if_pos (decide_eq_true hs)]
  have hR := hs.1
  have hb := hs.2.1
  have hw : wrap64 (x + e) = x + e := wid (by omega) (by omega)
  have v1 := aval_in hR (x + e)
  have v2 := aval_in hR x
  have hd : wrap64 (aval c (x + e) - aval c x) = aval c (x + e) - aval c x := wid (by omega) (by omega)
  have hsl := slope_aval hs x e e0
  unfold exact_Scale.f curve_At.f
  simp only [if_pos la, Option.bind_some, hw, hd]
  unfold scl
  by_cases hf : e * n / d ≤ 1125899906842624
  · have hc : 0 ≤ e ∧ e ≤ 1125899906842624 ∧ 0 ≤ n ∧ n ≤ 1125899906842624 ∧ 1 ≤ d ∧ d ≤ 1125899906842624 ∧ e * n / d ≤ 1125899906842624 := ⟨e0, e1, hb.1, hb.2.1, hb.2.2.1, hb.2.2.2, hf⟩
    simp only [if_pos hc, if_true]
    have hq : 0 ≤ e * n / d := Int.ediv_nonneg (Int.mul_nonneg e0 hb.1) (by omega)
    have hw2 : wrap64 (e * n / d + 1) = e * n / d + 1 := wid (by omega) (by omega)
    unfold cdiv at hsl
    simp only [hw2]
    by_cases hr : e * n % d > 0
    · rw [if_pos hr] at hsl ⊢
      rw [decide_eq_true hsl]
    · rw [if_neg hr] at hsl ⊢
      rw [decide_eq_true hsl]
  · have hc : ¬ (0 ≤ e ∧ e ≤ 1125899906842624 ∧ 0 ≤ n ∧ n ≤ 1125899906842624 ∧ 1 ≤ d ∧ d ≤ 1125899906842624 ∧ e * n / d ≤ 1125899906842624) := fun h => hf h.2.2.2.2.2.2
    simp [if_neg hc]
theorem cs_loop {c : List S37} {n d x e : Int} (hl : ¬ (c.length : Int) > 40) (x0 : 0 ≤ x) (x1 : x ≤ 1125899906842624) (e0 : 0 ≤ e) (e1 : e ≤ 1125899906842624) : ∀ m j, 1 ≤ j → c.length ≤ m + j →
    ∃ k, bournelaw10_CurveSlopes.l0 k c n d x e true (decide (slope c n d)) (j : Int) = some true := by
  have la : c.length < 4611686018427387904 := by omega
  intro m
  induction m with
  | zero =>
    intro j h1 hj
    refine ⟨1, ?_⟩
    rw [bournelaw10_CurveSlopes.l0, if_neg (by omega)]
    exact cs_end la x0 x1 e0 e1
  | succ m ih =>
    intro j h1 hj
    obtain ⟨k, hk⟩ := ih (j + 1) (by omega) (by omega)
    refine ⟨k + 1, ?_⟩
    by_cases hjl : j < c.length
    case neg =>
      rw [bournelaw10_CurveSlopes.l0, if_neg (by omega)]
      exact cs_end la x0 x1 e0 e1
    obtain ⟨i, rfl⟩ : ∃ i, j = i + 1 := ⟨j - 1, by omega⟩
    have hw := wsuc (i := i + 1) (by omega)
    have hp := wpre (i := i + 1) (by omega) (by omega)
    rw [Nat.add_sub_cancel] at hp
    rw [bournelaw10_CurveSlopes.l0, if_pos (by omega), hw, hp, hk, Int.toNat_natCast, Int.toNat_natCast, two hjl]
    unfold curve_Right.f curve_Slope.f
    rw [if_pos la, if_pos (show [rd_T37 c i, rd_T37 c (i + 1 : Nat)].length < 4611686018427387904 by simp)]
    simp only [Option.bind_some]
    by_cases hR : right c
    case neg =>
      rw [if_neg (by simpa using hR)]
      exact cs_end la x0 x1 e0 e1
    rw [if_pos (decide_eq_true hR), if_pos (by omega), if_pos (by omega), if_pos (by omega)]
    by_cases hs : slope c n d
    · rw [if_pos (decide_eq_true hs), if_pos (decide_eq_true (slope_two hs hjl))]
    · rw [if_neg (by simpa using hs)]
theorem CurveSlopes (c : List S37) (n d x e : Int) (_ : c.length ≤ maxLen) (hn : (Lit.int .i64 n).wf = true) (hd : (Lit.int .i64 d).wf = true) (_ : (Lit.int .i64 x).wf = true) (_ : (Lit.int .i64 e).wf = true) :
    ∃ k, bournelaw10_CurveSlopes.f k c n d x e = some true := by
  have bn := i64b hn
  have bd := i64b hd
  unfold bournelaw10_CurveSlopes.f bournelaw10_small.f
  simp only [Option.bind_some]
  by_cases h1 : (c.length : Int) > 40
  · exact ⟨0, by rw [if_pos h1]⟩
  by_cases h2 : x < 0
  · exact ⟨0, by rw [if_neg h1, if_pos h2]⟩
  by_cases h3 : x > 1125899906842624
  · exact ⟨0, by rw [if_neg h1, if_neg h2, if_pos h3]⟩
  by_cases h4 : e < 0
  · exact ⟨0, by rw [if_neg h1, if_neg h2, if_neg h3, if_pos h4]⟩
  by_cases h5 : e > 1125899906842624
  · exact ⟨0, by rw [if_neg h1, if_neg h2, if_neg h3, if_neg h4, if_pos h5]⟩
  have la : c.length < 4611686018427387904 := by omega
  obtain ⟨k, hk⟩ := cs_loop (n := n) (d := d) h1 (show 0 ≤ x by omega) (by omega) (show 0 ≤ e by omega) (by omega) c.length 1 (Nat.le_refl _) (by omega)
  refine ⟨k, ?_⟩
  rw [if_neg h1, if_neg h2, if_neg h3, if_neg h4, if_neg h5]
  unfold curve_Slope.f
  simp only [if_pos la, Option.bind_some]
  have hk' : bournelaw10_CurveSlopes.l0 k c n d x e true (decide (slope c n d)) 1 = some true := hk
  rw [hk']
  by_cases hs : slope c n d
  case neg => rw [if_neg (by simpa using hs)]
  rw [if_pos (decide_eq_true hs)]
  have hb := hs.2.1
  have hden : (if d > 1 then (if decide (slope c n (wrap64 (d - 1))) = true then some true else some false) else some true) = some true := by
    by_cases h6 : d > 1
    · rw [if_pos h6, wid (x := d - 1) (by omega) (by omega), if_pos (decide_eq_true (slope_den hs h6))]
    · rw [if_neg h6]
  by_cases h7 : n < 1125899906842624
  · rw [if_pos h7, wid (x := n + 1) (by omega) (by omega), if_pos (decide_eq_true (slope_num hs h7))]
    exact hden
  · rw [if_neg h7]
    exact hden
end Go.Proofs.Ytoiclhdkgalhcaa.Pure
