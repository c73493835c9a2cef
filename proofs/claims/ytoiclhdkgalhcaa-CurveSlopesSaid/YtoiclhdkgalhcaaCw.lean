/- Curves: monotonic; the comparison at the points is that of the functions; slopes; the least number at which a value is reached. -/
import Derived.Test.YtoiclhdkgalhcaaCv
import Derived.Test.YtoiclhdkgalhcaaLs
namespace Go.Proofs.Ytoiclhdkgalhcaa.S
open Go.RowKit
set_option linter.unusedVariables false
theorem aval_ev {K : Int} {l : List S37} (hR : right l) (hK : isK K l) (x : Int) : aval l x = ev K l x / K := by
  unfold aval; rw [if_pos hR]; exact (atv_ev hR hK x).1
theorem aval_mono {l : List S37} (hR : right l) {x z : Int} (h : x ≤ z) : aval l x ≤ aval l z := by
  obtain ⟨K, hK⟩ := isK_ex l hR
  rw [aval_ev hR hK, aval_ev hR hK]
  obtain ⟨d, hd⟩ : ∃ d : Nat, z = x + d := ⟨(z - x).toNat, by omega⟩
  rw [hd]
  exact Int.ediv_le_ediv hK.1 (ev_mono hR hK x d)
theorem aval_point {l : List S37} (hR : right l) {j : Nat} (hj : j < l.length) : aval l (X l j) = Y l j := by
  obtain ⟨K, hK⟩ := isK_ex l hR
  have := hK.1
  rw [aval_ev hR hK, ev_point hR hK hj, Int.mul_ediv_cancel_left _ (by omega)]
theorem aval_left {l : List S37} (hR : right l) {x : Int} (h : x ≤ X l 0) : aval l x = Y l 0 := by
  obtain ⟨K, hK⟩ := isK_ex l hR
  have := hK.1
  rw [aval_ev hR hK, ev_left hR h, Int.mul_ediv_cancel_left _ (by omega)]
theorem aval_right {l : List S37} (hR : right l) {x : Int} (h : X l (l.length - 1) ≤ x) : aval l x = Y l (l.length - 1) := by
  obtain ⟨K, hK⟩ := isK_ex l hR
  have := hK.1
  rw [aval_ev hR hK, ev_right hR hK h, Int.mul_ediv_cancel_left _ (by omega)]
/-- in a segment, as a quotient -/
theorem aval_seg {l : List S37} (hR : right l) {j : Nat} (hj : j + 1 < l.length) {x : Int} (h1 : X l j < x) (h2 : x ≤ X l (j + 1)) : aval l x = Y l j + (Y l (j + 1) - Y l j) * (x - X l j) / (X l (j + 1) - X l j) := by
  unfold aval atv
  rw [if_pos hR, ix_mid hR hj h1 h2, if_neg (by omega), if_neg (by omega), Nat.add_sub_cancel]
  rfl
/-! ### the comparison -/
/-- no value of D below 0, where D is linear but at points at which it is not below 0, and constant at both ends -/
theorem min_right {D : Int → Int} {B : Int → Prop} (hB : ∀ x, B x → 0 ≤ D x) (hl : ∀ x, ¬ B x → D (x + 1) + D (x - 1) = 2 * D x) {R : Int} (hR : ∀ x, R ≤ x → D x = D R) (hBR : B R) : ∀ (n : Nat) (x : Int), R - x ≤ n → D x < 0 → D (x + 1) ≤ D x → False := by
  intro n
  induction n with
  | zero =>
    intro x hx h0 _
    have := hR x (by omega)
    have := hB R hBR
    omega
  | succ n ih =>
    intro x hx h0 h1
    have hb : ¬ B (x + 1) := fun h => by have := hB _ h; omega
    have := hl (x + 1) hb
    rw [show x + 1 - 1 = x by omega] at this
    exact ih (x + 1) (by omega) (by omega) (by omega)
theorem min_left {D : Int → Int} {B : Int → Prop} (hB : ∀ x, B x → 0 ≤ D x) (hl : ∀ x, ¬ B x → D (x + 1) + D (x - 1) = 2 * D x) {L : Int} (hL : ∀ x, x ≤ L → D x = D L) (hBL : B L) : ∀ (n : Nat) (x : Int), x - L ≤ n → D x < 0 → D (x - 1) ≤ D x → False := by
  intro n
  induction n with
  | zero =>
    intro x hx h0 _
    have := hL x (by omega)
    have := hB L hBL
    omega
  | succ n ih =>
    intro x hx h0 h1
    have hb : ¬ B (x - 1) := fun h => by have := hB _ h; omega
    have := hl (x - 1) hb
    rw [show x - 1 + 1 = x by omega] at this
    exact ih (x - 1) (by omega) (by omega) (by omega)
theorem under_iff {a b : List S37} {K : Int} (ha : right a) (hb : right b) (hKa : isK K a) (hKb : isK K b) : under a b ↔ ∀ x, ev K a x ≤ ev K b x := by
  have la := right_pos ha
  have lb := right_pos hb
  have hk := hKa.1
  constructor
  · rintro ⟨_, _, h1, h2⟩
    have p1 : ∀ j, j < a.length → ev K a (X a j) ≤ ev K b (X a j) := by
      intro j hj
      have := h1 j (Nat.zero_le _) hj
      rw [(atv_ev hb hKb _).1] at this
      rw [ev_point ha hKa hj, Int.mul_comm]
      exact (Int.le_ediv_iff_mul_le hk).1 this
    have p2 : ∀ j, j < b.length → ev K a (X b j) ≤ ev K b (X b j) := by
      intro j hj
      have := h2 j (Nat.zero_le _) hj
      rw [(atv_ev ha hKa _).2] at this
      rw [ev_point hb hKb hj]
      exact (cdiv_le hk).1 this
    intro x
    have nn : ¬ (ev K b x - ev K a x < 0) := by
      intro hneg
      have hB : ∀ z, ((∃ j, j < a.length ∧ X a j = z) ∨ ∃ j, j < b.length ∧ X b j = z) → 0 ≤ ev K b z - ev K a z := by
        rintro z (⟨j, hj, rfl⟩ | ⟨j, hj, rfl⟩)
        · have := p1 j hj; omega
        · have := p2 j hj; omega
      have hl : ∀ z, ¬ ((∃ j, j < a.length ∧ X a j = z) ∨ ∃ j, j < b.length ∧ X b j = z) → (ev K b (z + 1) - ev K a (z + 1)) + (ev K b (z - 1) - ev K a (z - 1)) = 2 * (ev K b z - ev K a z) := by
        intro z hz
        have h3 := ev_lin ha hKa (x := z) (fun j hj e => hz (.inl ⟨j, hj, e⟩))
        have h4 := ev_lin hb hKb (x := z) (fun j hj e => hz (.inr ⟨j, hj, e⟩))
        omega
      have hx : ¬ ((∃ j, j < a.length ∧ X a j = x) ∨ ∃ j, j < b.length ∧ X b j = x) := fun h => by have := hB x h; omega
      have hlx := hl x hx
      by_cases hd : ev K b (x + 1) - ev K a (x + 1) ≤ ev K b x - ev K a x
      · rcases Int.le_total (X a (a.length - 1)) (X b (b.length - 1)) with ho | ho
        · exact min_right hB hl (R := X b (b.length - 1)) (fun z hz => by rw [ev_right ha hKa (show X a (a.length - 1) ≤ z by omega), ev_right hb hKb hz, ev_right ha hKa ho, ev_right hb hKb (Int.le_refl _)]) (.inr ⟨_, by omega, rfl⟩) (X b (b.length - 1) - x).toNat x (by omega) hneg hd
        · exact min_right hB hl (R := X a (a.length - 1)) (fun z hz => by rw [ev_right ha hKa hz, ev_right hb hKb (show X b (b.length - 1) ≤ z by omega), ev_right ha hKa (Int.le_refl _), ev_right hb hKb ho]) (.inl ⟨_, by omega, rfl⟩) (X a (a.length - 1) - x).toNat x (by omega) hneg hd
      · have hd2 : ev K b (x - 1) - ev K a (x - 1) ≤ ev K b x - ev K a x := by omega
        rcases Int.le_total (X a 0) (X b 0) with ho | ho
        · exact min_left hB hl (L := X a 0) (fun z hz => by rw [ev_left ha hz, ev_left hb (show z ≤ X b 0 by omega), ev_left ha (Int.le_refl _), ev_left hb ho]) (.inl ⟨0, by omega, rfl⟩) (x - X a 0).toNat x (by omega) hneg hd2
        · exact min_left hB hl (L := X b 0) (fun z hz => by rw [ev_left ha (show z ≤ X a 0 by omega), ev_left hb hz, ev_left ha ho, ev_left hb (Int.le_refl _)]) (.inr ⟨0, by omega, rfl⟩) (x - X b 0).toNat x (by omega) hneg hd2
    omega
  · intro h
    refine ⟨ha, hb, fun j _ hj => ?_, fun j _ hj => ?_⟩
    · rw [(atv_ev hb hKb _).1]
      refine (Int.le_ediv_iff_mul_le hk).2 ?_
      have := h (X a j)
      rw [ev_point ha hKa hj, Int.mul_comm] at this
      exact this
    · rw [(atv_ev ha hKa _).2]
      refine (cdiv_le hk).2 ?_
      have := h (X b j)
      rw [ev_point hb hKb hj] at this
      exact this
/-- a common multiple for several curves -/
theorem isK_two {a b : List S37} (ha : right a) (hb : right b) : ∃ K, isK K a ∧ isK K b := by
  obtain ⟨K, h⟩ := isK_ex a ha
  obtain ⟨M, k⟩ := isK_ex b hb
  exact ⟨K * M, h.mul k.1, k.mul' h.1⟩
theorem isK_three {a b c : List S37} (ha : right a) (hb : right b) (hc : right c) : ∃ K, isK K a ∧ isK K b ∧ isK K c := by
  obtain ⟨K, h1, h2⟩ := isK_two ha hb
  obtain ⟨M, k⟩ := isK_ex c hc
  exact ⟨K * M, h1.mul k.1, h2.mul k.1, k.mul' h1.1⟩
theorem under_refl {a : List S37} (ha : right a) : under a a := by
  obtain ⟨K, h⟩ := isK_ex a ha
  exact (under_iff ha ha h h).2 (fun x => Int.le_refl _)
theorem under_trans {a b c : List S37} (h1 : under a b) (h2 : under b c) : under a c := by
  obtain ⟨K, ka, kb, kc⟩ := isK_three h1.1 h1.2.1 h2.2.1
  exact (under_iff h1.1 h2.2.1 ka kc).2 (fun x => Int.le_trans ((under_iff h1.1 h1.2.1 ka kb).1 h1 x) ((under_iff h2.1 h2.2.1 kb kc).1 h2 x))
theorem under_aval {a b : List S37} (h : under a b) (x : Int) : aval a x ≤ aval b x := by
  obtain ⟨K, ka, kb⟩ := isK_two h.1 h.2.1
  rw [aval_ev h.1 ka, aval_ev h.2.1 kb]
  exact Int.ediv_le_ediv ka.1 ((under_iff h.1 h.2.1 ka kb).1 h x)
/-! ### slopes -/
/-! ### the least number -/
theorem iy_last {l : List S37} (hR : right l) (y : Int) : iy l y = l.length ↔ Y l (l.length - 1) < y := by
  have hl := right_pos hR
  constructor
  · intro h
    have := fi_before (p := fun j => decide (y ≤ (rd_T37 l j).f1)) (n := l.length) (t := l.length - 1) (by unfold iy at h; omega)
    have h3 : ¬ y ≤ Y l (l.length - 1) := of_decide_eq_false this
    omega
  · intro h
    refine fi_eq _ _ l.length (Nat.le_refl _) (fun t ht => ?_) (fun h => by omega)
    have := (rle hR t (l.length - 1) (by omega) (by omega)).2
    exact decide_eq_false (show ¬ y ≤ Y l t by omega)
theorem least_spec {l : List S37} (hR : right l) {y : Int} (hy : y ≤ Y l (l.length - 1)) :
    (leastr l y).2 = true ∧ 0 ≤ (leastr l y).1 ∧ (leastr l y).1 ≤ X l (l.length - 1) ∧ y ≤ aval l (leastr l y).1 ∧ ∀ x, 0 ≤ x → x < (leastr l y).1 → aval l x < y := by
  have hl := right_pos hR
  have hle : iy l y ≤ l.length := fi_le _ _
  have hne : iy l y ≠ l.length := fun h => by have := (iy_last hR y).1 h; omega
  have hin : ∀ j, j < l.length → 0 ≤ X l j := fun j hj => (right_in hR j hj).1
  unfold leastr
  rw [if_neg hne]
  by_cases h0 : iy l y = 0
  · rw [if_pos h0]
    have h1 := fi_hit (fun j => decide (y ≤ (rd_T37 l j).f1)) l.length (by unfold iy at h0; omega)
    unfold iy at h0
    rw [h0] at h1
    have h2 : y ≤ Y l 0 := of_decide_eq_true h1
    refine ⟨rfl, Int.le_refl _, hin _ (by omega), ?_, fun x hx0 hx1 => ?_⟩
    · show y ≤ aval l 0
      rw [aval_left hR (hin 0 (by omega))]; exact h2
    · have : x < 0 := hx1
      omega
  · rw [if_neg h0]
    obtain ⟨j, hj⟩ : ∃ j, iy l y = j + 1 := ⟨iy l y - 1, by omega⟩
    obtain ⟨b1, b2⟩ : Y l j < y ∧ y ≤ Y l (j + 1) := iy_between hj (by omega)
    have st := rstep hR j (by omega)
    rw [hj, Nat.add_sub_cancel]
    show true = true ∧ 0 ≤ X l j + cdiv ((y - Y l j) * (X l (j + 1) - X l j)) (Y l (j + 1) - Y l j) ∧ X l j + cdiv ((y - Y l j) * (X l (j + 1) - X l j)) (Y l (j + 1) - Y l j) ≤ X l (l.length - 1) ∧ y ≤ aval l (X l j + cdiv ((y - Y l j) * (X l (j + 1) - X l j)) (Y l (j + 1) - Y l j)) ∧ ∀ x, 0 ≤ x → x < X l j + cdiv ((y - Y l j) * (X l (j + 1) - X l j)) (Y l (j + 1) - Y l j) → aval l x < y
    generalize hdy : Y l (j + 1) - Y l j = dy at *
    generalize hdx : X l (j + 1) - X l j = dx at *
    have hdy0 : 0 < dy := by omega
    have hdx0 : 0 < dx := by omega
    generalize hc : cdiv ((y - Y l j) * dx) dy = c
    have hc1 : (y - Y l j) * dx ≤ dy * c := (cdiv_le hdy0).1 (by omega)
    have hc2 : ¬ (y - Y l j) * dx ≤ dy * (c - 1) := fun h => by have := (cdiv_le hdy0).2 h; omega
    have hcx : c ≤ dx := by
      rw [← hc]
      refine (cdiv_le hdy0).2 ?_
      exact Int.mul_le_mul_of_nonneg_right (by omega) (by omega)
    have hc0 : 0 < c := by
      by_cases h : 0 < c
      · exact h
      · have h3 := Int.mul_le_mul_of_nonneg_left (show c ≤ 0 by omega) (show 0 ≤ dy by omega)
        have h4 := Int.mul_pos (show 0 < y - Y l j by omega) hdx0
        omega
    have hlast := (rle hR (j + 1) (l.length - 1) (by omega) (by omega)).1
    have hX := hin j (by omega)
    refine ⟨rfl, by omega, by omega, ?_, fun x hx0 hx1 => ?_⟩
    · rw [aval_seg hR (by omega : j + 1 < l.length) (by omega) (by omega), hdy, hdx, Int.add_comm (X l j), Int.add_sub_cancel]
      have : y - Y l j ≤ dy * c / dx := (Int.le_ediv_iff_mul_le hdx0).2 hc1
      omega
    · have hm := aval_mono hR (show x ≤ X l j + (c - 1) by omega)
      refine Int.lt_of_le_of_lt hm ?_
      rcases Int.lt_or_eq_of_le (show 0 ≤ c - 1 by omega) with h5 | h5
      · rw [aval_seg hR (by omega : j + 1 < l.length) (by omega) (by omega), hdy, hdx, Int.add_comm (X l j), Int.add_sub_cancel]
        have : dy * (c - 1) / dx < y - Y l j := Int.ediv_lt_of_lt_mul hdx0 (by omega)
        omega
      · rw [← h5, Int.add_zero, aval_point hR (by omega)]
        exact b1
/-- a number up to which all values are below y, and at which it is reached, is the least -/
theorem least_unique {l : List S37} (hR : right l) {y L : Int} (h0 : 0 ≤ L) (h1 : y ≤ aval l L) (h2 : ∀ x, 0 ≤ x → x < L → aval l x < y) : leastr l y = (L, true) := by
  have hl := right_pos hR
  have hy : y ≤ Y l (l.length - 1) := by
    rcases Int.le_total L (X l (l.length - 1)) with h | h
    · have := aval_mono hR h
      rw [aval_point hR (by omega)] at this
      omega
    · rw [aval_right hR h] at h1; exact h1
  obtain ⟨s1, s2, s3, s4, s5⟩ := least_spec hR hy
  have e : (leastr l y).1 = L := by
    rcases Int.lt_trichotomy (leastr l y).1 L with h | h | h
    · have := h2 _ s2 h; omega
    · exact h
    · have := s5 L h0 h; omega
  exact Prod.ext e s1
end Go.Proofs.Ytoiclhdkgalhcaa.S
