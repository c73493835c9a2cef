/- Curves as functions: the exact value times a common multiple of the distances; monotonic, linear between the points; the comparison where one of them bends is that of the functions. -/
import Derived.Test.YtoiclhdkgalhcaaCt
namespace Go.Proofs.Ytoiclhdkgalhcaa.S
open Go.RowKit
set_option linter.unusedVariables false
abbrev X (l : List S37) (j : Nat) : Int := (rd_T37 l (j : Int)).f0
abbrev Y (l : List S37) (j : Nat) : Int := (rd_T37 l (j : Int)).f1
theorem rstep {l : List S37} (h : right l) (j : Nat) (hj : j + 1 < l.length) : X l j < X l (j + 1) ∧ Y l j ≤ Y l (j + 1) := right_step h j hj
theorem rle {l : List S37} (h : right l) (i j : Nat) (hij : i ≤ j) (hj : j < l.length) : X l i ≤ X l j ∧ Y l i ≤ Y l j := right_le h i j hij hj
theorem ix_left {l : List S37} {x : Int} (hR : right l) (h : x ≤ X l 0) : ix l x = 0 := by
  have := right_pos hR
  exact fi_eq _ _ 0 (by omega) (fun t ht => by omega) (fun _ => decide_eq_true h)
theorem ix_mid {l : List S37} {x : Int} (hR : right l) {j : Nat} (hj : j + 1 < l.length) (h1 : X l j < x) (h2 : x ≤ X l (j + 1)) : ix l x = j + 1 := by
  refine fi_eq _ _ (j + 1) (by omega) (fun t ht => ?_) (fun _ => decide_eq_true h2)
  have := (rle hR t j (by omega) (by omega)).1
  exact decide_eq_false (show ¬ x ≤ X l t by omega)
theorem ix_right {l : List S37} {x : Int} (hR : right l) (h : X l (l.length - 1) < x) : ix l x = l.length := by
  have hl := right_pos hR
  refine fi_eq _ _ l.length (Nat.le_refl _) (fun t ht => ?_) (fun h => by omega)
  have := (rle hR t (l.length - 1) (by omega) (by omega)).1
  exact decide_eq_false (show ¬ x ≤ X l t by omega)
theorem x_cases {l : List S37} (hR : right l) (x : Int) : x ≤ X l 0 ∨ (∃ j, j + 1 < l.length ∧ X l j < x ∧ x ≤ X l (j + 1)) ∨ X l (l.length - 1) < x := by
  have hl := right_pos hR
  have hle : ix l x ≤ l.length := fi_le _ _
  rcases Nat.eq_zero_or_pos (ix l x) with h | h
  · left
    have := fi_hit (fun j => decide (x ≤ (rd_T37 l j).f0)) l.length (by unfold ix at h; omega)
    unfold ix at h
    rw [h] at this
    exact of_decide_eq_true this
  · rcases Nat.lt_or_ge (ix l x) l.length with h2 | h2
    · right; left
      obtain ⟨h3, h4⟩ := ix_between (l := l) (x := x) (j := ix l x - 1) hR (by omega) (by omega)
      exact ⟨ix l x - 1, by omega, h3, h4⟩
    · right; right
      have := fi_before (p := fun j => decide (x ≤ (rd_T37 l j).f0)) (n := l.length) (t := l.length - 1) (by unfold ix at h2; omega)
      have h3 : ¬ x ≤ X l (l.length - 1) := of_decide_eq_false this
      omega
/-- K is a multiple of each distance -/
def isK (K : Int) (l : List S37) : Prop := 0 < K ∧ ∀ j, j + 1 < l.length → (X l (j + 1) - X l j) ∣ K
theorem isK.mul {K M : Int} {l : List S37} (h : isK K l) (hM : 0 < M) : isK (K * M) l := ⟨Int.mul_pos h.1 hM, fun j hj => Int.dvd_trans (h.2 j hj) (Int.dvd_mul_right K M)⟩
theorem isK.mul' {K M : Int} {l : List S37} (h : isK K l) (hM : 0 < M) : isK (M * K) l := by rw [Int.mul_comm]; exact h.mul hM
theorem isK_ex (l : List S37) (hR : right l) : ∃ K, isK K l := by
  suffices h : ∀ n, ∃ K : Int, 0 < K ∧ ∀ j, j < n → j + 1 < l.length → (X l (j + 1) - X l j) ∣ K by
    obtain ⟨K, h1, h2⟩ := h l.length
    exact ⟨K, h1, fun j hj => h2 j (by omega) hj⟩
  intro n
  induction n with
  | zero => exact ⟨1, by decide, fun j hj => absurd hj (Nat.not_lt_zero _)⟩
  | succ n ih =>
    obtain ⟨K, h1, h2⟩ := ih
    by_cases hn : n + 1 < l.length
    · have := (rstep hR n hn).1
      refine ⟨K * (X l (n + 1) - X l n), Int.mul_pos h1 (by omega), fun j hj hjl => ?_⟩
      rcases Nat.lt_or_ge j n with h | h
      · exact Int.dvd_trans (h2 j h hjl) (Int.dvd_mul_right _ _)
      · obtain rfl : j = n := by omega
        exact Int.dvd_mul_left _ _
    · exact ⟨K, h1, fun j hj hjl => h2 j (by omega) hjl⟩
/-- the exact value, times K -/
def ev (K : Int) (l : List S37) (x : Int) : Int :=
  if ix l x = 0 then K * Y l 0 else if ix l x = l.length then K * Y l (ix l x - 1)
  else K * Y l (ix l x - 1) + (Y l (ix l x) - Y l (ix l x - 1)) * (x - X l (ix l x - 1)) * (K / (X l (ix l x) - X l (ix l x - 1)))
theorem ev_left {K : Int} {l : List S37} {x : Int} (hR : right l) (h : x ≤ X l 0) : ev K l x = K * Y l 0 := by
  unfold ev; rw [if_pos (ix_left hR h)]
theorem ev_mid {K : Int} {l : List S37} {x : Int} (hR : right l) {j : Nat} (hj : j + 1 < l.length) (h1 : X l j < x) (h2 : x ≤ X l (j + 1)) : ev K l x = K * Y l j + (Y l (j + 1) - Y l j) * (x - X l j) * (K / (X l (j + 1) - X l j)) := by
  unfold ev; rw [ix_mid hR hj h1 h2, if_neg (by omega), if_neg (by omega), Nat.add_sub_cancel]
theorem seg_end {K a d : Int} (h : d ∣ K) (h0 : 0 < d) : a * d * (K / d) = a * K := by
  rw [Int.mul_assoc, Int.mul_ediv_cancel' h]
theorem ev_point {K : Int} {l : List S37} (hR : right l) (hK : isK K l) {j : Nat} (hj : j < l.length) : ev K l (X l j) = K * Y l j := by
  cases j with
  | zero => exact ev_left hR (Int.le_refl _)
  | succ j =>
    have := (rstep hR j hj).1
    rw [ev_mid hR hj this (Int.le_refl _), seg_end (hK.2 j hj) (by omega), Int.sub_mul, Int.mul_comm (Y l (j + 1)), Int.mul_comm (Y l j)]
    omega
theorem ev_seg {K : Int} {l : List S37} {x : Int} (hR : right l) (hK : isK K l) {j : Nat} (hj : j + 1 < l.length) (h1 : X l j ≤ x) (h2 : x ≤ X l (j + 1)) : ev K l x = K * Y l j + (Y l (j + 1) - Y l j) * (x - X l j) * (K / (X l (j + 1) - X l j)) := by
  rcases Int.lt_or_eq_of_le h1 with h | h
  · exact ev_mid hR hj h h2
  · rw [← h, ev_point hR hK (by omega), Int.sub_self, Int.mul_zero, Int.zero_mul]; omega
theorem ev_right {K : Int} {l : List S37} {x : Int} (hR : right l) (hK : isK K l) (h : X l (l.length - 1) ≤ x) : ev K l x = K * Y l (l.length - 1) := by
  have hl := right_pos hR
  rcases Int.lt_or_eq_of_le h with h1 | h1
  · unfold ev; rw [ix_right hR h1, if_neg (by omega), if_pos rfl]
  · rw [← h1]; exact ev_point hR hK (by omega)
theorem x_step {l : List S37} (hR : right l) (x : Int) : x + 1 ≤ X l 0 ∨ (∃ j, j + 1 < l.length ∧ X l j ≤ x ∧ x + 1 ≤ X l (j + 1)) ∨ X l (l.length - 1) ≤ x := by
  rcases x_cases hR (x + 1) with h | ⟨j, hj, h1, h2⟩ | h
  · exact .inl h
  · exact .inr (.inl ⟨j, hj, by omega, h2⟩)
  · exact .inr (.inr (by omega))
/-- one step to the right: by how much the exact value rises -/
theorem ev_step {K : Int} {l : List S37} (hR : right l) (hK : isK K l) (x : Int) :
    ev K l (x + 1) = ev K l x ∨ ∃ j, j + 1 < l.length ∧ ev K l (x + 1) = ev K l x + (Y l (j + 1) - Y l j) * (K / (X l (j + 1) - X l j)) := by
  rcases x_step hR x with h | ⟨j, hj, h1, h2⟩ | h
  · left; rw [ev_left hR h, ev_left hR (by omega)]
  · right
    refine ⟨j, hj, ?_⟩
    rw [ev_seg hR hK hj (by omega) h2, ev_seg hR hK hj h1 (by omega), show x + 1 - X l j = (x - X l j) + 1 by omega, Int.mul_add, Int.add_mul, Int.mul_one]
    omega
  · left; rw [ev_right hR hK (by omega), ev_right hR hK h]
theorem quot_pos {K : Int} {l : List S37} (hR : right l) (hK : isK K l) {j : Nat} (hj : j + 1 < l.length) : 0 ≤ K / (X l (j + 1) - X l j) := by
  have := (rstep hR j hj).1
  exact Int.ediv_nonneg (by have := hK.1; omega) (by omega)
theorem ev_mono1 {K : Int} {l : List S37} (hR : right l) (hK : isK K l) (x : Int) : ev K l x ≤ ev K l (x + 1) := by
  rcases ev_step hR hK x with h | ⟨j, hj, h⟩
  · omega
  · have h1 := (rstep hR j hj).2
    have := Int.mul_nonneg (show 0 ≤ Y l (j + 1) - Y l j by omega) (quot_pos hR hK hj)
    omega
theorem ev_mono {K : Int} {l : List S37} (hR : right l) (hK : isK K l) (x : Int) (d : Nat) : ev K l x ≤ ev K l (x + d) := by
  induction d with
  | zero => simp
  | succ d ih =>
    have := ev_mono1 hR hK (x + d)
    rw [show x + ((d + 1 : Nat) : Int) = x + d + 1 by omega]
    omega
/-- between the points the exact value is linear -/
theorem ev_lin {K : Int} {l : List S37} (hR : right l) (hK : isK K l) {x : Int} (hx : ∀ j, j < l.length → X l j ≠ x) : ev K l (x + 1) + ev K l (x - 1) = 2 * ev K l x := by
  have hl := right_pos hR
  rcases x_cases hR x with h | ⟨j, hj, h1, h2⟩ | h
  · have := hx 0 (by omega)
    rw [ev_left hR (show x + 1 ≤ X l 0 by omega), ev_left hR h, ev_left hR (show x - 1 ≤ X l 0 by omega)]
    omega
  · have := hx (j + 1) hj
    rw [ev_seg hR hK hj (show X l j ≤ x + 1 by omega) (show x + 1 ≤ X l (j + 1) by omega), ev_seg hR hK hj (show X l j ≤ x by omega) h2, ev_seg hR hK hj (show X l j ≤ x - 1 by omega) (show x - 1 ≤ X l (j + 1) by omega)]
    rw [show x + 1 - X l j = (x - X l j) + 1 by omega, show x - 1 - X l j = (x - X l j) - 1 by omega, Int.mul_add (Y l (j + 1) - Y l j), Int.add_mul _ _ (K / _), Int.mul_sub (Y l (j + 1) - Y l j) _ 1, Int.sub_mul _ _ (K / _), Int.mul_one]
    generalize (Y l (j + 1) - Y l j) * (x - X l j) * (K / (X l (j + 1) - X l j)) = A
    generalize (Y l (j + 1) - Y l j) * (K / (X l (j + 1) - X l j)) = B
    omega
  · rw [ev_right hR hK (show X l (l.length - 1) ≤ x + 1 by omega), ev_right hR hK (show X l (l.length - 1) ≤ x by omega), ev_right hR hK (show X l (l.length - 1) ≤ x - 1 by omega)]
    omega
/-- the quotient, rounded up -/
def cdiv (a d : Int) : Int := if a % d > 0 then a / d + 1 else a / d
theorem cdiv_le {a d y : Int} (hd : 0 < d) : cdiv a d ≤ y ↔ a ≤ d * y := by
  have h1 := Int.mul_ediv_add_emod a d
  have h2 := Int.emod_nonneg a (show d ≠ 0 by omega)
  have h3 := Int.emod_lt_of_pos a hd
  unfold cdiv
  split
  · rename_i h
    constructor
    · intro hy
      have := Int.mul_le_mul_of_nonneg_left hy (show 0 ≤ d by omega)
      rw [Int.mul_add, Int.mul_one] at this
      omega
    · intro hy
      have : a / d < y := Int.ediv_lt_of_lt_mul hd (by
        rw [Int.mul_comm]
        rcases Int.lt_or_eq_of_le hy with h4 | h4
        · exact h4
        · rw [h4] at h; simp at h)
      omega
  · rename_i h
    constructor
    · intro hy
      have := Int.mul_le_mul_of_nonneg_left hy (show 0 ≤ d by omega)
      omega
    · intro hy
      have := Int.ediv_le_ediv hd hy
      rwa [Int.mul_ediv_cancel_left _ (by omega)] at this
theorem atv_ev {K : Int} {l : List S37} (hR : right l) (hK : isK K l) (x : Int) : (atv l x).1 = ev K l x / K ∧ (atv l x).2 = cdiv (ev K l x) K := by
  have hk := hK.1
  have flat : ∀ y : Int, K * y / K = y ∧ cdiv (K * y) K = y := by
    intro y
    unfold cdiv
    rw [Int.mul_ediv_cancel_left _ (by omega), Int.mul_emod_right, if_neg (by omega)]
    exact ⟨rfl, rfl⟩
  have hle : ix l x ≤ l.length := fi_le _ _
  unfold atv ev
  by_cases h0 : ix l x = 0
  · rw [if_pos h0, if_pos h0]; exact ⟨(flat _).1.symm, (flat _).2.symm⟩
  · rw [if_neg h0, if_neg h0]
    by_cases h1 : ix l x = l.length
    · rw [if_pos h1, if_pos h1]; exact ⟨(flat _).1.symm, (flat _).2.symm⟩
    · rw [if_neg h1, if_neg h1]
      have hd := hK.2 (ix l x - 1) (by omega)
      have hs := (rstep hR (ix l x - 1) (by omega)).1
      rw [show ix l x - 1 + 1 = ix l x by omega] at hd hs
      obtain ⟨c, hc⟩ := hd
      generalize hdd : X l (ix l x) - X l (ix l x - 1) = d at *
      have hd0 : 0 < d := by omega
      have hq : K / d = c := by rw [hc, Int.mul_ediv_cancel_left _ (by omega)]
      have hc0 : 0 < c := by
        by_cases h : 0 < c
        · exact h
        · have := Int.mul_le_mul_of_nonneg_left (show c ≤ 0 by omega) (show 0 ≤ d by omega); omega
      rw [hq]
      generalize hN : (Y l (ix l x) - Y l (ix l x - 1)) * (x - X l (ix l x - 1)) = N
      have e : K * Y l (ix l x - 1) + N * c = c * (d * Y l (ix l x - 1) + N) := by rw [hc, Int.mul_add, Int.mul_comm N c, Int.mul_comm d c, Int.mul_assoc]
      have eK : K = c * d := by rw [hc, Int.mul_comm]
      have hm : (K * Y l (ix l x - 1) + N * c) / K = Y l (ix l x - 1) + N / d := by
        rw [e, eK, Int.mul_ediv_mul_of_pos _ _ hc0, Int.add_comm, Int.add_mul_ediv_left _ _ (by omega), Int.add_comm]
      have hr : (K * Y l (ix l x - 1) + N * c) % K = c * (N % d) := by
        rw [e, eK, Int.mul_emod_mul_of_pos _ _ hc0, Int.add_comm, Int.add_mul_emod_self_left]
      unfold seg cdiv
      rw [hm, hr, show (rd_T37 l (ix l x : Int)).f0 - (rd_T37 l ((ix l x - 1 : Nat) : Int)).f0 = d from hdd, show ((rd_T37 l (ix l x : Int)).f1 - (rd_T37 l ((ix l x - 1 : Nat) : Int)).f1) * (x - (rd_T37 l ((ix l x - 1 : Nat) : Int)).f0) = N from hN]
      refine ⟨rfl, ?_⟩
      dsimp only
      have hr0 := Int.emod_nonneg N (show d ≠ 0 by omega)
      by_cases hz : N % d > 0
      · rw [if_pos hz, if_pos (Int.mul_pos hc0 hz)]
      · rw [if_neg hz, show N % d = 0 by omega, if_neg (by simp)]
end Go.Proofs.Ytoiclhdkgalhcaa.S
