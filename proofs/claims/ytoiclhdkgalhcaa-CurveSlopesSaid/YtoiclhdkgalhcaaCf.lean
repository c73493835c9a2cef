/- The functions of the package curve, and the reference's, in closed form, with their contracts. -/
import Derived.Test.YtoiclhdkgalhcaaCx
import Derived.Test.YtoiclhdkgalhcaaWf
namespace Go.Proofs.Ytoiclhdkgalhcaa.S
open Go.RowKit Go.Proofs.YtoiclhdkgalhcaaW.PrintWords Go.Proofs.YtoiclhdkgalhcaaW.PrintMore
/-- point i is within the bounds, and in order behind the one ahead of it -/
def okAt (l : List S37) (i : Nat) : Prop := inb (rd_T37 l i) ∧ (0 < i → (rd_T37 l (i - 1 : Nat)).f0 < (rd_T37 l i).f0 ∧ (rd_T37 l (i - 1 : Nat)).f1 ≤ (rd_T37 l i).f1)
theorem asc_iff : ∀ (l : List S37) (p : S37), asc p l ↔ ∀ i, i < l.length → (rd_T37 (p :: l) i).f0 < (rd_T37 (p :: l) (i + 1 : Nat)).f0 ∧ (rd_T37 (p :: l) i).f1 ≤ (rd_T37 (p :: l) (i + 1 : Nat)).f1 ∧ inb (rd_T37 (p :: l) (i + 1 : Nat))
  | [], p => by simp [asc]
  | q :: l, p => by
    unfold asc
    rw [asc_iff l q]
    constructor
    · rintro ⟨h1, h2, h3, h4⟩ i hi
      cases i with
      | zero => exact ⟨h1, h2, h3⟩
      | succ i => exact h4 i (by simpa using hi)
    · intro h
      exact ⟨(h 0 (by simp)).1, (h 0 (by simp)).2.1, (h 0 (by simp)).2.2, fun i hi => h (i + 1) (by simpa using hi)⟩
theorem right_iff (l : List S37) : right l ↔ (∀ j, 0 ≤ j → j < l.length → okAt l j) ∧ 1 ≤ l.length ∧ l.length ≤ 32 := by
  cases l with
  | nil => simp [right]
  | cons p l =>
    show (inb p ∧ asc p l ∧ l.length < 32) ↔ _
    rw [asc_iff]
    constructor
    · rintro ⟨h1, h2, h3⟩
      refine ⟨fun j _ hj => ?_, by simp, by simp; omega⟩
      cases j with
      | zero => exact ⟨h1, fun h => absurd h (by omega)⟩
      | succ j => exact ⟨(h2 j (by simpa using hj)).2.2, fun _ => ⟨(h2 j (by simpa using hj)).1, (h2 j (by simpa using hj)).2.1⟩⟩
    · rintro ⟨h1, h2, h3⟩
      refine ⟨(h1 0 (by omega) (by simp)).1, fun i hi => ?_, by simp at h3; omega⟩
      have := h1 (i + 1) (by omega) (by simpa using hi)
      exact ⟨(this.2 (by omega)).1, (this.2 (by omega)).2, this.1⟩
/-- no segment is steeper than the fraction -/
def slope (l : List S37) (n d : Int) : Prop := right l ∧ (0 ≤ n ∧ n ≤ 1125899906842624 ∧ 1 ≤ d ∧ d ≤ 1125899906842624) ∧ ∀ j, 1 ≤ j → j < l.length → ((rd_T37 l j).f1 - (rd_T37 l (j - 1 : Nat)).f1) * d ≤ n * ((rd_T37 l j).f0 - (rd_T37 l (j - 1 : Nat)).f0)
/-- the one curve is nowhere above the other one: where one of them bends -/
def under (a b : List S37) : Prop := right a ∧ right b ∧ (∀ j, 0 ≤ j → j < a.length → (rd_T37 a j).f1 ≤ (atv b (rd_T37 a j).f0).1) ∧ (∀ j, 0 ≤ j → j < b.length → (atv a (rd_T37 b j).f0).2 ≤ (rd_T37 b j).f1)
def aval (l : List S37) (x : Int) : Int := if right l then (atv l x).1 else 0
theorem wpre {i : Nat} (h : 0 < i) (h2 : i < 4611686018427387904) : wrap64 ((i : Int) - 1) = ((i - 1 : Nat) : Int) := by unfold wrap64; omega
theorem wsuc {i : Nat} (h2 : i < 4611686018427387904) : wrap64 ((i : Int) + 1) = ((i + 1 : Nat) : Int) := by unfold wrap64; omega
theorem wid {x : Int} (h0 : -9223372036854775808 ≤ x) (h1 : x < 9223372036854775808) : wrap64 x = x := by unfold wrap64; omega
theorem from_succ {P : Nat → Prop} {i n : Nat} (h : i < n) : (∀ j, i ≤ j → j < n → P j) ↔ P i ∧ ∀ j, i + 1 ≤ j → j < n → P j := by
  constructor
  · exact fun k => ⟨k i (Nat.le_refl _) h, fun j h1 h2 => k j (by omega) h2⟩
  · rintro ⟨k1, k2⟩ j h1 h2
    rcases Nat.eq_or_lt_of_le h1 with rfl | h3
    · exact k1
    · exact k2 j h3 h2
theorem from_end {P : Nat → Prop} (n : Nat) : (∀ j, n ≤ j → j < n → P j) := fun j h1 h2 => by omega
end Go.Proofs.Ytoiclhdkgalhcaa.S
set_option linter.unusedVariables false
namespace Go.Proofs.Ytoiclhdkgalhcaa.C
open Go.Proofs.Ytoiclhdkgalhcaa.S
open Go.RowKit Go.Proofs.YtoiclhdkgalhcaaW.PrintWords Go.Proofs.YtoiclhdkgalhcaaW.PrintLast Go.Proofs.YtoiclhdkgalhcaaW.PrintMore

theorem cR_loop (l : List S37) (hl : l.length < 4611686018427387904) : ∀ (d i : Nat), i + d = l.length →
    ∃ k b, curve_Right.l0 k l l (l.length : Int) i = some b ∧ (b = true ↔ (∀ j, i ≤ j → j < l.length → okAt l j) ∧ 1 ≤ l.length ∧ l.length ≤ 32) := by
  intro d
  induction d with
  | zero =>
    intro i hi
    obtain rfl : i = l.length := by omega
    refine ⟨1, decide ((1 : Int) ≤ l.length ∧ (l.length : Int) ≤ 32), ?_, ?_⟩
    · simp only [curve_Right.l0]
      rw [if_neg (by omega)]
      by_cases h0 : (l.length : Int) > 0
      · rw [if_pos h0]; congr 1; rw [Bool.eq_iff_iff]; simp; omega
      · rw [if_neg h0, decide_eq_false (by omega)]
    · rw [decide_eq_true_eq]
      constructor
      · exact fun h => ⟨from_end _, by omega, by omega⟩
      · exact fun h => by omega
  | succ d ih =>
    intro i hi
    obtain ⟨k, b, hk, hb⟩ := ih (i + 1) (by omega)
    rw [from_succ (by omega : i < l.length)]
    have c1 : (i : Int) < (l.length : Int) := by omega
    have c2 : (0 : Int) ≤ (i : Int) := by omega
    by_cases h1 : (rd_T37 l i).f0 < 0
    · refine ⟨2, false, ?_, ?_⟩
      · simp only [curve_Right.l0, curve_Right.j1]; rw [if_pos c1, if_pos c2, if_pos c1, if_pos h1]; rfl
      · simp; intro h; exact absurd h.1 (by unfold inb; omega)
    by_cases h2 : (rd_T37 l i).f1 < 0
    · refine ⟨2, false, ?_, ?_⟩
      · simp only [curve_Right.l0, curve_Right.j1]; rw [if_pos c1, if_pos c2, if_pos c1, if_neg h1, if_pos h2]; rfl
      · simp; intro h; exact absurd h.1 (by unfold inb; omega)
    by_cases h3 : (rd_T37 l i).f0 > 1125899906842624
    · refine ⟨2, false, ?_, ?_⟩
      · simp only [curve_Right.l0, curve_Right.j1]; rw [if_pos c1, if_pos c2, if_pos c1, if_neg h1, if_neg h2, if_pos h3]; rfl
      · simp; intro h; exact absurd h.1 (by unfold inb; omega)
    by_cases h4 : (rd_T37 l i).f1 > 1125899906842624
    · refine ⟨2, false, ?_, ?_⟩
      · simp only [curve_Right.l0, curve_Right.j1]; rw [if_pos c1, if_pos c2, if_pos c1, if_neg h1, if_neg h2, if_neg h3, decide_eq_true h4]; rfl
      · simp; intro h; exact absurd h.1 (by unfold inb; omega)
    have hin : inb (rd_T37 l i) := ⟨by omega, by omega, by omega, by omega⟩
    have e : ∀ k, curve_Right.l0 (k + 2) l l (l.length : Int) i = if (i : Int) > 0 then (if 0 ≤ (wrap64 ((i : Int) - 1)) then (if (wrap64 ((i : Int) - 1)) < (l.length : Int) then (if (rd_T37 l i).f0 ≤ ((rd_T37 l (wrap64 ((i : Int) - 1))).f0) then (some false) else (if (rd_T37 l i).f1 < ((rd_T37 l (wrap64 ((i : Int) - 1))).f1) then (some false) else (curve_Right.l0 k l l (l.length : Int) (wrap64 ((i : Int) + 1))))) else (none)) else (none)) else (curve_Right.l0 k l l (l.length : Int) (wrap64 ((i : Int) + 1))) := by
      intro k
      rw [show k + 2 = (k + 1) + 1 from rfl]
      rw [curve_Right.l0, if_pos c1, if_pos c2, if_pos c1, if_neg h1, if_neg h2, if_neg h3, decide_eq_false h4, curve_Right.j1]
      rfl
    rcases Nat.eq_zero_or_pos i with h0 | h0
    · refine ⟨k + 2, b, ?_, ?_⟩
      · rw [e, if_neg (by omega), wsuc (by omega)]; exact hk
      · rw [hb]
        exact ⟨fun h => ⟨⟨⟨hin, fun h => by omega⟩, h.1⟩, h.2⟩, fun h => ⟨h.1.2, h.2⟩⟩
    · rw [show (i : Int) = i from rfl]
      have hp := wpre h0 (by omega : i < 4611686018427387904)
      by_cases h5 : (rd_T37 l i).f0 ≤ (rd_T37 l (i - 1 : Nat)).f0
      · refine ⟨2, false, ?_, ?_⟩
        · rw [e 0, if_pos (by omega), hp, if_pos (by omega), if_pos (by omega), if_pos h5]
        · simp; intro h; have := (h.2 h0).1; omega
      by_cases h6 : (rd_T37 l i).f1 < (rd_T37 l (i - 1 : Nat)).f1
      · refine ⟨2, false, ?_, ?_⟩
        · rw [e 0, if_pos (by omega), hp, if_pos (by omega), if_pos (by omega), if_neg h5, if_pos h6]
        · simp; intro h; have := (h.2 h0).2; omega
      refine ⟨k + 2, b, ?_, ?_⟩
      · rw [e, if_pos (by omega), hp, if_pos (by omega), if_pos (by omega), if_neg h5, if_neg h6, wsuc (by omega)]; exact hk
      · rw [hb]
        exact ⟨fun h => ⟨⟨⟨hin, fun _ => ⟨by omega, by omega⟩⟩, h.1⟩, h.2⟩, fun h => ⟨h.1.2, h.2⟩⟩
theorem curve_Right_ok (l : List S37) (hl : l.length < 4611686018427387904) : ∃ k, curve_Right.f k l = some (decide (right l)) := by
  obtain ⟨k, b, hk, hb⟩ := cR_loop l hl l.length 0 (by omega)
  refine ⟨k, ?_⟩
  unfold curve_Right.f
  rw [show (0 : Int) = ((0 : Nat) : Int) from rfl, hk]
  congr 1
  rw [Bool.eq_iff_iff, hb, decide_eq_true_eq, right_iff]
theorem vol_ok (n : Int) : bourneref10_vol.f n = some (decide (0 ≤ n ∧ n ≤ 1125899906842624)) := by
  unfold bourneref10_vol.f
  by_cases h : n ≥ 0
  · rw [if_pos h]; congr 1; rw [Bool.eq_iff_iff]; simp; omega
  · rw [if_neg h, decide_eq_false (by omega)]
theorem rR_loop (l : List S37) (hl : l.length < 4611686018427387904) : ∀ (d i : Nat), i + d = l.length →
    ∃ k b, bourneref10_Right.l0 k l i = some b ∧ (b = true ↔ (∀ j, i ≤ j → j < l.length → okAt l j) ∧ 1 ≤ l.length ∧ l.length ≤ 32) := by
  intro d
  induction d with
  | zero =>
    intro i hi
    obtain rfl : i = l.length := by omega
    refine ⟨1, decide ((1 : Int) ≤ l.length ∧ (l.length : Int) ≤ 32), ?_, ?_⟩
    · simp only [bourneref10_Right.l0]
      rw [if_neg (by omega)]
      by_cases h0 : (l.length : Int) ≥ 1
      · rw [if_pos h0]; congr 1; rw [Bool.eq_iff_iff]; simp; omega
      · rw [if_neg h0, decide_eq_false (by omega)]
    · rw [decide_eq_true_eq]
      constructor
      · exact fun h => ⟨from_end _, by omega, by omega⟩
      · exact fun h => by omega
  | succ d ih =>
    intro i hi
    obtain ⟨k, b, hk, hb⟩ := ih (i + 1) (by omega)
    rw [from_succ (by omega : i < l.length)]
    have c1 : (i : Int) < (l.length : Int) := by omega
    have c2 : (0 : Int) ≤ (i : Int) := by omega
    by_cases h1 : 0 ≤ (rd_T37 l i).f0 ∧ (rd_T37 l i).f0 ≤ 1125899906842624
    case neg =>
      refine ⟨1, false, ?_, ?_⟩
      · rw [bourneref10_Right.l0, if_pos c1, if_pos c2, vol_ok, decide_eq_false h1]; rfl
      · simp; intro h; exact absurd h.1 (by unfold inb; omega)
    by_cases h2 : 0 ≤ (rd_T37 l i).f1 ∧ (rd_T37 l i).f1 ≤ 1125899906842624
    case neg =>
      refine ⟨1, false, ?_, ?_⟩
      · rw [bourneref10_Right.l0, if_pos c1, if_pos c2, vol_ok, decide_eq_true h1, vol_ok, decide_eq_false h2]; rfl
      · simp; intro h; exact absurd h.1 (by unfold inb; omega)
    have hin : inb (rd_T37 l i) := ⟨by omega, by omega, by omega, by omega⟩
    have e : ∀ k, bourneref10_Right.l0 (k + 1) l i = if (i : Int) > 0 then (if 0 ≤ (wrap64 ((i : Int) - 1)) then (if (wrap64 ((i : Int) - 1)) < (l.length : Int) then (if (rd_T37 l i).f0 ≤ ((rd_T37 l (wrap64 ((i : Int) - 1))).f0) then (some false) else (if (rd_T37 l i).f1 < ((rd_T37 l (wrap64 ((i : Int) - 1))).f1) then (some false) else (bourneref10_Right.l0 k l (wrap64 ((i : Int) + 1))))) else (none)) else (none)) else (bourneref10_Right.l0 k l (wrap64 ((i : Int) + 1))) := by
      intro k
      rw [bourneref10_Right.l0, if_pos c1, if_pos c2, vol_ok, decide_eq_true h1, vol_ok, decide_eq_true h2]
      rfl
    rcases Nat.eq_zero_or_pos i with h0 | h0
    · refine ⟨k + 1, b, ?_, ?_⟩
      · rw [e, if_neg (by omega), wsuc (by omega)]; exact hk
      · rw [hb]
        exact ⟨fun h => ⟨⟨⟨hin, fun h => by omega⟩, h.1⟩, h.2⟩, fun h => ⟨h.1.2, h.2⟩⟩
    · have hp := wpre h0 (by omega : i < 4611686018427387904)
      by_cases h5 : (rd_T37 l i).f0 ≤ (rd_T37 l (i - 1 : Nat)).f0
      · refine ⟨1, false, ?_, ?_⟩
        · rw [e 0, if_pos (by omega), hp, if_pos (by omega), if_pos (by omega), if_pos h5]
        · simp; intro h; have := (h.2 h0).1; omega
      by_cases h6 : (rd_T37 l i).f1 < (rd_T37 l (i - 1 : Nat)).f1
      · refine ⟨1, false, ?_, ?_⟩
        · rw [e 0, if_pos (by omega), hp, if_pos (by omega), if_pos (by omega), if_neg h5, if_pos h6]
        · simp; intro h; have := (h.2 h0).2; omega
      refine ⟨k + 1, b, ?_, ?_⟩
      · rw [e, if_pos (by omega), hp, if_pos (by omega), if_pos (by omega), if_neg h5, if_neg h6, wsuc (by omega)]; exact hk
      · rw [hb]
        exact ⟨fun h => ⟨⟨⟨hin, fun _ => ⟨by omega, by omega⟩⟩, h.1⟩, h.2⟩, fun h => ⟨h.1.2, h.2⟩⟩
theorem bourneref10_Right_ok (l : List S37) (hl : l.length < 4611686018427387904) : ∃ k, bourneref10_Right.f k l = some (decide (right l)) := by
  obtain ⟨k, b, hk, hb⟩ := rR_loop l hl l.length 0 (by omega)
  refine ⟨k, ?_⟩
  unfold bourneref10_Right.f
  rw [show (0 : Int) = ((0 : Nat) : Int) from rfl, hk]
  congr 1
  rw [Bool.eq_iff_iff, hb, decide_eq_true_eq, right_iff]
/-- the value at x, from point i on -/
theorem value_loop (l : List S37) (hR : right l) (x : Int) (_ : I64 x) : ∀ (d i : Nat), 1 ≤ i → i + d = l.length → i ≤ ix l x →
    ∃ k, bourneref10_value.l0 k l x i = some ((atv l x).1, decide ((atv l x).2 > (atv l x).1)) := by
  have hlen := right_pos hR
  have hle : ix l x ≤ l.length := fi_le _ _
  intro d
  induction d with
  | zero =>
    intro i h1 hi h2
    obtain rfl : i = l.length := by omega
    refine ⟨1, ?_⟩
    have hp := wpre (by omega : 0 < l.length) (by omega : l.length < 4611686018427387904)
    rw [bourneref10_value.l0, if_neg (by omega), hp, if_pos (by omega), if_pos (by omega)]
    unfold atv
    rw [if_neg (by omega), if_pos (by omega), show ix l x = l.length by omega]
    simp
  | succ d ih =>
    intro i h1 hi h2
    have c1 : (i : Int) < (l.length : Int) := by omega
    have c2 : (0 : Int) ≤ (i : Int) := by omega
    by_cases hc : x ≤ (rd_T37 l i).f0
    · have hix : ix l x = i := by
        rcases Nat.eq_or_lt_of_le h2 with h | h
        · exact h.symm
        · have := fi_before (p := fun j => decide (x ≤ (rd_T37 l j).f0)) (n := l.length) (t := i) h
          simp at this; omega
      have hb := ix_between hR (show ix l x = (i - 1) + 1 by omega) (by omega)
      rw [show i - 1 + 1 = i by omega] at hb
      have hp := wpre (by omega : 0 < i) (by omega : i < 4611686018427387904)
      have i0 := right_in hR (i - 1) (by omega)
      have i1 := right_in hR i (by omega)
      have st := right_step hR (i - 1) (by omega)
      rw [show i - 1 + 1 = i by omega] at st
      refine ⟨1, ?_⟩
      rw [bourneref10_value.l0, if_pos c1, if_pos c2, if_pos hc, hp, if_pos (by omega), if_pos (by omega)]
      unfold atv
      rw [if_neg (by omega), if_neg (by omega), hix]
      generalize rd_T37 l (i - 1 : Nat) = P at *
      generalize rd_T37 l i = Q at *
      unfold inb at i0 i1
      rw [wid (x := x - P.f0) (by omega) (by omega), wid (x := Q.f1 - P.f1) (by omega) (by omega), wid (x := Q.f0 - P.f0) (by omega) (by omega)]
      obtain ⟨q0, q1⟩ := frac_le (show 0 ≤ Q.f1 - P.f1 by omega) (show 0 ≤ x - P.f0 by omega) (show x - P.f0 ≤ Q.f0 - P.f0 by omega) (show 0 < Q.f0 - P.f0 by omega)
      unfold bourneref01_Scale.f scl seg
      rw [Int.mul_comm (x - P.f0) (Q.f1 - P.f1), if_pos ⟨by omega, by omega, by omega, by omega, by omega, by omega, by omega⟩]
      simp only [Option.bind_some]
      rw [wid (x := P.f1 + _) (by omega) (by omega)]
      congr 2
      rw [Bool.eq_iff_iff]
      simp only [decide_eq_true_eq]
      split <;> omega
    · have hix : i + 1 ≤ ix l x := by
        rcases Nat.eq_or_lt_of_le h2 with h | h
        · have := fi_hit (fun j => decide (x ≤ (rd_T37 l j).f0)) l.length (by unfold ix at h; omega)
          unfold ix at h
          rw [← h] at this
          simp at this; omega
        · exact h
      obtain ⟨k, hk⟩ := ih (i + 1) (by omega) (by omega) hix
      refine ⟨k + 1, ?_⟩
      rw [bourneref10_value.l0, if_pos c1, if_pos c2, if_neg hc, wsuc (by omega)]
      exact hk
theorem bourneref10_value_ok (l : List S37) (x : Int) (h : right l ∧ I64 x) : ∃ k, bourneref10_value.f k l x = some ((atv l x).1, decide ((atv l x).2 > (atv l x).1)) := by
  obtain ⟨hR, hx⟩ := h
  have hlen := right_pos hR
  unfold bourneref10_value.f
  by_cases h0 : x ≤ (rd_T37 l 0).f0
  · refine ⟨0, ?_⟩
    rw [if_pos (by omega), if_pos h0]
    have : ix l x = 0 := fi_eq _ _ 0 (by omega) (fun t h => by omega) (fun _ => by simpa using h0)
    unfold atv
    rw [if_pos this]
    simp
  · have h1 : 1 ≤ ix l x := by
      rcases Nat.eq_zero_or_pos (ix l x) with h | h
      · have := fi_hit (fun j => decide (x ≤ (rd_T37 l j).f0)) l.length (by unfold ix at h; omega)
        unfold ix at h
        rw [h] at this
        simp at this; omega
      · exact h
    obtain ⟨k, hk⟩ := value_loop l hR x hx (l.length - 1) 1 (Nat.le_refl _) (by omega) h1
    exact ⟨k, by rw [if_pos (by omega), if_neg h0]; exact hk⟩
theorem cRight_ev (l : List S37) (hl : l.length < 4611686018427387904) : Ev (fun k => curve_Right.f k l) (decide (right l)) := by
  obtain ⟨k, hk⟩ := curve_Right_ok l hl
  exact Ev.of (curve_Right.mono l) hk
theorem rRight_ev (l : List S37) (hl : l.length < 4611686018427387904) : Ev (fun k => bourneref10_Right.f k l) (decide (right l)) := by
  obtain ⟨k, hk⟩ := bourneref10_Right_ok l hl
  exact Ev.of (bourneref10_Right.mono l) hk
theorem rvalue_ev (l : List S37) (x : Int) (h : right l ∧ I64 x) : Ev (fun k => bourneref10_value.f k l x) ((atv l x).1, decide ((atv l x).2 > (atv l x).1)) := by
  obtain ⟨k, hk⟩ := bourneref10_value_ok l x h
  exact Ev.of (bourneref10_value.mono l x) hk
theorem curve_At_ok (l : List S37) (x : Int) (hl : l.length < 4611686018427387904) : ∃ k, curve_At.f k l x = some (aval l x) := by
  refine Ev.rounds (Ev.bind (cRight_ev l hl) (Ev.congr (f := fun _ => some (aval l x)) (fun k => ?_) (Ev.now _)))
  unfold curve_at.f aval
  simp only [decide_eq_true_eq]
  by_cases h : right l
  · rw [if_pos h, if_pos h, if_pos h]; rfl
  · rw [if_neg h, if_neg h]
theorem rAt_ev (l : List S37) (x : Int) (hl : l.length < 4611686018427387904) (hx : I64 x) : Ev (fun k => bourneref10_At.f k l x) (aval l x) := by
  refine Ev.bind (rRight_ev l hl) ?_
  by_cases h : right l
  · refine Ev.congr (f := fun k => (bourneref10_value.f k l x).bind fun bt148 => some bt148.1) (fun k => by simp only [decide_eq_true_eq]; rw [if_pos h]) ?_
    refine Ev.bind (rvalue_ev l x ⟨h, hx⟩) ?_
    unfold aval
    rw [if_pos h]
    exact Ev.now _
  · refine Ev.congr (f := fun _ => some 0) (fun k => by simp only [decide_eq_true_eq]; rw [if_neg h]) ?_
    unfold aval
    rw [if_neg h]
    exact Ev.now _
theorem bourneref10_At_ok (l : List S37) (x : Int) (h : l.length < 4611686018427387904 ∧ I64 x) : ∃ k, bourneref10_At.f k l x = some (aval l x) := Ev.rounds (rAt_ev l x h.1 h.2)
theorem le_div_iff {a b c : Int} (hc : 0 < c) : a ≤ b / c ↔ a * c ≤ b := Int.le_ediv_iff_mul_le hc
/-- one segment, as both texts look at it -/
theorem slope_one {P Q : S37} {n d a b : Int} (hP : inb P) (hQ : inb Q) (hs : P.f0 < Q.f0 ∧ P.f1 ≤ Q.f1) (hn : 0 ≤ n ∧ n ≤ 1125899906842624) (hd : 1 ≤ d ∧ d ≤ 1125899906842624) (hab : a * b = n * (Q.f0 - P.f0)) (ha : 0 ≤ a ∧ a ≤ 1125899906842624) (hb : 0 ≤ b ∧ b ≤ 1125899906842624) :
    ((scl a b d).2.2 = true → Q.f1 - P.f1 ≤ (scl a b d).1) ↔ (Q.f1 - P.f1) * d ≤ n * (Q.f0 - P.f0) := by
  rw [← le_div_iff (by omega), ← hab]
  unfold scl
  unfold inb at hP hQ
  by_cases hq : a * b / d ≤ 1125899906842624
  · rw [if_pos ⟨ha.1, ha.2, hb.1, hb.2, hd.1, hd.2, hq⟩]; simp
  · rw [if_neg (by omega)]; simp; omega
theorem cSlope_loop (l : List S37) (hR : right l) (n d : Int) (hn : 0 ≤ n ∧ n ≤ 1125899906842624) (hd : 1 ≤ d ∧ d ≤ 1125899906842624) : ∀ (m i : Nat), 1 ≤ i → i + m = l.length →
    ∃ k b, curve_Slope.l0 k l n d i = some b ∧ (b = true ↔ ∀ j, i ≤ j → j < l.length → ((rd_T37 l j).f1 - (rd_T37 l (j - 1 : Nat)).f1) * d ≤ n * ((rd_T37 l j).f0 - (rd_T37 l (j - 1 : Nat)).f0)) := by
  have hlen := right_pos hR
  intro m
  induction m with
  | zero =>
    intro i h1 hi
    obtain rfl : i = l.length := by omega
    exact ⟨1, true, by rw [curve_Slope.l0, if_neg (by omega)], by simp; exact from_end _⟩
  | succ m ih =>
    intro i h1 hi
    obtain ⟨k, b, hk, hb⟩ := ih (i + 1) (by omega) (by omega)
    have c1 : (i : Int) < (l.length : Int) := by omega
    have c2 : (0 : Int) ≤ (i : Int) := by omega
    have hp := wpre (by omega : 0 < i) (by omega : i < 4611686018427387904)
    have i0 := right_in hR (i - 1) (by omega)
    have i1 := right_in hR i (by omega)
    have st := right_step hR (i - 1) (by omega)
    rw [show i - 1 + 1 = i by omega] at st
    rw [from_succ (P := fun j => ((rd_T37 l j).f1 - (rd_T37 l (j - 1 : Nat)).f1) * d ≤ n * ((rd_T37 l j).f0 - (rd_T37 l (j - 1 : Nat)).f0)) (by omega : i < l.length)]
    have e : ∀ k, curve_Slope.l0 (k + 1) l n d i = if (scl n ((rd_T37 l i).f0 - (rd_T37 l (i - 1 : Nat)).f0) d).2.2 = true then (if (rd_T37 l i).f1 - (rd_T37 l (i - 1 : Nat)).f1 > (scl n ((rd_T37 l i).f0 - (rd_T37 l (i - 1 : Nat)).f0) d).1 then some false else curve_Slope.l0 k l n d ((i + 1 : Nat) : Int)) else curve_Slope.l0 k l n d ((i + 1 : Nat) : Int) := by
      intro k
      unfold inb at i0 i1
      rw [curve_Slope.l0, if_pos c1, if_pos c2, hp, if_pos (by omega), if_pos (by omega), wid (x := (rd_T37 l i).f0 - _) (by omega) (by omega), wid (x := (rd_T37 l i).f1 - _) (by omega) (by omega), wsuc (by omega)]
      rfl
    have hone := slope_one (a := n) (b := (rd_T37 l i).f0 - (rd_T37 l (i - 1 : Nat)).f0) i0 i1 st hn hd rfl hn (by unfold inb at i0 i1; omega)
    by_cases hs : (scl n ((rd_T37 l i).f0 - (rd_T37 l (i - 1 : Nat)).f0) d).2.2 = true
    · by_cases hg : (rd_T37 l i).f1 - (rd_T37 l (i - 1 : Nat)).f1 > (scl n ((rd_T37 l i).f0 - (rd_T37 l (i - 1 : Nat)).f0) d).1
      · refine ⟨1, false, by rw [e 0, if_pos hs, if_pos hg], ?_⟩
        simp only [Bool.false_eq_true, false_iff]
        intro h
        have := hone.2 h.1 hs
        omega
      · refine ⟨k + 1, b, by rw [e, if_pos hs, if_neg hg]; exact hk, ?_⟩
        rw [hb]
        exact ⟨fun h => ⟨hone.1 (fun _ => by omega), h⟩, fun h => h.2⟩
    · refine ⟨k + 1, b, by rw [e, if_neg hs]; exact hk, ?_⟩
      rw [hb]
      exact ⟨fun h => ⟨hone.1 (fun h => absurd h hs), h⟩, fun h => h.2⟩
theorem curve_Slope_iff (l : List S37) (n d : Int) (hl : l.length < 4611686018427387904) : ∃ k b, curve_Slope.f k l n d = some b ∧ (b = true ↔ slope l n d) := by
  suffices h : ∃ b, Ev (fun k => curve_Slope.f k l n d) b ∧ (b = true ↔ slope l n d) by
    obtain ⟨b, h1, h2⟩ := h
    obtain ⟨k, hk⟩ := h1.rounds
    exact ⟨k, b, hk, h2⟩
  by_cases hR : right l
  · by_cases hb : 0 ≤ n ∧ n ≤ 1125899906842624 ∧ 1 ≤ d ∧ d ≤ 1125899906842624
    · obtain ⟨k, b, hk, hb2⟩ := cSlope_loop l hR n d ⟨hb.1, hb.2.1⟩ hb.2.2 (l.length - 1) 1 (Nat.le_refl _) (by have := right_pos hR; omega)
      refine ⟨b, Ev.bind (cRight_ev l hl) ?_, ?_⟩
      · refine Ev.congr (f := fun k => curve_Slope.j0 k l n d false) (fun k => ?_) (Ev.step (f := fun k => curve_Slope.l0 k l n d 1) (fun k => by rw [curve_Slope.j0]; rfl) (Ev.of (fun k => (curve_Slope.mono_l k).2 l n d 1) hk))
        rw [if_pos (decide_eq_true hR), if_neg (by omega), if_neg (by omega), if_neg (by omega), decide_eq_false (by omega)]
      · rw [hb2]; unfold slope
        exact ⟨fun h => ⟨hR, hb, h⟩, fun h => h.2.2⟩
    · refine ⟨false, Ev.bind (cRight_ev l hl) ?_, ?_⟩
      · refine Ev.congr (f := fun k => curve_Slope.j0 k l n d true) (fun k => ?_) (Ev.step (f := fun _ => some false) (fun k => by rw [curve_Slope.j0]; rfl) (Ev.now _))
        rw [if_pos (decide_eq_true hR)]
        by_cases h1 : n < 0
        · rw [if_pos h1]
        by_cases h2 : n > 1125899906842624
        · rw [if_neg h1, if_pos h2]
        by_cases h3 : d < 1
        · rw [if_neg h1, if_neg h2, if_pos h3]
        · rw [if_neg h1, if_neg h2, if_neg h3, decide_eq_true (by omega)]
      · simp only [Bool.false_eq_true, false_iff]
        exact fun h => hb h.2.1
  · refine ⟨false, Ev.bind (cRight_ev l hl) ?_, ?_⟩
    · refine Ev.congr (f := fun k => curve_Slope.j0 k l n d true) (fun k => ?_) (Ev.step (f := fun _ => some false) (fun k => by rw [curve_Slope.j0]; rfl) (Ev.now _))
      rw [if_neg (by simpa using hR)]
    · simp only [Bool.false_eq_true, false_iff]
      exact fun h => hR h.1
theorem rSlope_loop (l : List S37) (hR : right l) (n d : Int) (hn : 0 ≤ n ∧ n ≤ 1125899906842624) (hd : 1 ≤ d ∧ d ≤ 1125899906842624) : ∀ (m i : Nat), 1 ≤ i → i + m = l.length →
    ∃ k b, bourneref10_Slope.l0 k l n d i = some b ∧ (b = true ↔ ∀ j, i ≤ j → j < l.length → ((rd_T37 l j).f1 - (rd_T37 l (j - 1 : Nat)).f1) * d ≤ n * ((rd_T37 l j).f0 - (rd_T37 l (j - 1 : Nat)).f0)) := by
  have hlen := right_pos hR
  intro m
  induction m with
  | zero =>
    intro i h1 hi
    obtain rfl : i = l.length := by omega
    exact ⟨1, true, by rw [bourneref10_Slope.l0, if_neg (by omega)], by simp; exact from_end _⟩
  | succ m ih =>
    intro i h1 hi
    obtain ⟨k, b, hk, hb⟩ := ih (i + 1) (by omega) (by omega)
    have c1 : (i : Int) < (l.length : Int) := by omega
    have c2 : (0 : Int) ≤ (i : Int) := by omega
    have hp := wpre (by omega : 0 < i) (by omega : i < 4611686018427387904)
    have i0 := right_in hR (i - 1) (by omega)
    have i1 := right_in hR i (by omega)
    have st := right_step hR (i - 1) (by omega)
    rw [show i - 1 + 1 = i by omega] at st
    rw [from_succ (P := fun j => ((rd_T37 l j).f1 - (rd_T37 l (j - 1 : Nat)).f1) * d ≤ n * ((rd_T37 l j).f0 - (rd_T37 l (j - 1 : Nat)).f0)) (by omega : i < l.length)]
    have e : ∀ k, bourneref10_Slope.l0 (k + 1) l n d i = if (scl ((rd_T37 l i).f0 - (rd_T37 l (i - 1 : Nat)).f0) n d).2.2 = true then (if (rd_T37 l i).f1 - (rd_T37 l (i - 1 : Nat)).f1 > (scl ((rd_T37 l i).f0 - (rd_T37 l (i - 1 : Nat)).f0) n d).1 then some false else bourneref10_Slope.l0 k l n d ((i + 1 : Nat) : Int)) else bourneref10_Slope.l0 k l n d ((i + 1 : Nat) : Int) := by
      intro k
      unfold inb at i0 i1
      rw [bourneref10_Slope.l0, if_pos c1, if_pos c2, hp, if_pos (by omega), if_pos (by omega), wid (x := (rd_T37 l i).f0 - _) (by omega) (by omega), wid (x := (rd_T37 l i).f1 - _) (by omega) (by omega), wsuc (by omega)]
      rfl
    have hone := slope_one (a := (rd_T37 l i).f0 - (rd_T37 l (i - 1 : Nat)).f0) (b := n) i0 i1 st hn hd (Int.mul_comm _ _) (by unfold inb at i0 i1; omega) hn
    by_cases hs : (scl ((rd_T37 l i).f0 - (rd_T37 l (i - 1 : Nat)).f0) n d).2.2 = true
    · by_cases hg : (rd_T37 l i).f1 - (rd_T37 l (i - 1 : Nat)).f1 > (scl ((rd_T37 l i).f0 - (rd_T37 l (i - 1 : Nat)).f0) n d).1
      · refine ⟨1, false, by rw [e 0, if_pos hs, if_pos hg], ?_⟩
        simp only [Bool.false_eq_true, false_iff]
        intro h
        have := hone.2 h.1 hs
        omega
      · refine ⟨k + 1, b, by rw [e, if_pos hs, if_neg hg]; exact hk, ?_⟩
        rw [hb]
        exact ⟨fun h => ⟨hone.1 (fun _ => by omega), h⟩, fun h => h.2⟩
    · refine ⟨k + 1, b, by rw [e, if_neg hs]; exact hk, ?_⟩
      rw [hb]
      exact ⟨fun h => ⟨hone.1 (fun h => absurd h hs), h⟩, fun h => h.2⟩
theorem bourneref10_Slope_iff (l : List S37) (n d : Int) (hl : l.length < 4611686018427387904) : ∃ k b, bourneref10_Slope.f k l n d = some b ∧ (b = true ↔ slope l n d) := by
  suffices h : ∃ b, Ev (fun k => bourneref10_Slope.f k l n d) b ∧ (b = true ↔ slope l n d) by
    obtain ⟨b, h1, h2⟩ := h
    obtain ⟨k, hk⟩ := h1.rounds
    exact ⟨k, b, hk, h2⟩
  by_cases hR : right l
  · by_cases hb : 0 ≤ n ∧ n ≤ 1125899906842624 ∧ 1 ≤ d ∧ d ≤ 1125899906842624
    · obtain ⟨k, b, hk, hb2⟩ := rSlope_loop l hR n d ⟨hb.1, hb.2.1⟩ hb.2.2 (l.length - 1) 1 (Nat.le_refl _) (by have := right_pos hR; omega)
      refine ⟨b, Ev.bind (rRight_ev l hl) ?_, ?_⟩
      · refine Ev.congr (f := fun k => bourneref10_Slope.j0 k l n d false) (fun k => ?_) (Ev.step (f := fun k => bourneref10_Slope.l0 k l n d 1) (fun k => by rw [bourneref10_Slope.j0]; rfl) (Ev.of (fun k => (bourneref10_Slope.mono_l k).2 l n d 1) hk))
        rw [if_pos (decide_eq_true hR), vol_ok, vol_ok]
        simp only [Option.bind_some, decide_eq_true_eq]
        rw [if_pos (by omega), if_pos (by omega), show (d == 0) = false from beq_eq_false_iff_ne.2 (by omega)]
      · rw [hb2]; unfold slope
        exact ⟨fun h => ⟨hR, hb, h⟩, fun h => h.2.2⟩
    · refine ⟨false, Ev.bind (rRight_ev l hl) ?_, ?_⟩
      · refine Ev.congr (f := fun k => bourneref10_Slope.j0 k l n d true) (fun k => ?_) (Ev.step (f := fun _ => some false) (fun k => by rw [bourneref10_Slope.j0]; rfl) (Ev.now _))
        rw [if_pos (decide_eq_true hR), vol_ok, vol_ok]
        simp only [Option.bind_some, decide_eq_true_eq]
        by_cases h1 : 0 ≤ n ∧ n ≤ 1125899906842624
        · rw [if_pos h1]
          by_cases h2 : 0 ≤ d ∧ d ≤ 1125899906842624
          · rw [if_pos h2, show (d == 0) = true from beq_iff_eq.2 (by omega)]
          · rw [if_neg h2]
        · rw [if_neg h1]
      · simp only [Bool.false_eq_true, false_iff]
        exact fun h => hb h.2.1
  · refine ⟨false, Ev.bind (rRight_ev l hl) ?_, ?_⟩
    · refine Ev.congr (f := fun k => bourneref10_Slope.j0 k l n d true) (fun k => ?_) (Ev.step (f := fun _ => some false) (fun k => by rw [bourneref10_Slope.j0]; rfl) (Ev.now _))
      rw [if_neg (by simpa using hR)]
    · simp only [Bool.false_eq_true, false_iff]
      exact fun h => hR h.1
/-- the second walk: over the points of b -/
theorem cUnder_loop1 (a b : List S37) (hb : b.length < 4611686018427387904) (ha : right a) : ∀ (m i : Nat), i + m = b.length →
    ∃ k r, curve_Under.l1 k a b (b.length : Int) i = some r ∧ (r = true ↔ ∀ j, i ≤ j → j < b.length → (atv a (rd_T37 b j).f0).2 ≤ (rd_T37 b j).f1) := by
  intro m
  induction m with
  | zero =>
    intro i hi
    obtain rfl : i = b.length := by omega
    exact ⟨1, true, by rw [curve_Under.l1, if_neg (by omega)], by simp; exact from_end _⟩
  | succ m ih =>
    intro i hi
    obtain ⟨k, r, hk, hr⟩ := ih (i + 1) (by omega)
    have c1 : (i : Int) < (b.length : Int) := by omega
    have c2 : (0 : Int) ≤ (i : Int) := by omega
    rw [from_succ (P := fun j => (atv a (rd_T37 b j).f0).2 ≤ (rd_T37 b j).f1) (by omega : i < b.length)]
    have e : ∀ k, curve_Under.l1 (k + 1) a b (b.length : Int) i = if (atv a (rd_T37 b i).f0).2 > (rd_T37 b i).f1 then some false else curve_Under.l1 k a b (b.length : Int) ((i + 1 : Nat) : Int) := by
      intro k
      rw [curve_Under.l1, if_pos c1, if_pos c2, if_pos c1, wsuc (by omega)]
      unfold curve_at.f
      rw [if_pos ha]; rfl
    by_cases hg : (atv a (rd_T37 b i).f0).2 > (rd_T37 b i).f1
    · refine ⟨1, false, by rw [e 0, if_pos hg], ?_⟩
      simp only [Bool.false_eq_true, false_iff]
      intro h; have := h.1; omega
    · refine ⟨k + 1, r, by rw [e, if_neg hg]; exact hk, ?_⟩
      rw [hr]
      exact ⟨fun h => ⟨by omega, h⟩, fun h => h.2⟩
theorem cUnder_loop0 (a b : List S37) (ha : right a) (hb : right b) : ∀ (m i : Nat), i + m = a.length →
    ∃ k r, curve_Under.l0 k a b a (a.length : Int) i = some r ∧ (r = true ↔ (∀ j, i ≤ j → j < a.length → (rd_T37 a j).f1 ≤ (atv b (rd_T37 a j).f0).1) ∧ ∀ j, 0 ≤ j → j < b.length → (atv a (rd_T37 b j).f0).2 ≤ (rd_T37 b j).f1) := by
  have la := right_pos ha
  have lb := right_pos hb
  intro m
  induction m with
  | zero =>
    intro i hi
    obtain rfl : i = a.length := by omega
    obtain ⟨k, r, hk, hr⟩ := cUnder_loop1 a b (by omega) ha b.length 0 (by omega)
    refine ⟨k + 1, r, ?_, ?_⟩
    · rw [curve_Under.l0, if_neg (by omega)]; exact hk
    · rw [hr]; exact ⟨fun h => ⟨from_end _, h⟩, fun h => h.2⟩
  | succ m ih =>
    intro i hi
    obtain ⟨k, r, hk, hr⟩ := ih (i + 1) (by omega)
    have c1 : (i : Int) < (a.length : Int) := by omega
    have c2 : (0 : Int) ≤ (i : Int) := by omega
    rw [from_succ (P := fun j => (rd_T37 a j).f1 ≤ (atv b (rd_T37 a j).f0).1) (by omega : i < a.length)]
    have e : ∀ k, curve_Under.l0 (k + 1) a b a (a.length : Int) i = if (rd_T37 a i).f1 > (atv b (rd_T37 a i).f0).1 then some false else curve_Under.l0 k a b a (a.length : Int) ((i + 1 : Nat) : Int) := by
      intro k
      rw [curve_Under.l0, if_pos c1, if_pos c2, if_pos c1, wsuc (by omega)]
      unfold curve_at.f
      rw [if_pos hb]; rfl
    by_cases hg : (rd_T37 a i).f1 > (atv b (rd_T37 a i).f0).1
    · refine ⟨1, false, by rw [e 0, if_pos hg], ?_⟩
      simp only [Bool.false_eq_true, false_iff]
      intro h; have := h.1.1; omega
    · refine ⟨k + 1, r, by rw [e, if_neg hg]; exact hk, ?_⟩
      rw [hr]
      exact ⟨fun h => ⟨⟨by omega, h.1⟩, h.2⟩, fun h => ⟨h.1.2, h.2⟩⟩
theorem curve_Under_iff (a b : List S37) (h : a.length < 4611686018427387904 ∧ b.length < 4611686018427387904) : ∃ k r, curve_Under.f k a b = some r ∧ (r = true ↔ under a b) := by
  suffices h : ∃ r, Ev (fun k => curve_Under.f k a b) r ∧ (r = true ↔ under a b) by
    obtain ⟨b, h1, h2⟩ := h
    obtain ⟨k, hk⟩ := h1.rounds
    exact ⟨k, b, hk, h2⟩
  have no : (¬ (right a ∧ right b)) → Ev (fun k => curve_Under.f k a b) false := by
    intro hn
    refine Ev.bind (cRight_ev a h.1) ?_
    by_cases ha : right a
    · refine Ev.congr (f := fun k => (curve_Right.f k b).bind fun t117 => curve_Under.j0 k a b (!t117)) (fun k => by rw [if_pos (decide_eq_true ha)]) ?_
      refine Ev.bind (cRight_ev b h.2) ?_
      rw [decide_eq_false (fun hb => hn ⟨ha, hb⟩)]
      exact Ev.step (f := fun _ => some false) (fun k => by rw [curve_Under.j0]; rfl) (Ev.now _)
    · refine Ev.congr (f := fun k => curve_Under.j0 k a b true) (fun k => by rw [if_neg (by simpa using ha)]) ?_
      exact Ev.step (f := fun _ => some false) (fun k => by rw [curve_Under.j0]; rfl) (Ev.now _)
  by_cases hab : right a ∧ right b
  · obtain ⟨k, r, hk, hr⟩ := cUnder_loop0 a b hab.1 hab.2 a.length 0 (by omega)
    refine ⟨r, ?_, ?_⟩
    · refine Ev.bind (cRight_ev a h.1) ?_
      refine Ev.congr (f := fun k => (curve_Right.f k b).bind fun t117 => curve_Under.j0 k a b (!t117)) (fun k => by rw [if_pos (decide_eq_true hab.1)]) ?_
      refine Ev.bind (cRight_ev b h.2) ?_
      rw [decide_eq_true hab.2]
      exact Ev.step (f := fun k => curve_Under.l0 k a b a (a.length : Int) 0) (fun k => by rw [curve_Under.j0]; rfl) (Ev.of (fun k => (curve_Under.mono_l k).2.1 a b a (a.length : Int) 0) hk)
    · rw [hr]; unfold under
      exact ⟨fun h => ⟨hab.1, hab.2, h⟩, fun h => h.2.2⟩
  · refine ⟨false, no hab, ?_⟩
    simp only [Bool.false_eq_true, false_iff]
    exact fun h => hab ⟨h.1, h.2.1⟩
theorem atv_le (l : List S37) (x : Int) : (atv l x).2 = (atv l x).1 ∨ (atv l x).2 = (atv l x).1 + 1 := by
  unfold atv seg
  (repeat' split) <;> simp
theorem inb_64 {p : S37} (h : inb p) : I64 p.f0 := by unfold inb at h; unfold I64; omega
theorem rUnder_loop1 (a b : List S37) (ha : right a) (hb : right b) : ∀ (m i : Nat), i + m = b.length →
    ∃ r, Ev (fun k => bourneref10_Under.l1 k a b i) r ∧ (r = true ↔ ∀ j, i ≤ j → j < b.length → (atv a (rd_T37 b j).f0).2 ≤ (rd_T37 b j).f1) := by
  have lb := right_pos hb
  intro m
  induction m with
  | zero =>
    intro i hi
    obtain rfl : i = b.length := by omega
    exact ⟨true, Ev.step (f := fun _ => some true) (fun k => by rw [bourneref10_Under.l1, if_neg (by omega)]) (Ev.now _), by simp; exact from_end _⟩
  | succ m ih =>
    intro i hi
    obtain ⟨r, hk, hr⟩ := ih (i + 1) (by omega)
    have c1 : (i : Int) < (b.length : Int) := by omega
    have c2 : (0 : Int) ≤ (i : Int) := by omega
    rw [from_succ (P := fun j => (atv a (rd_T37 b j).f0).2 ≤ (rd_T37 b j).f1) (by omega : i < b.length)]
    have hv := rvalue_ev a (rd_T37 b i).f0 ⟨ha, inb_64 (right_in hb i (by omega))⟩
    have e : ∀ k, bourneref10_Under.l1 (k + 1) a b i = (bourneref10_value.f k a ((rd_T37 b i).f0)).bind fun bt171 => (if bt171.1 > ((rd_T37 b i).f1) then (some false) else (if bt171.1 = ((rd_T37 b i).f1) then (if bt171.2 = true then (some false) else (bourneref10_Under.l1 k a b ((i + 1 : Nat) : Int))) else (bourneref10_Under.l1 k a b ((i + 1 : Nat) : Int)))) := by
      intro k
      rw [bourneref10_Under.l1, if_pos c1, if_pos c2, wsuc (by omega)]
    have ht := atv_le a (rd_T37 b i).f0
    by_cases hg : (atv a (rd_T37 b i).f0).2 > (rd_T37 b i).f1
    · refine ⟨false, Ev.step e (Ev.bind hv (Ev.congr (f := fun _ => some false) (fun k => ?_) (Ev.now _))), ?_⟩
      · by_cases h1 : (atv a (rd_T37 b i).f0).1 > (rd_T37 b i).f1
        · rw [if_pos h1]
        · rw [if_neg h1, if_pos (show (atv a (rd_T37 b i).f0).1 = (rd_T37 b i).f1 by omega), if_pos (decide_eq_true (by omega))]
      · simp only [Bool.false_eq_true, false_iff]
        intro h; have := h.1; omega
    · refine ⟨r, Ev.step e (Ev.bind hv (Ev.congr (fun k => ?_) hk)), ?_⟩
      · by_cases h1 : (atv a (rd_T37 b i).f0).1 = (rd_T37 b i).f1
        · rw [if_neg (show ¬ (atv a (rd_T37 b i).f0).1 > (rd_T37 b i).f1 by omega), if_pos h1, if_neg (by simp; omega)]
        · rw [if_neg (show ¬ (atv a (rd_T37 b i).f0).1 > (rd_T37 b i).f1 by omega), if_neg h1]
      · rw [hr]
        exact ⟨fun h => ⟨by omega, h⟩, fun h => h.2⟩
theorem rUnder_loop0 (a b : List S37) (ha : right a) (hb : right b) : ∀ (m i : Nat), i + m = a.length →
    ∃ r, Ev (fun k => bourneref10_Under.l0 k a b i) r ∧ (r = true ↔ (∀ j, i ≤ j → j < a.length → (rd_T37 a j).f1 ≤ (atv b (rd_T37 a j).f0).1) ∧ ∀ j, 0 ≤ j → j < b.length → (atv a (rd_T37 b j).f0).2 ≤ (rd_T37 b j).f1) := by
  have la := right_pos ha
  intro m
  induction m with
  | zero =>
    intro i hi
    obtain rfl : i = a.length := by omega
    obtain ⟨r, hk, hr⟩ := rUnder_loop1 a b ha hb b.length 0 (by omega)
    refine ⟨r, Ev.step (fun k => by rw [bourneref10_Under.l0, if_neg (by omega)]; rfl) hk, ?_⟩
    rw [hr]; exact ⟨fun h => ⟨from_end _, h⟩, fun h => h.2⟩
  | succ m ih =>
    intro i hi
    obtain ⟨r, hk, hr⟩ := ih (i + 1) (by omega)
    have c1 : (i : Int) < (a.length : Int) := by omega
    have c2 : (0 : Int) ≤ (i : Int) := by omega
    rw [from_succ (P := fun j => (rd_T37 a j).f1 ≤ (atv b (rd_T37 a j).f0).1) (by omega : i < a.length)]
    have hv := rvalue_ev b (rd_T37 a i).f0 ⟨hb, inb_64 (right_in ha i (by omega))⟩
    have e : ∀ k, bourneref10_Under.l0 (k + 1) a b i = (bourneref10_value.f k b ((rd_T37 a i).f0)).bind fun bt167 => (if ((rd_T37 a i).f1) > bt167.1 then (some false) else (bourneref10_Under.l0 k a b ((i + 1 : Nat) : Int))) := by
      intro k
      rw [bourneref10_Under.l0, if_pos c1, if_pos c2, wsuc (by omega)]
    by_cases hg : (rd_T37 a i).f1 > (atv b (rd_T37 a i).f0).1
    · refine ⟨false, Ev.step e (Ev.bind hv (Ev.congr (f := fun _ => some false) (fun k => by rw [if_pos hg]) (Ev.now _))), ?_⟩
      simp only [Bool.false_eq_true, false_iff]
      intro h; have := h.1.1; omega
    · refine ⟨r, Ev.step e (Ev.bind hv (Ev.congr (fun k => by rw [if_neg hg]) hk)), ?_⟩
      rw [hr]
      exact ⟨fun h => ⟨⟨by omega, h.1⟩, h.2⟩, fun h => ⟨h.1.2, h.2⟩⟩
theorem bourneref10_Under_iff (a b : List S37) (h : a.length < 4611686018427387904 ∧ b.length < 4611686018427387904) : ∃ k r, bourneref10_Under.f k a b = some r ∧ (r = true ↔ under a b) := by
  suffices h : ∃ r, Ev (fun k => bourneref10_Under.f k a b) r ∧ (r = true ↔ under a b) by
    obtain ⟨b, h1, h2⟩ := h
    obtain ⟨k, hk⟩ := h1.rounds
    exact ⟨k, b, hk, h2⟩
  by_cases hab : right a ∧ right b
  · obtain ⟨r, hk, hr⟩ := rUnder_loop0 a b hab.1 hab.2 a.length 0 (by omega)
    refine ⟨r, ?_, ?_⟩
    · refine Ev.bind (rRight_ev a h.1) ?_
      refine Ev.congr (f := fun k => (bourneref10_Right.f k b).bind fun t165 => bourneref10_Under.j0 k a b (!t165)) (fun k => by rw [if_pos (decide_eq_true hab.1)]) ?_
      refine Ev.bind (rRight_ev b h.2) ?_
      rw [decide_eq_true hab.2]
      exact Ev.step (f := fun k => bourneref10_Under.l0 k a b 0) (fun k => by rw [bourneref10_Under.j0]; rfl) hk
    · rw [hr]; unfold under
      exact ⟨fun h => ⟨hab.1, hab.2, h⟩, fun h => h.2.2⟩
  · refine ⟨false, ?_, ?_⟩
    · refine Ev.bind (rRight_ev a h.1) ?_
      by_cases ha : right a
      · refine Ev.congr (f := fun k => (bourneref10_Right.f k b).bind fun t165 => bourneref10_Under.j0 k a b (!t165)) (fun k => by rw [if_pos (decide_eq_true ha)]) ?_
        refine Ev.bind (rRight_ev b h.2) ?_
        rw [decide_eq_false (fun hb => hab ⟨ha, hb⟩)]
        exact Ev.step (f := fun _ => some false) (fun k => by rw [bourneref10_Under.j0]; rfl) (Ev.now _)
      · refine Ev.congr (f := fun k => bourneref10_Under.j0 k a b true) (fun k => by rw [if_neg (by simpa using ha)]) ?_
        exact Ev.step (f := fun _ => some false) (fun k => by rw [bourneref10_Under.j0]; rfl) (Ev.now _)
    · simp only [Bool.false_eq_true, false_iff]
      exact fun h => hab ⟨h.1, h.2.1⟩
end Go.Proofs.Ytoiclhdkgalhcaa.C
