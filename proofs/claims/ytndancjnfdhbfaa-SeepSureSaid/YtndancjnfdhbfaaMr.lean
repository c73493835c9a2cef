/- The reference's Maybe in closed form. -/
import Derived.Test.YtndancjnfdhbfaaMb
import Derived.Test.YtndancjnfdhbfaaWf
namespace Go.Proofs.Ytndancjnfdhbfaa.C
open Go.Proofs.Ytndancjnfdhbfaa.S
open Go.RowKit Go.Proofs.YtndancjnfdhbfaaW.PrintWords Go.Proofs.YtndancjnfdhbfaaW.PrintLast Go.Proofs.YtndancjnfdhbfaaW.PrintMore
set_option linter.unusedVariables false
set_option linter.unusedSimpArgs false
theorem rm7 (x9 x10 : Bool) (q0 q1 t k0 k1 : Int) : bourneref20_Maybe.j7 2 x9 x10 q0 q1 t k0 k1 = some (q0, q1, t, if x9 && x10 then 0 else if x9 then 1 else 0, if x9 && x10 then 1 else if x9 then 1 else 0) := by
  cases x9 <;> cases x10 <;> rfl
theorem rm6 (x7 x9 x10 x11 : Bool) (q0 q1 t k0 k1 : Int) : bourneref20_Maybe.j6 3 x7 x9 x10 x11 q0 q1 t k0 k1 = bourneref20_Maybe.j7 2 x9 (x10 || x11 && x7) q0 q1 t k0 k1 := by
  rw [bourneref20_Maybe.j6]; cases x10 <;> cases x11 <;> rfl
theorem rm5 (x7 x8 x9 x10 x11 : Bool) (q0 q1 t k0 k1 : Int) : bourneref20_Maybe.j5 4 x7 x8 x9 x10 x11 q0 q1 t k0 k1 = bourneref20_Maybe.j6 3 x7 (x9 || x11 && x8) x10 x11 q0 q1 t k0 k1 := by
  rw [bourneref20_Maybe.j5]; cases x9 <;> cases x11 <;> rfl
theorem ref_Maybe_ok (nm : ByteArray) (kd fr tw : Int) (l4 l5 l6 : List S90) (a7 a8 a9 a10 n d p b bn bd dl q0 q1 t k0 k1 lo hi : Int) (h : I64 p ∧ I64 b) :
    ∃ k, bourneref20_Maybe.f k nm kd fr tw l4 l5 l6 a7 a8 a9 a10 n d p b bn bd dl q0 q1 t k0 k1 lo hi = some (q0, q1, t, (if kd = 3 then may lo hi p b k0 k1 else (k0, k1)).1, (if kd = 3 then may lo hi p b k0 k1 else (k0, k1)).2) := by
  obtain ⟨hp, hb⟩ := h
  refine ⟨9, ?_⟩
  unfold bourneref20_Maybe.f
  by_cases h3 : kd = 3
  case neg => rw [if_neg h3, if_neg h3, bourneref20_Maybe.j0, if_pos rfl]
  rw [if_pos h3, if_pos h3, bourneref20_Maybe.j0]
  unfold may
  by_cases hl : lo ≤ hi
  case neg => rw [if_pos (decide_eq_true (by omega)), if_neg (by omega)]
  rw [if_neg (by simp; omega)]
  have e1 : (if k0 ≤ 0 then bourneref20_Maybe.j1 8 (decide (k1 ≥ 0)) nm kd fr tw l4 l5 l6 a7 a8 a9 a10 n d p b bn bd dl q0 q1 t k0 k1 lo hi else bourneref20_Maybe.j1 8 false nm kd fr tw l4 l5 l6 a7 a8 a9 a10 n d p b bn bd dl q0 q1 t k0 k1 lo hi) = bourneref20_Maybe.j1 8 (cl k0 k1) nm kd fr tw l4 l5 l6 a7 a8 a9 a10 n d p b bn bd dl q0 q1 t k0 k1 lo hi := by
    unfold cl
    by_cases h : k0 ≤ 0
    · rw [if_pos h]; congr 1; rw [Bool.eq_iff_iff]; simp; omega
    · rw [if_neg h, decide_eq_false (by omega)]
  have e2 : (if k0 ≤ 1 then bourneref20_Maybe.j2 7 (cl k0 k1) (decide (k1 ≥ 1)) nm kd fr tw l4 l5 l6 a7 a8 a9 a10 n d p b bn bd dl q0 q1 t k0 k1 lo hi else bourneref20_Maybe.j2 7 (cl k0 k1) false nm kd fr tw l4 l5 l6 a7 a8 a9 a10 n d p b bn bd dl q0 q1 t k0 k1 lo hi) = bourneref20_Maybe.j2 7 (cl k0 k1) (op k0 k1) nm kd fr tw l4 l5 l6 a7 a8 a9 a10 n d p b bn bd dl q0 q1 t k0 k1 lo hi := by
    unfold op
    by_cases h : k0 ≤ 1
    · rw [if_pos h]; congr 1; rw [Bool.eq_iff_iff]; simp; omega
    · rw [if_neg h, decide_eq_false (by omega)]
  rw [e1, bourneref20_Maybe.j1, e2, bourneref20_Maybe.j2]
  by_cases hco : cl k0 k1 = false ∧ op k0 k1 = false
  · have ht : tt p b k0 k1 hi = false := by unfold tt; rw [hco.1, hco.2]; rfl
    have hf : ff p b k0 k1 lo = false := by unfold ff; rw [hco.1, hco.2]; rfl
    rw [hco.1, hco.2, ht, hf, if_neg (by simp), bourneref20_Maybe.j3]
    simp
  have e3 : (if cl k0 k1 = true then bourneref20_Maybe.j3 6 (cl k0 k1) (op k0 k1) false nm kd fr tw l4 l5 l6 a7 a8 a9 a10 n d p b bn bd dl q0 q1 t k0 k1 lo hi else bourneref20_Maybe.j3 6 (cl k0 k1) (op k0 k1) (!op k0 k1) nm kd fr tw l4 l5 l6 a7 a8 a9 a10 n d p b bn bd dl q0 q1 t k0 k1 lo hi) = bourneref20_Maybe.j3 6 (cl k0 k1) (op k0 k1) false nm kd fr tw l4 l5 l6 a7 a8 a9 a10 n d p b bn bd dl q0 q1 t k0 k1 lo hi := by
    by_cases h : cl k0 k1 = true
    · rw [if_pos h]
    · rw [if_neg h]
      have : op k0 k1 = true := by
        cases hc : op k0 k1 with
        | true => rfl
        | false => exact absurd ⟨by simpa using h, hc⟩ hco
      rw [this]; rfl
  rw [e3, bourneref20_Maybe.j3, if_neg (by simp)]
  have e4 : (if lo ≤ b then bourneref20_Maybe.j4 5 (cl k0 k1) (op k0 k1) (decide (hi ≥ p)) (decide (lo < p)) nm kd fr tw l4 l5 l6 a7 a8 a9 a10 n d p b bn bd dl q0 q1 t k0 k1 lo hi else bourneref20_Maybe.j4 5 (cl k0 k1) (op k0 k1) (decide (hi ≥ p)) false nm kd fr tw l4 l5 l6 a7 a8 a9 a10 n d p b bn bd dl q0 q1 t k0 k1 lo hi) = bourneref20_Maybe.j4 5 (cl k0 k1) (op k0 k1) (decide (hi ≥ p)) (decide (lo ≤ b ∧ lo < p)) nm kd fr tw l4 l5 l6 a7 a8 a9 a10 n d p b bn bd dl q0 q1 t k0 k1 lo hi := by
    by_cases h : lo ≤ b
    · rw [if_pos h]; congr 1; rw [Bool.eq_iff_iff]; simp; omega
    · rw [if_neg h, decide_eq_false (show ¬ (lo ≤ b ∧ lo < p) by omega)]
  rw [e4, bourneref20_Maybe.j4]
  have e5 : (if p > b then ((bourneref20_middle.f nm kd fr tw l4 l5 l6 a7 a8 a9 a10 n d p b bn bd dl lo hi).bind fun t155 => (bourneref20_Maybe.j5 4 (cl k0 k1) (op k0 k1) (decide (hi ≥ p)) (decide (lo ≤ b ∧ lo < p)) t155 q0 q1 t k0 k1)) else bourneref20_Maybe.j5 4 (cl k0 k1) (op k0 k1) (decide (hi ≥ p)) (decide (lo ≤ b ∧ lo < p)) false q0 q1 t k0 k1) = bourneref20_Maybe.j5 4 (cl k0 k1) (op k0 k1) (decide (hi ≥ p)) (decide (lo ≤ b ∧ lo < p)) (decide (b + 1 < p ∧ b < hi ∧ lo < p)) q0 q1 t k0 k1 := by
    by_cases h : p > b
    · rw [if_pos h]
      unfold bourneref20_middle.f
      simp only [Option.bind_some]
      congr 1
      rw [Bool.eq_iff_iff]
      unfold I64 at hp hb
      rw [B.wrap_id (x := b + 1) (by omega) (by omega), B.wrap_id (x := p - 1) (by omega) (by omega)]
      simp only [decide_eq_true_eq]
      unfold mx mn
      (repeat' split) <;> omega
    · rw [if_neg h, decide_eq_false (show ¬ (b + 1 < p ∧ b < hi ∧ lo < p) by omega)]
  rw [e5, rm5, rm6, rm7]
  have hc : cl k0 k1 = true ∨ op k0 k1 = true := by
    cases h1 : cl k0 k1 with
    | true => exact .inl rfl
    | false =>
      cases h2 : op k0 k1 with
      | true => exact .inr rfl
      | false => exact absurd ⟨h1, h2⟩ hco
  have key : tt p b k0 k1 hi = (decide (hi ≥ p) || decide (b + 1 < p ∧ b < hi ∧ lo < p) && op k0 k1) ∧ ff p b k0 k1 lo = (decide (lo ≤ b ∧ lo < p) || decide (b + 1 < p ∧ b < hi ∧ lo < p) && cl k0 k1) ∧
      ((decide (lo ≤ b ∧ lo < p) || decide (b + 1 < p ∧ b < hi ∧ lo < p) && cl k0 k1) = true ∨ (decide (hi ≥ p) || decide (b + 1 < p ∧ b < hi ∧ lo < p) && op k0 k1) = true) := by
    unfold tt ff sph
    revert hc
    clear e1 e2 e3 e4 e5 hco
    cases cl k0 k1 <;> cases op k0 k1 <;> intro hc <;> refine ⟨by rw [Bool.eq_iff_iff]; simp only [Bool.or_eq_true, Bool.and_eq_true, decide_eq_true_eq, Bool.not_eq_true', Bool.or_eq_false_iff, Bool.and_eq_false_iff, decide_eq_false_iff_not, Bool.false_eq_true, Bool.true_eq_false, false_and, and_false, or_false, false_or, true_and, and_true, true_or, or_true, Bool.not_true, Bool.not_false] <;> first | omega | (simp at hc; done), by rw [Bool.eq_iff_iff]; simp only [Bool.or_eq_true, Bool.and_eq_true, decide_eq_true_eq, Bool.not_eq_true', Bool.or_eq_false_iff, Bool.and_eq_false_iff, decide_eq_false_iff_not, Bool.false_eq_true, Bool.true_eq_false, false_and, and_false, or_false, false_or, true_and, and_true, true_or, or_true, Bool.not_true, Bool.not_false] <;> first | omega | (simp at hc; done), ?_⟩ <;> simp only [Bool.or_eq_true, Bool.and_eq_true, decide_eq_true_eq, Bool.not_eq_true', Bool.or_eq_false_iff, Bool.and_eq_false_iff, decide_eq_false_iff_not, Bool.false_eq_true, Bool.true_eq_false, false_and, and_false, or_false, false_or, true_and, and_true, true_or, or_true, Bool.not_true, Bool.not_false] <;> first | omega | (simp at hc; done)
  obtain ⟨ht, hf, hor⟩ := key
  rw [← ht, ← hf] at hor
  rw [if_pos (show lo ≤ hi ∧ (ff p b k0 k1 lo = true ∨ tt p b k0 k1 hi = true) from ⟨hl, hor⟩), ← ht, ← hf]
  revert hor
  unfold st2
  cases tt p b k0 k1 hi <;> cases ff p b k0 k1 lo <;> simp
end Go.Proofs.Ytndancjnfdhbfaa.C
