/- What is known of a siphon behind a step, in closed form: the walk over the turns comes to it, and so does the reference. -/
import Derived.Test.YtndancjnfdhbfaaMy
import Derived.Test.YtndancjnfdhbfaaCx
namespace Go.Proofs.Ytndancjnfdhbfaa.S
open Go.RowKit Go.Proofs.YtndancjnfdhbfaaW.PrintWords Go.Proofs.YtndancjnfdhbfaaW.PrintMore
set_option linter.unusedVariables false
set_option linter.unusedSimpArgs false
/-- a state before that may be -/
def cl (k0 k1 : Int) : Bool := decide (k0 ≤ 0 ∧ 0 ≤ k1)
def op (k0 k1 : Int) : Bool := decide (k0 ≤ 1 ∧ 1 ≤ k1)
/-- the pair of the least and the greatest state, of what may be behind -/
def st2 (t f : Bool) : Int × Int := (if f then 0 else if t then 1 else 2, if t then 1 else if f then 0 else -1)
def tt (p b k0 k1 x : Int) : Bool := cl k0 k1 && sph p b x false || op k0 k1 && sph p b x true
def ff (p b k0 k1 x : Int) : Bool := cl k0 k1 && !sph p b x false || op k0 k1 && !sph p b x true
theorem rnd1_st (t f : Bool) (p b k0 k1 x : Int) (o : Bool) : rnd1 p b k0 k1 x o (st2 t f) = if k0 ≤ nn o ∧ nn o ≤ k1 then st2 (t || sph p b x o) (f || !sph p b x o) else st2 t f := by
  unfold rnd1
  split
  · cases t <;> cases f <;> cases sph p b x o <;> rfl
  · rfl
theorem rnd_st (t f : Bool) (p b k0 k1 x : Int) : rnd p b k0 k1 (st2 t f) x = st2 (t || tt p b k0 k1 x) (f || ff p b k0 k1 x) := by
  unfold rnd
  rw [rnd1_st]
  have hc : cl k0 k1 = decide (k0 ≤ nn false ∧ nn false ≤ k1) := rfl
  have ho : op k0 k1 = decide (k0 ≤ nn true ∧ nn true ≤ k1) := rfl
  unfold tt ff
  by_cases h0 : k0 ≤ nn false ∧ nn false ≤ k1
  · rw [if_pos h0, rnd1_st, hc, decide_eq_true h0, ho]
    by_cases h1 : k0 ≤ nn true ∧ nn true ≤ k1
    · rw [if_pos h1, decide_eq_true h1]; simp [Bool.or_assoc]
    · rw [if_neg h1, decide_eq_false h1]; simp
  · rw [if_neg h0, rnd1_st, hc, decide_eq_false h0, ho]
    by_cases h1 : k0 ≤ nn true ∧ nn true ≤ k1
    · rw [if_pos h1, decide_eq_true h1]; simp
    · rw [if_neg h1, decide_eq_false h1]; simp
theorem foldl_st (p b k0 k1 : Int) : ∀ (xs : List Int) (t f : Bool), xs.foldl (rnd p b k0 k1) (st2 t f) = st2 (t || xs.any (tt p b k0 k1)) (f || xs.any (ff p b k0 k1))
  | [], t, f => by simp
  | x :: xs, t, f => by rw [List.foldl_cons, rnd_st, foldl_st p b k0 k1 xs]; simp [Bool.or_assoc]
/-- what may be behind, in closed form -/
def may (lo hi p b k0 k1 : Int) : Int × Int :=
  if lo ≤ hi ∧ (ff p b k0 k1 lo = true ∨ tt p b k0 k1 hi = true) then st2 (tt p b k0 k1 hi) (ff p b k0 k1 lo) else (k0, k1)
theorem sph_mono {p b x y : Int} {o : Bool} (h : x ≤ y) (hx : sph p b x o = true) : sph p b y o = true := by
  unfold sph at *
  cases o <;> simp only [Bool.or_eq_true, Bool.and_eq_true, decide_eq_true_eq, Bool.false_eq_true, false_and, or_false, true_and] at * <;> omega
theorem mayb_eq (lo hi p b k0 k1 : Int) : mayb lo hi p b k0 k1 = may lo hi p b k0 k1 := by
  unfold mayb may rnds
  rw [show ((2 : Int), (-1 : Int)) = st2 false false from rfl, foldl_st, Bool.false_or, Bool.false_or]
  by_cases h : lo ≤ hi
  · have hlo : lo ∈ trn lo hi p b 6 := by simp [trn, six, List.mem_filter]; omega
    have hhi : hi ∈ trn lo hi p b 6 := by simp [trn, six, List.mem_filter]; omega
    have hin : ∀ x, x ∈ trn lo hi p b 6 → lo ≤ x ∧ x ≤ hi := by
      intro x hx
      unfold trn at hx
      have := (List.mem_filter.1 hx).2
      simpa using this
    have ht : (trn lo hi p b 6).any (tt p b k0 k1) = tt p b k0 k1 hi := by
      rw [Bool.eq_iff_iff, List.any_eq_true]
      constructor
      · rintro ⟨x, hx, hxt⟩
        unfold tt at *
        simp only [Bool.or_eq_true, Bool.and_eq_true] at *
        rcases hxt with ⟨h1, h2⟩ | ⟨h1, h2⟩
        · exact .inl ⟨h1, sph_mono (hin x hx).2 h2⟩
        · exact .inr ⟨h1, sph_mono (hin x hx).2 h2⟩
      · exact fun hh => ⟨hi, hhi, hh⟩
    have hf : (trn lo hi p b 6).any (ff p b k0 k1) = ff p b k0 k1 lo := by
      rw [Bool.eq_iff_iff, List.any_eq_true]
      have no : ∀ x o, lo ≤ x → sph p b x o = false → sph p b lo o = false := by
        intro x o hx hs
        cases hc : sph p b lo o with
        | false => rfl
        | true => rw [sph_mono hx hc] at hs; cases hs
      constructor
      · rintro ⟨x, hx, hxt⟩
        unfold ff at *
        simp only [Bool.or_eq_true, Bool.and_eq_true, Bool.not_eq_true'] at *
        rcases hxt with ⟨h1, h2⟩ | ⟨h1, h2⟩
        · exact .inl ⟨h1, no x _ (hin x hx).1 h2⟩
        · exact .inr ⟨h1, no x _ (hin x hx).1 h2⟩
      · exact fun hh => ⟨lo, hlo, hh⟩
    rw [ht, hf]
    cases tt p b k0 k1 hi <;> cases ff p b k0 k1 lo <;> simp [st2, h]
  · have he : trn lo hi p b 6 = [] := by
      unfold trn
      rw [List.filter_eq_nil_iff]
      intro x hx
      simp; omega
    rw [he]
    simp [st2, h]
end Go.Proofs.Ytndancjnfdhbfaa.S
