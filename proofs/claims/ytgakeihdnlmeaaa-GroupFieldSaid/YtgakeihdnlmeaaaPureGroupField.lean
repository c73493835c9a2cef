/- GroupField holds: multiplication modulo P is commutative and associative, the residues modulo Q are a commutative ring, the results are residues, and only multiples of P have no inverse. No conditions beyond the statement's own. -/
import Derived.Test.YtgakeihdnlmeaaaFx1
import Derived.Test.YtgakeihdnlmeaaaGl
namespace Go.Proofs.Ytgakeihdnlmeaaa.Pure
open Go.Proofs.Ytgakeihdnlmeaaa.S
open Go.RowKit Go.Proofs.Ytgakeihdnlmeaaa.F

theorem mulmod_assoc (a b c m : Int) : a * b % m * c % m = a * (b * c % m) % m := by
  rw [Int.mul_emod, Int.emod_emod, ← Int.mul_emod, Int.mul_assoc, Int.mul_emod a (b * c % m), Int.emod_emod, ← Int.mul_emod]

theorem j2_ok (a b c : Int) : bournelaw04_GroupField.j2 1 a b c true (a % 1152921504606845789) true true true = some true := by
  rw [bournelaw04_GroupField.j2]
  unfold group_MulQ.f group_AddQ.f
  rw [Option.bind_some, Option.bind_some, if_pos (by rw [Int.mul_comm]), Option.bind_some, Option.bind_some, Option.bind_some, Option.bind_some, if_pos (mulmod_assoc _ _ _ _),
    Option.bind_some, Option.bind_some, Option.bind_some, Option.bind_some, Option.bind_some, if_pos ?_, Option.bind_some, if_pos rfl, if_pos rfl, if_pos rfl, if_pos rfl, Int.mul_one, BEq.rfl]
  rw [Int.mul_emod a ((b + c) % 1152921504606845789), Int.emod_emod, ← Int.mul_emod, Int.mul_add, ← Int.add_emod]

theorem j1_ok (a b c : Int) : bournelaw04_GroupField.j1 2 a b c true (a % 1152921504606845789) true true = some true := by
  rw [bournelaw04_GroupField.j1]
  unfold group_AddQ.f group_SubQ.f
  rw [Option.bind_some, Option.bind_some, if_pos (by rw [Int.add_comm]), Option.bind_some, Option.bind_some, Option.bind_some, Option.bind_some, if_pos (by omega), Option.bind_some, Option.bind_some,
    show (((a + b) % 1152921504606845789 - b) % 1152921504606845789 == a % 1152921504606845789) = true from beq_iff_eq.2 (by omega)]
  exact j2_ok a b c

theorem zero_mul (a b : Int) : a * b % 2305843009213691579 = 0 ↔ (a % 2305843009213691579 = 0 ∨ b % 2305843009213691579 = 0) := by
  constructor
  · intro h
    by_cases ha : a % 2305843009213691579 = 0
    · exact Or.inl ha
    · by_cases hb : b % 2305843009213691579 = 0
      · exact Or.inr hb
      · exfalso
        have h1 := B.rs_mul a b
        rw [h] at h1
        have h2 : B.rs 0 = 0 := rfl
        rw [h2] at h1
        rcases B.sf.pr.dvd_mul (Nat.dvd_of_mod_eq_zero h1.symm) with h | h
        · exact B.rs_ndvd ha h
        · exact B.rs_ndvd hb h
  · rintro (h | h)
    · rw [Int.mul_emod, h, Int.zero_mul]; rfl
    · rw [Int.mul_emod, h, Int.mul_zero]; rfl

theorem j0_ok (a b c : Int) : bournelaw04_GroupField.j0 3 a b c true (a % 2305843009213691579) (a % 1152921504606845789) true = some true := by
  rw [bournelaw04_GroupField.j0]
  unfold group_Mul.f
  rw [Option.bind_some, Option.bind_some, if_pos (by rw [Int.mul_comm]), Option.bind_some, Option.bind_some, Option.bind_some, Option.bind_some, if_pos (mulmod_assoc _ _ _ _), Option.bind_some]
  have hz := zero_mul a b
  by_cases ha : a % 2305843009213691579 = 0
  · rw [if_pos ha, beq_iff_eq.2 (hz.2 (Or.inl ha))]
    exact j1_ok a b c
  · rw [if_neg ha, Option.bind_some, Int.mul_one]
    have : ((a * b % 2305843009213691579 == 0) == (b % 2305843009213691579 == 0)) = true := by
      by_cases hb : b % 2305843009213691579 = 0
      · rw [beq_iff_eq.2 hb, beq_iff_eq.2 (hz.2 (Or.inr hb))]; rfl
      · rw [beq_eq_false_iff_ne.2 hb, beq_eq_false_iff_ne.2 (fun h => (hz.1 h).elim ha hb)]; rfl
    rw [this]
    exact j1_ok a b c

theorem GroupField : bournelaw04_GroupField.Pure := by
  intro a b c w0 w1 w2
  refine ⟨3, ?_⟩
  unfold bournelaw04_GroupField.f bournelaw04_small.f group_Mul.f group_AddQ.f group_Inv.f
  rw [Option.bind_some, Option.bind_some, Option.bind_some, Option.bind_some, Int.mul_one, Int.add_zero, if_pos (Int.emod_nonneg _ (by decide)), if_pos (Int.emod_lt_of_pos _ (by decide)), if_pos (Int.emod_nonneg _ (by decide)), if_pos (Int.emod_lt_of_pos _ (by decide))]
  by_cases h : a % 2305843009213691579 = 0
  · rw [if_pos h]
    show (if ((false == (a % 2305843009213691579 != 0)) = true) then (if (false = true) then _ else _) else _) = _
    rw [if_pos (by rw [h]; rfl), if_neg (by decide)]
    exact j0_ok a b c
  · rw [if_neg h]
    have hr := B.ex_range a 2305843009213691577
    have hm := B.inv_mul h
    have h1 : B.ex a 2305843009213691577 ≠ 0 := by
      intro h0
      rw [h0, Int.zero_mul] at hm
      exact absurd hm (by decide)
    show (if ((true == (a % 2305843009213691579 != 0)) = true) then (if (true = true) then (if (B.ex a 2305843009213691577 ≥ 1) then (if (B.ex a 2305843009213691577 < 2305843009213691579) then _ else _) else _) else _) else _) = _
    rw [if_pos (by simp [h]), if_pos rfl, if_pos (by omega), if_pos hr.2, Option.bind_some]
    show bournelaw04_GroupField.j0 3 a b c true _ _ (a * B.ex a 2305843009213691577 % 2305843009213691579 == 1) = _
    rw [Int.mul_comm, hm]
    exact j0_ok a b c

end Go.Proofs.Ytgakeihdnlmeaaa.Pure
