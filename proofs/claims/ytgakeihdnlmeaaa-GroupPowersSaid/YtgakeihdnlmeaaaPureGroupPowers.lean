/- GroupPowers holds: products, powers and inverses of powers of a member are the powers of the sums, products and negatives of the exponents modulo Q; the square is the power 2. No conditions beyond the statement's own. -/
import Derived.Test.YtgakeihdnlmeaaaPx1
import Derived.Test.YtgakeihdnlmeaaaGl
namespace Go.Proofs.Ytgakeihdnlmeaaa.Pure
open Go.Proofs.Ytgakeihdnlmeaaa.S
open Go.RowKit Go.Proofs.Ytgakeihdnlmeaaa.P

theorem GroupPowers : bournelaw04_GroupPowers.Pure := by
  intro y d e h0 h1 h2
  have hd := (i64b h1).2
  have he := (i64b h2).2
  refine ⟨1, ?_⟩
  unfold bournelaw04_GroupPowers.f bournelaw04_small.f group_Mul.f group_Exp.f
  rw [Option.bind_some, Option.bind_some, if_pos (show (2 : Int) < 9223372036854775808 by decide), Option.bind_some, Option.bind_some, B.ex_2, if_pos rfl,
    if_pos (show (1 : Int) < 9223372036854775808 by decide), Option.bind_some, B.ex_1, Int.mul_one, if_pos rfl,
    if_pos (show (0 : Int) < 9223372036854775808 by decide), Option.bind_some, B.ex_zero, show ((1 : Int) != 1) = false from rfl, bournelaw04_GroupPowers.j0, if_neg (by decide)]
  unfold group_In.f
  rw [Option.bind_some]
  by_cases hin : 0 < y % 2305843009213691579 ∧ y % 2305843009213691579 < 2305843009213691579 ∧ B.ex (y % 2305843009213691579) 1152921504606845789 = 1
  · have hm : B.Mem (B.rs y) := by
      have := (B.in_iff hin.1 hin.2.1).1 hin
      rwa [B.rs_rs] at this
    rw [decide_eq_true hin, if_pos rfl]
    unfold group_Exp.f group_Mul.f group_AddQ.f group_MulQ.f group_Inv.f group_SubQ.f
    have b1 : (d + e) % 1152921504606845789 < 9223372036854775808 := by omega
    have b2 : d * e % 1152921504606845789 < 9223372036854775808 := by have := Int.emod_lt_of_pos (d * e) (show (0 : Int) < 1152921504606845789 by decide); omega
    have b3 : (0 - d) % 1152921504606845789 < 9223372036854775808 := by omega
    have b4 : (d + 0) % 1152921504606845789 < 9223372036854775808 := by omega
    rw [if_pos hd, Option.bind_some, if_pos he, Option.bind_some, Option.bind_some, Option.bind_some, if_pos b1, Option.bind_some, Option.bind_some, if_pos he, Option.bind_some, Option.bind_some,
      if_pos b2, Option.bind_some, Option.bind_some, Option.bind_some, if_neg (B.ex_ne hm d), if_pos rfl, B.ex_mul hm, if_pos rfl, B.ex_ex hm, if_pos rfl, if_pos rfl, Option.bind_some, if_pos b3, Option.bind_some,
      B.ex_inv hm, if_pos rfl, Option.bind_some, Option.bind_some, if_pos b4, Option.bind_some, ← B.ex_red hm, BEq.rfl]
  · rw [decide_eq_false hin, if_neg (by decide)]

end Go.Proofs.Ytgakeihdnlmeaaa.Pure
