/- GroupOrder holds: powers of the generator are equal exactly if the exponents have the same residue modulo Q, and every other member but 1 generates the group. No conditions beyond the statement's own. -/
import Derived.Test.YtgakeihdnlmeaaaOx1
import Derived.Test.YtgakeihdnlmeaaaGl
namespace Go.Proofs.Ytgakeihdnlmeaaa.Pure
open Go.Proofs.Ytgakeihdnlmeaaa.S
open Go.RowKit Go.Proofs.Ytgakeihdnlmeaaa.O

theorem GroupOrder : bournelaw04_GroupOrder.Pure := by
  intro d e y h0 h1 h2
  have hd := (i64b h0).2
  have he := (i64b h1).2
  have key := B.ex_inj_iff (x := 4) B.rs4 (by decide) d e
  refine ⟨1, ?_⟩
  unfold bournelaw04_GroupOrder.f bournelaw04_small.f group_SubQ.f group_Exp.f group_Mul.f
  rw [Option.bind_some, Option.bind_some, if_pos hd, Option.bind_some, if_pos he, Option.bind_some]
  have e1 : ((B.ex 4 d == B.ex 4 e) != ((d - e) % 1152921504606845789 == 0)) = false := by
    by_cases h : B.ex 4 d = B.ex 4 e
    · have := key.1 h
      rw [h, BEq.rfl, show ((d - e) % 1152921504606845789 == 0) = true from beq_iff_eq.2 (by omega)]; rfl
    · have h' : ¬ (d % 1152921504606845789 = e % 1152921504606845789) := fun hh => h (key.2 hh)
      rw [beq_eq_false_iff_ne.2 h, show ((d - e) % 1152921504606845789 == 0) = false from beq_eq_false_iff_ne.2 (by omega)]; rfl
  rw [e1, if_neg (by decide), Option.bind_some]
  by_cases hz : y * y % 2305843009213691579 = 0
  · rw [if_pos hz, bournelaw04_GroupOrder.j0, if_pos rfl]
  · rw [if_neg hz, bournelaw04_GroupOrder.j0]
    by_cases ho : y * y % 2305843009213691579 = 1
    · rw [if_pos (beq_iff_eq.2 ho)]
    · rw [if_neg (by simpa using ho), if_pos rfl]
      unfold group_Exp.f group_AddQ.f
      rw [if_pos hd, Option.bind_some, Option.bind_some, Int.add_zero]
      have hyn : y % 2305843009213691579 ≠ 0 := by
        intro h
        apply hz
        rw [Int.mul_emod, h]; rfl
      have hx : B.Mem (B.rs (y * y % 2305843009213691579)) := by
        rw [B.rs_mul]
        exact B.mem_sq (B.rs_ndvd hyn)
      have hx1 : B.rs (y * y % 2305843009213691579) ≠ 1 := by
        unfold B.rs
        rw [Int.emod_emod]
        omega
      have k2 := B.ex_one_iff hx hx1 d
      by_cases h : B.ex (y * y % 2305843009213691579) d = 1
      · rw [h, k2.1 h]; rfl
      · rw [beq_eq_false_iff_ne.2 h, beq_eq_false_iff_ne.2 (fun hh => h (k2.2 hh))]; rfl

end Go.Proofs.Ytgakeihdnlmeaaa.Pure
