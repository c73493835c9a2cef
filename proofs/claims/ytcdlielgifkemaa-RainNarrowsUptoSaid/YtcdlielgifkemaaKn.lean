/- The arithmetic of a division of 128 bits by 64, digit by digit (Knuth), and of the bit length: plain integers, no program. -/
import Derived.RowKit
import Derived.Lib.BitFns
import Derived.Laws.Bits64
import Derived.Laws.BitsLemmas
import Derived.Test.YtcdlielgifkemaaWMore
namespace Go.Proofs.Ytcdlielgifkemaa.A
open Go.RowKit Go.Proofs.YtcdlielgifkemaaW.PrintWords Go.Proofs.YtcdlielgifkemaaW.PrintLast Go.Proofs.YtcdlielgifkemaaW.PrintMore

theorem u64_id {x : Int} (h0 : 0 ≤ x) (h1 : x < 18446744073709551616) : IntKind.u64.wrap x = x := by
  rw [IntKind.wrap_u64]; exact Int.emod_eq_of_lt h0 h1

theorem bl_spec : ∀ (f x : Nat), x ≠ 0 → x < 2 ^ f → 2 ^ (Lib.bitLenAux f x - 1) ≤ x ∧ x < 2 ^ (Lib.bitLenAux f x) ∧ 1 ≤ Lib.bitLenAux f x ∧ Lib.bitLenAux f x ≤ f
  | 0, x, h0, h => by simp at h; exact absurd h h0
  | f + 1, x, h0, h => by
    unfold Lib.bitLenAux
    rw [if_neg h0]
    by_cases h2 : x / 2 = 0
    · have hx : x = 1 := by omega
      have e : Lib.bitLenAux f (x / 2) = 0 := by rw [h2]; cases f <;> simp [Lib.bitLenAux]
      rw [e, hx]; simp
    · obtain ⟨h3, h4, h5, h6⟩ := bl_spec f (x / 2) h2 (by rw [Nat.pow_succ] at h; omega)
      obtain ⟨m, hm⟩ : ∃ m, Lib.bitLenAux f (x / 2) = m + 1 := ⟨Lib.bitLenAux f (x / 2) - 1, by omega⟩
      rw [hm] at h3 h4 h5 h6 ⊢
      rw [Nat.add_sub_cancel] at h3
      refine ⟨?_, ?_, by omega, by omega⟩
      · rw [show 1 + (m + 1) - 1 = m + 1 by omega, Nat.pow_succ]; omega
      · rw [show 1 + (m + 1) = (m + 1) + 1 by omega, Nat.pow_succ]; omega

/-- one digit: the divisor's two halves, what is divided -/
structure Dig (Y y1 y0 u v : Int) : Prop where
  hY : Y = y1 * 4294967296 + y0
  h1 : 2147483648 ≤ y1
  h1' : y1 < 4294967296
  h0 : 0 ≤ y0
  h0' : y0 < 4294967296
  hu : 0 ≤ u
  hu' : u < Y
  hv : 0 ≤ v
  hv' : v < 4294967296

/-- the guess -/
structure Gs (Y y1 u v q rh : Int) : Prop where
  he : u = q * y1 + rh
  hr : 0 ≤ rh
  hq : 0 ≤ q
  hq' : q ≤ 4294967297
  hd : (u * 4294967296 + v) / Y ≤ q

section
variable {Y y1 y0 u v q rh : Int}

theorem Dig.pos (H : Dig Y y1 y0 u v) : 0 < Y := by have := H.hY; have := H.h1; have := H.h0; omega

theorem Dig.lt (H : Dig Y y1 y0 u v) : Y < 18446744073709551616 := by have := H.hY; have := H.h1'; have := H.h0'; omega

theorem Dig.digit (H : Dig Y y1 y0 u v) : 0 ≤ (u * 4294967296 + v) / Y ∧ (u * 4294967296 + v) / Y < 4294967296 := by
  have hp := H.pos
  have := H.hu; have := H.hv; have := H.hu'; have := H.hv'
  exact ⟨Int.ediv_nonneg (by omega) (by omega), Int.ediv_lt_of_lt_mul hp (by omega)⟩

theorem Dig.low (H : Dig Y y1 y0 u v) : (u * 4294967296 + v) / Y * Y ≤ u * 4294967296 + v := Int.ediv_mul_le _ (by have := H.pos; omega)

theorem Dig.start (H : Dig Y y1 y0 u v) : Gs Y y1 u v (u / y1) (u - u / y1 * y1) ∧ u - u / y1 * y1 < 4294967296 := by
  have hp := H.pos; have h1 := H.h1; have h1' := H.h1'; have hu := H.hu; have hu' := H.hu'; have hv' := H.hv'; have hY := H.hY; have h0 := H.h0; have h0' := H.h0'
  have e := Int.emod_def u y1
  have m0 := Int.emod_nonneg u (show y1 ≠ 0 by omega)
  have m1 := Int.emod_lt_of_pos u (show 0 < y1 by omega)
  have ec : u / y1 * y1 = y1 * (u / y1) := Int.mul_comm _ _
  refine ⟨⟨by omega, by omega, Int.ediv_nonneg hu (by omega), ?_, ?_⟩, by omega⟩
  · have : u / y1 < 4294967298 := by
      apply Int.ediv_lt_of_lt_mul (by omega)
      omega
    omega
  · apply Int.le_ediv_of_mul_le (by omega)
    have hl := H.low
    have hD := H.digit
    generalize (u * 4294967296 + v) / Y = D at *
    have e2 : D * Y = D * y1 * 4294967296 + D * y0 := by rw [hY, Int.mul_add, Int.mul_assoc]
    have := Int.mul_nonneg hD.1 h0
    omega

theorem Gs.expand (H : Dig Y y1 y0 u v) (S : Gs Y y1 u v q rh) : q * Y = u * 4294967296 - rh * 4294967296 + q * y0 := by
  have e2 : q * Y = q * y1 * 4294967296 + q * y0 := by rw [H.hY, Int.mul_add, Int.mul_assoc]
  have := S.he
  omega

theorem Gs.over (H : Dig Y y1 y0 u v) (S : Gs Y y1 u v q rh) (h : 4294967296 ≤ q ∨ 4294967296 * rh + v < q * y0) : (u * 4294967296 + v) / Y ≤ q - 1 := by
  rcases h with h | h
  · have := H.digit; omega
  · have : (u * 4294967296 + v) / Y < q := by
      apply Int.ediv_lt_of_lt_mul H.pos
      have := S.expand H
      omega
    omega

theorem Gs.next (H : Dig Y y1 y0 u v) (S : Gs Y y1 u v q rh) (h : 4294967296 ≤ q ∨ 4294967296 * rh + v < q * y0) : Gs Y y1 u v (q - 1) (rh + y1) := by
  have hD := H.digit
  have ho := S.over H h
  refine ⟨?_, by have := S.hr; have := H.h1; omega, by omega, by have := S.hq'; omega, ho⟩
  have := S.he
  rw [Int.sub_mul]; omega

theorem Gs.done (H : Dig Y y1 y0 u v) (S : Gs Y y1 u v q rh) (h : q * y0 ≤ 4294967296 * rh + v) : (u * 4294967296 + v) / Y = q := by
  have h1 := S.hd
  have : q ≤ (u * 4294967296 + v) / Y := by
    apply Int.le_ediv_of_mul_le H.pos
    have := S.expand H
    omega
  omega

/-- a guess that is at most 2^32, with a rest of 2^32 or more -/
theorem Gs.big (H : Dig Y y1 y0 u v) (S : Gs Y y1 u v q rh) (hq : q ≤ 4294967296) (h : 4294967296 ≤ rh) : (u * 4294967296 + v) / Y = q := by
  apply S.done H
  have h0' := H.h0'; have h0 := H.h0; have hv := H.hv
  have := Int.mul_le_mul hq (show y0 ≤ 4294967295 by omega) h0 (by decide)
  omega

theorem Gs.prod (H : Dig Y y1 y0 u v) (S : Gs Y y1 u v q rh) (hq : q < 4294967296) : 0 ≤ q * y0 ∧ q * y0 < 18446744073709551616 := by
  have h0' := H.h0'; have h0 := H.h0
  have := Int.mul_le_mul (show q ≤ 4294967295 by omega) (show y0 ≤ 4294967295 by omega) h0 (by decide)
  exact ⟨Int.mul_nonneg S.hq h0, by omega⟩

/-- what is left behind a digit, computed modulo 2^64 -/
theorem Dig.rest (H : Dig Y y1 y0 u v) : IntKind.u64.wrap (IntKind.u64.wrap (IntKind.u64.wrap (u * 4294967296) + v) - IntKind.u64.wrap ((u * 4294967296 + v) / Y * Y)) = (u * 4294967296 + v) % Y := by
  have e := Int.emod_def (u * 4294967296 + v) Y
  have m0 := Int.emod_nonneg (u * 4294967296 + v) (show Y ≠ 0 by have := H.pos; omega)
  have m1 := Int.emod_lt_of_pos (u * 4294967296 + v) H.pos
  have hl := H.lt
  rw [Int.mul_comm Y] at e
  simp only [IntKind.wrap_u64]
  generalize (u * 4294967296 + v) / Y * Y = Z at *
  omega
end

end Go.Proofs.Ytcdlielgifkemaa.A
