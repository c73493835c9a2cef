/- bits.Div64 returns quotient and remainder where its divisor is greater than the high half; the contract in the form of the printed functions. -/
import Derived.Test.YtcdlielgifkemaaAx1
import Derived.Test.YtcdlielgifkemaaKn
import Derived.Laws.MathBits
namespace Go.Proofs.Ytcdlielgifkemaa.A
open Go.RowKit Go.Proofs.YtcdlielgifkemaaW.PrintWords Go.Proofs.YtcdlielgifkemaaW.PrintLast Go.Proofs.YtcdlielgifkemaaW.PrintMore

section
variable {Y y1 y0 u v : Int}

theorem l0_ok (s w : Int) (H : Dig Y y1 y0 u v) (r : Int × Int) (hk : ∃ k, bits_Div64.j2 k Y s y1 y0 u v w ((u * 4294967296 + v) / Y) = some r) :
    ∀ (d : Nat) (q rh : Int), Gs Y y1 u v q rh → rh < 4294967296 → 4294967296 ≤ rh + d * 2147483648 → ∃ k, bits_Div64.l0 k Y s y1 y0 u v w q rh = some r
  | 0, q, rh, S, h1, h2 => by omega
  | d + 1, q, rh, S, hr, hm => by
    have hr0 := S.hr; have hq0 := S.hq; have hv := H.hv; have hv' := H.hv'; have h1 := H.h1; have h1' := H.h1'
    have w1 : IntKind.u64.wrap (4294967296 * rh) = 4294967296 * rh := u64_id (by omega) (by omega)
    have w2 : IntKind.u64.wrap (4294967296 * rh + v) = 4294967296 * rh + v := u64_id (by omega) (by omega)
    have w3 : IntKind.u64.wrap (rh + y1) = rh + y1 := u64_id (by omega) (by omega)
    have w4 : 1 ≤ q → IntKind.u64.wrap (q - 1) = q - 1 := fun h => u64_id (by omega) (by have := S.hq'; omega)
    have up : (4294967296 ≤ q ∨ 4294967296 * rh + v < q * y0) → ∃ k, bits_Div64.j1 k Y s y1 y0 u v w q rh true = some r := by
      intro ht
      have hD := H.digit
      have ho := S.over H ht
      have Sn := S.next H ht
      by_cases hb : rh + y1 ≥ 4294967296
      · obtain ⟨k, hk⟩ := hk
        have e := Sn.big H (by have := S.hq'; omega) hb
        refine ⟨k + 1, ?_⟩
        simp only [bits_Div64.j1, if_true]
        rw [w3, if_pos hb, w4 (by omega), ← e]; exact hk
      · obtain ⟨k, hk⟩ := l0_ok s w H r hk d (q - 1) (rh + y1) Sn (by omega) (by omega)
        refine ⟨k + 1, ?_⟩
        simp only [bits_Div64.j1, if_true]
        rw [w3, if_neg hb, w4 (by omega)]; exact hk
    by_cases hq : q ≥ 4294967296
    · obtain ⟨k, hk⟩ := up (Or.inl hq)
      refine ⟨k + 1, ?_⟩
      simp only [bits_Div64.l0]
      rw [if_pos hq]; exact hk
    · have hp := S.prod H (by omega)
      have w5 : IntKind.u64.wrap (q * y0) = q * y0 := u64_id hp.1 hp.2
      by_cases ht : q * y0 > 4294967296 * rh + v
      · obtain ⟨k, hk⟩ := up (Or.inr ht)
        refine ⟨k + 1, ?_⟩
        simp only [bits_Div64.l0]
        rw [if_neg hq, w1, w2, w5, decide_eq_true ht]; exact hk
      · obtain ⟨k, hk⟩ := hk
        rw [S.done H (by omega)] at hk
        refine ⟨k + 1 + 1, ?_⟩
        simp only [bits_Div64.l0, bits_Div64.j1]
        rw [if_neg hq, w1, w2, w5, decide_eq_false ht, if_neg (by decide)]; exact hk

theorem l1_ok (s q1 : Int) (H : Dig Y y1 y0 u v) (hs : 0 ≤ s) :
    ∀ (d : Nat) (q rh : Int), Gs Y y1 u v q rh → rh < 4294967296 → 4294967296 ≤ rh + d * 2147483648 →
    ∃ k, bits_Div64.l1 k Y s y1 y0 v q1 rh u q = some (IntKind.u64.wrap (IntKind.u64.wrap (q1 * 4294967296) + (u * 4294967296 + v) / Y), shr .u64 ((u * 4294967296 + v) % Y) s)
  | 0, q, rh, S, h1, h2 => by omega
  | d + 1, q, rh, S, hr, hm => by
    have hr0 := S.hr; have hq0 := S.hq; have hv := H.hv; have hv' := H.hv'; have h1 := H.h1; have h1' := H.h1'
    have w1 : IntKind.u64.wrap (4294967296 * rh) = 4294967296 * rh := u64_id (by omega) (by omega)
    have w2 : IntKind.u64.wrap (4294967296 * rh + v) = 4294967296 * rh + v := u64_id (by omega) (by omega)
    have w3 : IntKind.u64.wrap (rh + y1) = rh + y1 := u64_id (by omega) (by omega)
    have w4 : 1 ≤ q → IntKind.u64.wrap (q - 1) = q - 1 := fun h => u64_id (by omega) (by have := S.hq'; omega)
    have up : (4294967296 ≤ q ∨ 4294967296 * rh + v < q * y0) → ∃ k, bits_Div64.j4 k Y s y1 y0 v q1 rh u q true = some (IntKind.u64.wrap (IntKind.u64.wrap (q1 * 4294967296) + (u * 4294967296 + v) / Y), shr .u64 ((u * 4294967296 + v) % Y) s) := by
      intro ht
      have hD := H.digit
      have ho := S.over H ht
      have Sn := S.next H ht
      by_cases hb : rh + y1 ≥ 4294967296
      · have e := Sn.big H (by have := S.hq'; omega) hb
        refine ⟨1, ?_⟩
        simp only [bits_Div64.j4, if_true]
        rw [w3, if_pos hb, w4 (by omega), if_pos hs, ← e, H.rest]
      · obtain ⟨k, hk⟩ := l1_ok s q1 H hs d (q - 1) (rh + y1) Sn (by omega) (by omega)
        refine ⟨k + 1, ?_⟩
        simp only [bits_Div64.j4, if_true]
        rw [w3, if_neg hb, w4 (by omega)]; exact hk
    by_cases hq : q ≥ 4294967296
    · obtain ⟨k, hk⟩ := up (Or.inl hq)
      refine ⟨k + 1, ?_⟩
      simp only [bits_Div64.l1]
      rw [if_pos hq]; exact hk
    · have hp := S.prod H (by omega)
      have w5 : IntKind.u64.wrap (q * y0) = q * y0 := u64_id hp.1 hp.2
      by_cases ht : q * y0 > 4294967296 * rh + v
      · obtain ⟨k, hk⟩ := up (Or.inr ht)
        refine ⟨k + 1, ?_⟩
        simp only [bits_Div64.l1]
        rw [if_neg hq, w1, w2, w5, decide_eq_true ht]; exact hk
      · have e := S.done H (by omega)
        refine ⟨1 + 1, ?_⟩
        simp only [bits_Div64.l1, bits_Div64.j4]
        rw [if_neg hq, w1, w2, w5, decide_eq_false ht, if_neg (by decide), if_pos hs, ← e, H.rest]

/-- both digits: u, v, w are the three parts of what is divided -/
theorem two_digits (s w : Int) (H : Dig Y y1 y0 u v) (hs : 0 ≤ s) (hw : 0 ≤ w) (hw' : w < 4294967296) :
    ∃ k, bits_Div64.l0 k Y s y1 y0 u v w (u / y1) (u - u / y1 * y1) = some (((u * 4294967296 + v) * 4294967296 + w) / Y, shr .u64 (((u * 4294967296 + v) * 4294967296 + w) % Y) s) := by
  have hp := H.pos; have hl := H.lt; have h1 := H.h1; have h1' := H.h1'
  have hD := H.digit
  have m0 := Int.emod_nonneg (u * 4294967296 + v) (show Y ≠ 0 by omega)
  have m1 := Int.emod_lt_of_pos (u * 4294967296 + v) hp
  have H2 : Dig Y y1 y0 ((u * 4294967296 + v) % Y) w := ⟨H.hY, H.h1, H.h1', H.h0, H.h0', m0, m1, hw, hw'⟩
  have st := H.start
  have st2 := H2.start
  refine l0_ok s w H _ ?_ 2 _ _ st.1 st.2 (by have := st.1.hr; omega)
  obtain ⟨k, hk⟩ := l1_ok s ((u * 4294967296 + v) / Y) H2 hs 2 _ _ st2.1 st2.2 (by have := st2.1.hr; omega)
  refine ⟨k + 1, ?_⟩
  simp only [bits_Div64.j2]
  rw [H.rest]
  rw [if_neg (by omega)]
  have hd2 := H2.digit
  have b1 : Int.tdiv ((u * 4294967296 + v) % Y) y1 = (u * 4294967296 + v) % Y / y1 := Int.tdiv_eq_ediv_of_nonneg m0
  have q0 : 0 ≤ (u * 4294967296 + v) % Y / y1 := Int.ediv_nonneg m0 (by omega)
  have q1 : (u * 4294967296 + v) % Y / y1 ≤ 4294967297 := st2.1.hq'
  have q2 := st2.1.hr
  have q3 := st2.2
  have e1 : IntKind.u64.wrap ((u * 4294967296 + v) % Y / y1) = (u * 4294967296 + v) % Y / y1 := u64_id q0 (by omega)
  have e2 : IntKind.u64.wrap ((u * 4294967296 + v) % Y / y1 * y1) = (u * 4294967296 + v) % Y / y1 * y1 := u64_id (Int.mul_nonneg q0 (by omega)) (by omega)
  have e3 : IntKind.u64.wrap ((u * 4294967296 + v) % Y - (u * 4294967296 + v) % Y / y1 * y1) = (u * 4294967296 + v) % Y - (u * 4294967296 + v) % Y / y1 * y1 := u64_id (by omega) (by omega)
  rw [b1, e1, e2, e3, hk]
  have eN : (u * 4294967296 + v) * 4294967296 + w = ((u * 4294967296 + v) % Y * 4294967296 + w) + Y * ((u * 4294967296 + v) / Y * 4294967296) := by
    have := Int.mul_ediv_add_emod (u * 4294967296 + v) Y
    rw [← Int.mul_assoc]; omega
  have f1 : ((u * 4294967296 + v) * 4294967296 + w) / Y = (u * 4294967296 + v) / Y * 4294967296 + ((u * 4294967296 + v) % Y * 4294967296 + w) / Y := by
    rw [eN, Int.add_mul_ediv_left _ _ (by omega)]; omega
  have f2 : ((u * 4294967296 + v) * 4294967296 + w) % Y = ((u * 4294967296 + v) % Y * 4294967296 + w) % Y := by
    rw [eN, Int.add_mul_emod_self_left]
  rw [f1, f2, u64_id (x := (u * 4294967296 + v) / Y * 4294967296) (by omega) (by omega), u64_id (by omega) (by omega)]
end

theorem bitLen_spec {x : Int} (h0 : 0 < x) (h1 : x < 18446744073709551616) :
    2 ^ (Lib.bitLen x.toNat - 1) ≤ x.toNat ∧ x.toNat < 2 ^ (Lib.bitLen x.toNat) ∧ 1 ≤ Lib.bitLen x.toNat ∧ Lib.bitLen x.toNat ≤ 64 :=
  bl_spec 64 x.toNat (by omega) (by omega)

theorem shl_pow {x : Int} {s : Nat} (h0 : 0 ≤ x) (hs : s ≤ 64) (h : x * 2 ^ s < 18446744073709551616) : shl .u64 x (s : Int) = x * 2 ^ s := by
  unfold shl
  rw [show min (s : Int).toNat IntKind.u64.bits = s by simp [IntKind.bits]; omega]
  exact u64_id (Int.mul_nonneg h0 (Int.le_of_lt (Int.pow_pos (by decide)))) h

theorem div64_ok (hi lo y : Int) (h0 : 0 ≤ hi) (h1 : hi < y) (hy : y < 18446744073709551616) (l0 : 0 ≤ lo) (l1 : lo < 18446744073709551616) :
    ∃ k, bits_Div64.f k hi lo y = some ((hi * 18446744073709551616 + lo) / y, (hi * 18446744073709551616 + lo) % y) := by
  unfold bits_Div64.f
  by_cases hz : hi = 0
  · refine ⟨0, ?_⟩
    subst hz
    have q0 : 0 ≤ lo / y := Int.ediv_nonneg l0 (by omega)
    have q1 : lo / y ≤ lo := Int.ediv_le_self _ l0
    rw [if_neg (by omega), if_neg (by omega), if_pos rfl, Int.tdiv_eq_ediv_of_nonneg l0, Int.tmod_eq_emod_of_nonneg l0, u64_id q0 (by omega)]
    simp
  · obtain ⟨b1, b2, b3, b4⟩ := bitLen_spec (x := y) (by omega) hy
    generalize hL : Lib.bitLen y.toNat = L at b1 b2 b3 b4
    have hf : bits_LeadingZeros64.f y = some (((64 - L : Nat) : Int)) := by

      unfold bits_LeadingZeros64.f bits_Len64.f
      rw [if_pos (by omega), hL]
      simp only [Option.bind_some]
      congr 1
      unfold wrap64
      omega
    rw [hf]
    simp only [Option.bind_some]
    obtain ⟨s, hs⟩ : ∃ s, s = 64 - L := ⟨_, rfl⟩
    rw [← hs]
    have hs63 : s ≤ 63 := by omega
    have p0 : (0 : Int) < 2 ^ s := Int.pow_pos (by decide)
    have p1 : (2 : Int) ^ s * 2 ^ (64 - s) = 18446744073709551616 := by
      rw [← Int.pow_add, show s + (64 - s) = 64 by omega]; decide
    have y1 : y * 2 ^ s < 18446744073709551616 := by
      have e : L = 64 - s := by omega
      have : y < 2 ^ (64 - s) := by
        have h2 : ((y.toNat : Nat) : Int) < ((2 ^ L : Nat) : Int) := by exact_mod_cast b2
        rw [Int.toNat_of_nonneg (by omega)] at h2
        rw [← e]; simpa using h2
      have := Int.mul_lt_mul_of_pos_right this p0
      rw [Int.mul_comm (2 ^ (64 - s)), p1] at this
      exact this
    have y2 : 9223372036854775808 ≤ y * 2 ^ s := by
      have e : L - 1 = 63 - s := by omega
      have : (2 : Int) ^ (63 - s) ≤ y := by
        have h2 : ((2 ^ (L - 1) : Nat) : Int) ≤ ((y.toNat : Nat) : Int) := by exact_mod_cast b1
        rw [Int.toNat_of_nonneg (by omega)] at h2
        rw [← e]; simpa using h2
      have := Int.mul_le_mul_of_nonneg_right this (Int.le_of_lt p0)
      rw [← Int.pow_add, show 63 - s + s = 63 by omega] at this
      exact this
    have hh : hi * 2 ^ s < 18446744073709551616 := by
      have := Int.mul_lt_mul_of_pos_right h1 p0
      omega
    have u1 : IntKind.u64.wrap ((s : Int)) = (s : Int) := u64_id (by omega) (by omega)
    have u2 : IntKind.u64.wrap (64 - (s : Int)) = ((64 - s : Nat) : Int) := by rw [u64_id (by omega) (by omega)]; omega
    have hp2 : (0 : Int) < 2 ^ (64 - s) := Int.pow_pos (by decide)
    have sh1 : shl .u64 y (s : Int) = y * 2 ^ s := shl_pow (by omega) (by omega) y1
    have sh2 : shl .u64 hi (s : Int) = hi * 2 ^ s := shl_pow h0 (by omega) hh
    have sh3 : shr .u64 lo ((64 - s : Nat) : Int) = lo / 2 ^ (64 - s) := by
      unfold shr
      rw [show min ((64 - s : Nat) : Int).toNat IntKind.u64.bits = 64 - s by simp [IntKind.bits]]
    have sh4 : shl .u64 lo (s : Int) = lo * 2 ^ s % 18446744073709551616 := by
      unfold shl
      rw [show min (s : Int).toNat IntKind.u64.bits = s by simp [IntKind.bits]; omega, IntKind.wrap_u64]
    have lo1 : lo / 2 ^ (64 - s) < 2 ^ s := Int.ediv_lt_of_lt_mul hp2 (by rw [p1]; exact l1)
    have lo0 : 0 ≤ lo / 2 ^ (64 - s) := Int.ediv_nonneg l0 (by omega)
    have or1 : Go.bits .or .u64 (hi * 2 ^ s) (lo / 2 ^ (64 - s)) = hi * 2 ^ s + lo / 2 ^ (64 - s) := by
      have p64 : (2 : Int) ^ 64 = 18446744073709551616 := by decide
      refine bits_join .u64 64 (by decide) (fun n a b => u64_id a (by rw [p64] at b; exact b)) s _ _ (Int.mul_nonneg h0 (by omega)) (Int.mul_emod_left _ _) (by rw [p64]; exact hh) lo0 lo1 ?_
      rw [p64]
      have : (2 : Int) ^ s ≤ 2 ^ 63 := by exact_mod_cast Nat.pow_le_pow_right (show 0 < 2 by decide) hs63
      have : (2 : Int) ^ 63 = 9223372036854775808 := by decide
      omega
    have eS : lo * 2 ^ s = lo / 2 ^ (64 - s) * 18446744073709551616 + lo * 2 ^ s % 18446744073709551616 := by
      have a1 : lo * 2 ^ s / 18446744073709551616 = lo / 2 ^ (64 - s) := by
        rw [← p1, Int.mul_comm ((2 : Int) ^ s), Int.mul_ediv_mul_of_pos_left _ _ p0]
      have := Int.mul_ediv_add_emod (lo * 2 ^ s) 18446744073709551616
      omega
    have m0 := Int.emod_nonneg (lo * 2 ^ s) (show (18446744073709551616 : Int) ≠ 0 by decide)
    have m1 := Int.emod_lt_of_pos (lo * 2 ^ s) (show (0 : Int) < 18446744073709551616 by decide)
    have g1 : ¬ y = 0 := by omega
    have g2 : ¬ y ≤ hi := by omega
    have g3 : 0 ≤ (s : Int) := by omega
    have g4 : 0 ≤ ((64 - s : Nat) : Int) := by omega
    simp only [u1, u2, if_neg g1, if_neg g2, if_neg hz, if_pos g3, if_pos g4, sh1, sh2, sh3, sh4, or1]
    clear g1 g2 g3 g4
    have hu : hi * 2 ^ s + lo / 2 ^ (64 - s) < y * 2 ^ s := by
      have := Int.mul_le_mul_of_nonneg_right (show hi + 1 ≤ y by omega) (Int.le_of_lt p0)
      rw [Int.add_mul] at this
      omega
    have hu0 : 0 ≤ hi * 2 ^ s := Int.mul_nonneg h0 (by omega)
    have eN : ((hi * 2 ^ s + lo / 2 ^ (64 - s)) * 4294967296 + lo * 2 ^ s % 18446744073709551616 / 4294967296) * 4294967296 + lo * 2 ^ s % 18446744073709551616 % 4294967296 = (hi * 18446744073709551616 + lo) * 2 ^ s := by
      rw [Int.add_mul (hi * 18446744073709551616), show hi * 18446744073709551616 * 2 ^ s = hi * 2 ^ s * 18446744073709551616 by rw [Int.mul_assoc, Int.mul_comm 18446744073709551616, ← Int.mul_assoc]]
      omega
    generalize hU : hi * 2 ^ s + lo / 2 ^ (64 - s) = U at *
    generalize hW : lo * 2 ^ s % 18446744073709551616 = W at *
    generalize hY : y * 2 ^ s = Y at *
    rw [and_low32 Y (by omega) y1, and_low32 W m0 m1]
    have H : Dig Y (Y / 4294967296) (Y % 4294967296) U (W / 4294967296) := ⟨by omega, by omega, by omega, by omega, by omega, by omega, by omega, by omega, by omega⟩
    have st := H.start
    have t1 : Int.tdiv U (Y / 4294967296) = U / (Y / 4294967296) := Int.tdiv_eq_ediv_of_nonneg (by omega)
    have q0 := st.1.hq; have q1 := st.1.hq'; have q2 := st.1.hr; have q3 := st.2
    have w1 : IntKind.u64.wrap (U / (Y / 4294967296)) = U / (Y / 4294967296) := u64_id q0 (by omega)
    have w2 : IntKind.u64.wrap (U / (Y / 4294967296) * (Y / 4294967296)) = U / (Y / 4294967296) * (Y / 4294967296) := u64_id (Int.mul_nonneg q0 (by omega)) (by omega)
    have w3 : IntKind.u64.wrap (U - U / (Y / 4294967296) * (Y / 4294967296)) = U - U / (Y / 4294967296) * (Y / 4294967296) := u64_id (by omega) (by omega)
    obtain ⟨k, hk⟩ := two_digits (s : Int) (W % 4294967296) H (by omega) (by omega) (by omega)
    refine ⟨k, ?_⟩
    rw [if_neg (by omega), t1, w1, w2, w3, hk, eN, ← hY, Int.mul_ediv_mul_of_pos_left _ _ p0, Int.mul_comm _ ((2 : Int) ^ s), Int.mul_comm y, Int.mul_emod_mul_of_pos _ _ p0]
    unfold shr
    rw [show min ((s : Nat) : Int).toNat IntKind.u64.bits = s by simp [IntKind.bits]; omega, Int.mul_ediv_cancel_left _ (by omega)]

theorem mul64_ok (a b : Int) (a0 : 0 ≤ a) (a1 : a < 18446744073709551616) (b0 : 0 ≤ b) (b1 : b < 18446744073709551616) :
    bits_Mul64.f a b = some (a * b / 18446744073709551616, a * b % 18446744073709551616) := by
  unfold bits_Mul64.f
  rw [and_low32 a a0 a1, and_low32 b b0 b1]
  rw [and_low32 _ (by rw [IntKind.wrap_u64]; omega) (by rw [IntKind.wrap_u64]; omega)]
  simp only [IntKind.wrap_u64]
  rw [mul64_arith a b a0 a1 b0 b1]

end Go.Proofs.Ytcdlielgifkemaa.A
namespace Go.Proofs.Ytcdlielgifkemaa.S
open Go.RowKit Go.Proofs.YtcdlielgifkemaaW.PrintWords Go.Proofs.YtcdlielgifkemaaW.PrintLast Go.Proofs.YtcdlielgifkemaaW.PrintMore
/-- bits.Mul64, as the printed functions above it use it -/
def bits_Mul64.f (a0 a1 : Int) : Option (Int × Int) :=
  if 0 ≤ a0 ∧ a0 < 18446744073709551616 ∧ 0 ≤ a1 ∧ a1 < 18446744073709551616 then some (a0 * a1 / 18446744073709551616, a0 * a1 % 18446744073709551616) else none
theorem bits_Mul64.calls (a0 a1 r1 r2 : Int) (w : World) (h : bits_Mul64.f a0 a1 = some (r1, r2)) :
    Calls Try.prog 46 #[.int .u64 a0, .int .u64 a1] w fun e w' => e = .returned (.tuple #[.int .u64 r1, .int .u64 r2]) ∧ Drawn0 w w' := by
  unfold bits_Mul64.f at h
  split at h
  · rename_i hc
    exact A.bits_Mul64.calls a0 a1 r1 r2 w ((A.mul64_ok a0 a1 hc.1 hc.2.1 hc.2.2.1 hc.2.2.2).trans h)
  · cases h
/-- bits.Div64, as the printed functions above it use it -/
def bits_Div64.f (a0 a1 a2 : Int) : Option (Int × Int) :=
  if 0 ≤ a0 ∧ a0 < a2 ∧ a2 < 18446744073709551616 ∧ 0 ≤ a1 ∧ a1 < 18446744073709551616 then some ((a0 * 18446744073709551616 + a1) / a2, (a0 * 18446744073709551616 + a1) % a2) else none
theorem bits_Div64.calls (a0 a1 a2 r1 r2 : Int) (w : World) (h : bits_Div64.f a0 a1 a2 = some (r1, r2)) :
    Calls Try.prog 47 #[.int .u64 a0, .int .u64 a1, .int .u64 a2] w fun e w' => e = .returned (.tuple #[.int .u64 r1, .int .u64 r2]) ∧ Drawn0 w w' := by
  unfold bits_Div64.f at h
  split at h
  · rename_i hc
    obtain ⟨k, hk⟩ := A.div64_ok a0 a1 a2 hc.1 hc.2.1 hc.2.2.1 hc.2.2.2.1 hc.2.2.2.2
    exact A.bits_Div64.calls k a0 a1 a2 r1 r2 w (hk.trans h)
  · cases h
end Go.Proofs.Ytcdlielgifkemaa.S
