/- exact.Scale and the reference's Scale are the quotient and the remainder of a 128-bit product; Add and Sub stop at the ends of int. -/
import Derived.Test.YtcdlielgifkemaaBx
import Derived.Test.YtcdlielgifkemaaWf
namespace Go.Proofs.Ytcdlielgifkemaa.S
/-- a fraction of a volume -/
def scl (a n d : Int) : Int × Int × Bool :=
  if 0 ≤ a ∧ a ≤ 1125899906842624 ∧ 0 ≤ n ∧ n ≤ 1125899906842624 ∧ 1 ≤ d ∧ d ≤ 1125899906842624 ∧ a * n / d ≤ 1125899906842624 then (a * n / d, a * n % d, true) else (0, 0, false)
/-- a number, limited to int -/
def sat (x : Int) : Int := if x > 9223372036854775807 then 9223372036854775807 else if x < -9223372036854775808 then -9223372036854775808 else x
/-- an int -/
def I64 (x : Int) : Prop := -9223372036854775808 ≤ x ∧ x ≤ 9223372036854775807
instance (x : Int) : Decidable (I64 x) := inferInstanceAs (Decidable (_ ∧ _))
end Go.Proofs.Ytcdlielgifkemaa.S
namespace Go.Proofs.Ytcdlielgifkemaa.B
open Go.Proofs.Ytcdlielgifkemaa.S
open Go.RowKit Go.Proofs.YtcdlielgifkemaaW.PrintWords Go.Proofs.YtcdlielgifkemaaW.PrintLast Go.Proofs.YtcdlielgifkemaaW.PrintMore

theorem wrap_id {x : Int} (h0 : -9223372036854775808 ≤ x) (h1 : x < 9223372036854775808) : wrap64 x = x := by unfold wrap64; omega

theorem prod_le {a n : Int} (a0 : 0 ≤ a) (a1 : a ≤ 1125899906842624) (n0 : 0 ≤ n) (n1 : n ≤ 1125899906842624) : 0 ≤ a * n ∧ a * n ≤ 1267650600228229401496703205376 := by
  refine ⟨Int.mul_nonneg a0 n0, ?_⟩
  have := Int.mul_le_mul a1 n1 n0 (by decide)
  omega

theorem exact_Scale_ok (a n d : Int) : ∃ k, exact_Scale.f k a n d = some (scl a n d) := by
  refine ⟨1, ?_⟩
  unfold exact_Scale.f exact_in.f scl
  by_cases a0 : 0 ≤ a
  · by_cases a1 : a ≤ 1125899906842624
    · by_cases n0 : 0 ≤ n
      · by_cases n1 : n ≤ 1125899906842624
        · by_cases d0 : 1 ≤ d
          · by_cases d1 : d ≤ 1125899906842624
            · simp only [a0, a1, n0, n1, d0, d1, if_true, decide_true, Option.bind_some, exact_Scale.j0, Bool.not_true, Bool.false_eq_true, if_false, true_and]
              obtain ⟨p0, p1⟩ := prod_le a0 a1 n0 n1
              rw [A.u64_id a0 (by omega), A.u64_id n0 (by omega), A.u64_id (x := d) (by omega) (by omega)]
              unfold bits_Mul64.f bits_Div64.f
              rw [if_pos ⟨a0, by omega, n0, by omega⟩]
              simp only [Option.bind_some]
              have hd := Int.mul_ediv_add_emod (a * n) 18446744073709551616
              have l0 := Int.emod_nonneg (a * n) (show (18446744073709551616 : Int) ≠ 0 by decide)
              have l1 := Int.emod_lt_of_pos (a * n) (show (0 : Int) < 18446744073709551616 by decide)
              have h0 : 0 ≤ a * n / 18446744073709551616 := Int.ediv_nonneg p0 (by decide)
              by_cases hb : a * n / 18446744073709551616 ≥ d
              · rw [if_pos hb, if_neg]
                intro hq
                have hm := Int.mul_ediv_add_emod (a * n) d
                have r1 := Int.emod_lt_of_pos (a * n) (show 0 < d by omega)
                have := Int.mul_le_mul_of_nonneg_left hq (show 0 ≤ d by omega)
                omega
              · rw [if_neg hb, if_pos ⟨h0, by omega, by omega, l0, l1⟩]
                simp only [Option.bind_some]
                have e : a * n / 18446744073709551616 * 18446744073709551616 + a * n % 18446744073709551616 = a * n := by omega
                rw [e]
                have q0 : 0 ≤ a * n / d := Int.ediv_nonneg p0 (by omega)
                have r0 := Int.emod_nonneg (a * n) (show d ≠ 0 by omega)
                have r1 := Int.emod_lt_of_pos (a * n) (show 0 < d by omega)
                by_cases hq : a * n / d > 1125899906842624
                · rw [if_pos hq, if_neg (by omega)]
                · rw [if_neg hq, if_pos (by omega), wrap_id (by omega) (by omega), wrap_id (by omega) (by omega)]
            · simp [a0, a1, n0, n1, d0, d1, exact_Scale.j0]
          · simp [a0, a1, n0, n1, d0, exact_Scale.j0]
        · simp [a0, a1, n0, n1, exact_Scale.j0]
      · simp [a0, a1, n0, exact_Scale.j0]
    · simp [a0, a1, exact_Scale.j0]
  · simp [a0, exact_Scale.j0]

theorem nat_and_pow (m j : Nat) : m &&& 2 ^ j = if m / 2 ^ j % 2 = 1 then 2 ^ j else 0 := by
  apply Nat.eq_of_testBit_eq
  intro i
  rw [Nat.testBit_and, Nat.testBit_two_pow]
  by_cases hi : j = i
  · subst hi
    rw [Nat.testBit_eq_decide_div_mod_eq]
    by_cases h : m / 2 ^ j % 2 = 1
    · rw [if_pos h, decide_eq_true h, Nat.testBit_two_pow]; rfl
    · rw [if_neg h, decide_eq_false h]; simp
  · rw [decide_eq_false hi, Bool.and_false]
    split
    · rw [Nat.testBit_two_pow, decide_eq_false hi]
    · simp

theorem and_pow {n : Int} (n0 : 0 ≤ n) (n1 : n < 9223372036854775808) (j : Nat) (hj : j < 63) : Go.bits .and .i64 n ((2 : Int) ^ j) = 0 ↔ n / 2 ^ j % 2 = 0 := by
  obtain ⟨m, rfl⟩ := Int.eq_ofNat_of_zero_le n0
  have p63 : (2 : Int) ^ 63 = 9223372036854775808 := by decide
  have hm : m < 2 ^ 63 := by omega
  have hp : (2 : Nat) ^ j < 2 ^ 63 := Nat.pow_lt_pow_right (by decide) hj
  have h := (bits_nat .i64 63 (by decide) (fun n a b => by rw [IntKind.wrap_i64]; rw [p63] at b; omega) m (2 ^ j) hm hp).1
  have e : ((2 ^ j : Nat) : Int) = (2 : Int) ^ j := by simp
  rw [← e, h, nat_and_pow]
  have h2 : ((m : Nat) : Int) / ((2 ^ j : Nat) : Int) = ((m / 2 ^ j : Nat) : Int) := by simp
  rw [h2]
  have hpos : 0 < 2 ^ j := Nat.two_pow_pos j
  generalize m / 2 ^ j = z
  rcases Nat.mod_two_eq_zero_or_one z with h3 | h3
  · simp [h3]; omega
  · simp [h3]; omega

theorem rscale_loop (a n d : Int) (a0 : 0 ≤ a) (a1 : a ≤ 1125899906842624) (n0 : 0 ≤ n) (n1 : n ≤ 1125899906842624) (d0 : 1 ≤ d) (d1 : d ≤ 1125899906842624) :
    ∀ (j : Nat) (q r b m : Int), j ≤ 51 → m = n / 2 ^ j → q = a * m / d → r = a * m % d → q ≤ 1125899906842624 → (j = 0 ∧ b = 0 ∨ ∃ i, j = i + 1 ∧ b = 2 ^ i) →
    ∃ k, bourneref01_Scale.l0 k a n d q r b = some (scl a n d)
  | 0, q, r, b, m, hj, hm, hq, hr, hle, hb => by
    refine ⟨1, ?_⟩
    have hb0 : b = 0 := by rcases hb with ⟨_, h⟩ | ⟨i, h, _⟩ <;> omega
    have hmn : m = n := by rw [hm]; simp
    subst hmn
    simp only [bourneref01_Scale.l0]
    unfold scl
    rw [if_neg (by omega), if_pos ⟨a0, a1, n0, n1, d0, d1, by omega⟩, hq, hr]
  | j + 1, q, r, b, m, hj, hm, hq, hr, hle, hb => by
    have hb1 : b = 2 ^ j := by
      rcases hb with ⟨h, _⟩ | ⟨i, h, hi⟩
      · omega
      · rw [hi, show i = j by omega]
    have hp : (0 : Int) < 2 ^ j := Int.pow_pos (by decide)
    have hp50 : (2 : Int) ^ j ≤ 1125899906842624 := by
      have h50 : (2 : Int) ^ 50 = 1125899906842624 := by decide
      rw [← h50]
      exact_mod_cast Nat.pow_le_pow_right (show 0 < 2 by decide) (show j ≤ 50 by omega)
    have hm0 : 0 ≤ m := by rw [hm]; exact Int.ediv_nonneg n0 (Int.le_of_lt (Int.pow_pos (by decide)))
    have hmd : m = n / 2 ^ j / 2 := by rw [hm, Int.pow_succ, Int.ediv_ediv_of_nonneg (Int.le_of_lt hp)]
    have hM : n / 2 ^ j = 2 * m + n / 2 ^ j % 2 := by omega
    have hMn : n / 2 ^ j ≤ n := Int.ediv_le_self _ n0
    have am0 : 0 ≤ a * m := Int.mul_nonneg a0 hm0
    have q0 : 0 ≤ q := by rw [hq]; exact Int.ediv_nonneg am0 (by omega)
    have r0 : 0 ≤ r := by rw [hr]; exact Int.emod_nonneg _ (by omega)
    have r1 : r < d := by rw [hr]; exact Int.emod_lt_of_pos _ (by omega)
    have hqr : a * m = d * q + r := by rw [hq, hr]; exact (Int.mul_ediv_add_emod (a * m) d).symm
    have hwt : wrap64 (Int.tdiv b 2) = b / 2 := by
      rw [Int.tdiv_eq_ediv_of_nonneg (by omega), wrap_id (by omega) (by omega)]
    have hbn : (j = 0 ∧ b / 2 = 0 ∨ ∃ i, j = i + 1 ∧ b / 2 = 2 ^ i) := by
      cases j with
      | zero => left; rw [hb1]; exact ⟨rfl, by decide⟩
      | succ i => right; refine ⟨i, rfl, ?_⟩; rw [hb1, Int.pow_succ]; omega
    have key : ∀ (t : Int), t = 2 * r + a * (n / 2 ^ j % 2) → 0 ≤ t → t ≤ 3377699720527872 → 2 * q + t / d = a * (n / 2 ^ j) / d ∧ t % d = a * (n / 2 ^ j) % d := by
      intro t ht t0 t1
      have e : a * (n / 2 ^ j) = t + d * (2 * q) := by
        rw [hM, Int.mul_add, ht, Int.mul_left_comm d 2 q, Int.mul_left_comm a 2 m, hqr]; omega
      rw [e, Int.add_mul_ediv_left _ _ (by omega), Int.add_mul_emod_self_left]
      exact ⟨by omega, rfl⟩
    have over : a * (n / 2 ^ j) / d > 1125899906842624 → scl a n d = (0, 0, false) := by
      intro h
      unfold scl
      rw [if_neg]
      intro hc
      have h2 : a * (n / 2 ^ j) ≤ a * n := Int.mul_le_mul_of_nonneg_left hMn a0
      have := Int.ediv_le_ediv (show 0 < d by omega) h2
      omega
    have hand' := and_pow n0 (by omega) j (by omega)
    have fin : ∀ (t : Int), t = 2 * r + a * (n / 2 ^ j % 2) → 0 ≤ t → t ≤ 3377699720527872 → ∃ k, (if (2 * q + t / d) > 1125899906842624 then some ((0 : Int), (0 : Int), false) else bourneref01_Scale.l0 k a n d (2 * q + t / d) (t % d) (b / 2)) = some (scl a n d) := by
      intro t ht t0 t1
      obtain ⟨k1, k2⟩ := key t ht t0 t1
      by_cases ho : 2 * q + t / d > 1125899906842624
      · refine ⟨0, ?_⟩
        rw [if_pos ho, over (by omega)]
      · obtain ⟨k, hk⟩ := rscale_loop a n d a0 a1 n0 n1 d0 d1 j (2 * q + t / d) (t % d) (b / 2) (n / 2 ^ j) (by omega) rfl k1 k2 (by omega) hbn
        refine ⟨k, ?_⟩
        rw [if_neg ho, hk]
    have wr : wrap64 (2 * r) = 2 * r := wrap_id (by omega) (by omega)
    have wq : wrap64 (2 * q) = 2 * q := wrap_id (by omega) (by omega)
    have wra : wrap64 (2 * r + a) = 2 * r + a := wrap_id (by omega) (by omega)
    by_cases hbit : n / 2 ^ j % 2 = 0
    · obtain ⟨k, hk⟩ := fin (2 * r) (by rw [hbit]; omega) (by omega) (by omega)
      refine ⟨k + 1, ?_⟩
      have t0 : 0 ≤ 2 * r / d := Int.ediv_nonneg (by omega) (by omega)
      have t1 : 2 * r / d ≤ 2 * r := Int.ediv_le_self _ (by omega)
      simp only [bourneref01_Scale.l0]
      rw [if_pos (by omega), if_pos (by rw [hb1]; exact hand'.2 hbit), if_neg (by omega), wr, wq, Int.tdiv_eq_ediv_of_nonneg (by omega), Int.tmod_eq_emod_of_nonneg (by omega), wrap_id (x := 2 * r / d) (by omega) (by omega), wrap_id (x := 2 * q + 2 * r / d) (by omega) (by omega), hwt]
      exact hk
    · have h1 : n / 2 ^ j % 2 = 1 := by omega
      obtain ⟨k, hk⟩ := fin (2 * r + a) (by rw [h1]; omega) (by omega) (by omega)
      refine ⟨k + 1, ?_⟩
      have t0 : 0 ≤ (2 * r + a) / d := Int.ediv_nonneg (by omega) (by omega)
      have t1 : (2 * r + a) / d ≤ 2 * r + a := Int.ediv_le_self _ (by omega)
      simp only [bourneref01_Scale.l0]
      rw [if_pos (by omega), if_neg (by rw [hb1]; exact fun h => hbit (hand'.1 h)), if_neg (by omega), wr, wq, wra, Int.tdiv_eq_ediv_of_nonneg (by omega), Int.tmod_eq_emod_of_nonneg (by omega), wrap_id (x := (2 * r + a) / d) (by omega) (by omega), wrap_id (x := 2 * q + (2 * r + a) / d) (by omega) (by omega), hwt]
      exact hk

theorem bourneref01_Scale_ok (a n d : Int) : ∃ k, bourneref01_Scale.f k a n d = some (scl a n d) := by
  have bad : ¬ (0 ≤ a ∧ a ≤ 1125899906842624 ∧ 0 ≤ n ∧ n ≤ 1125899906842624 ∧ 1 ≤ d ∧ d ≤ 1125899906842624) → scl a n d = (0, 0, false) := by
    intro h
    unfold scl
    rw [if_neg]
    rintro ⟨h1, h2, h3, h4, h5, h6, _⟩
    exact h ⟨h1, h2, h3, h4, h5, h6⟩
  unfold bourneref01_Scale.f
  by_cases a0 : a < 0
  · refine ⟨1, ?_⟩; rw [if_pos a0, bad (by omega)]; rfl
  by_cases a1 : a > 1125899906842624
  · refine ⟨1, ?_⟩; rw [if_neg a0, if_pos a1, bad (by omega)]; rfl
  by_cases n0 : n < 0
  · refine ⟨1, ?_⟩; rw [if_neg a0, if_neg a1, if_pos n0, bad (by omega)]; rfl
  by_cases n1 : n > 1125899906842624
  · refine ⟨1, ?_⟩; rw [if_neg a0, if_neg a1, if_neg n0, if_pos n1, bad (by omega)]; rfl
  by_cases d0 : d < 1
  · refine ⟨1, ?_⟩; rw [if_neg a0, if_neg a1, if_neg n0, if_neg n1, if_pos d0, bad (by omega)]; rfl
  by_cases d1 : d > 1125899906842624
  · refine ⟨1, ?_⟩; rw [if_neg a0, if_neg a1, if_neg n0, if_neg n1, if_neg d0, decide_eq_true d1, bad (by omega)]; rfl
  have z : n / 2 ^ 51 = 0 := Int.ediv_eq_zero_of_lt (by omega) (by omega)
  obtain ⟨k, hk⟩ := rscale_loop a n d (by omega) (by omega) (by omega) (by omega) (by omega) (by omega) 51 0 0 1125899906842624 0 (by decide) z.symm (by simp) (by simp) (by decide) (Or.inr ⟨50, rfl, by decide⟩)
  refine ⟨k + 1, ?_⟩
  rw [if_neg a0, if_neg a1, if_neg n0, if_neg n1, if_neg d0, decide_eq_false d1]
  simp only [bourneref01_Scale.j0]
  rw [if_neg (by decide)]
  exact hk

theorem exact_Add_ok (a b : Int) (h : I64 a ∧ I64 b) : exact_Add.f a b = some (sat (a + b)) := by
  obtain ⟨⟨a0, a1⟩, b0, b1⟩ := h
  unfold exact_Add.f exact_end.f sat wrap64
  by_cases h1 : a < 0 <;> by_cases h2 : b < 0 <;> simp [h1, h2] <;> (repeat' split) <;> (first | rfl | omega | (congr 1 <;> omega) | (simp at * <;> omega))

theorem exact_Sub_ok (a b : Int) (h : I64 a ∧ I64 b) : exact_Sub.f a b = some (sat (a - b)) := by
  obtain ⟨⟨a0, a1⟩, b0, b1⟩ := h
  unfold exact_Sub.f exact_end.f sat wrap64
  by_cases h1 : a < 0 <;> by_cases h2 : b < 0 <;> simp [h1, h2] <;> (repeat' split) <;> (first | rfl | omega | (congr 1 <;> omega) | (simp at * <;> omega))

theorem bourneref01_Add_ok (a b : Int) (h : I64 a ∧ I64 b) : ∃ k, bourneref01_Add.f k a b = some (sat (a + b)) := by
  obtain ⟨⟨a0, a1⟩, b0, b1⟩ := h
  refine ⟨1, ?_⟩
  unfold bourneref01_Add.f sat
  simp only [bourneref01_Add.j0, decide_eq_true_eq]
  unfold wrap64
  (repeat' split) <;> (first | rfl | omega | (congr 1 <;> omega) | (simp at * <;> omega))


end Go.Proofs.Ytcdlielgifkemaa.B
namespace Go.Proofs.Ytcdlielgifkemaa.S
open Go.RowKit Go.Proofs.YtcdlielgifkemaaW.PrintWords Go.Proofs.YtcdlielgifkemaaW.PrintLast Go.Proofs.YtcdlielgifkemaaW.PrintMore
def exact_Scale.f (a0 : Int) (a1 : Int) (a2 : Int) : Option (Int × Int × Bool) := some (scl a0 a1 a2)
theorem exact_Scale.calls (a0 : Int) (a1 : Int) (a2 : Int) (r1 : Int) (r2 : Int) (r3 : Bool) (w : World) (h : exact_Scale.f a0 a1 a2 = some (r1, r2, r3)) :
    Calls Try.prog 40 #[.int .i64 a0, .int .i64 a1, .int .i64 a2] w fun e w' => e = .returned (.tuple #[.int .i64 r1, .int .i64 r2, .bool r3]) ∧ Drawn0 w w' := by
  obtain ⟨k, hk⟩ := B.exact_Scale_ok a0 a1 a2
  exact B.exact_Scale.calls k a0 a1 a2 r1 r2 r3 w (hk.trans h)

def bourneref01_Scale.f (a0 : Int) (a1 : Int) (a2 : Int) : Option (Int × Int × Bool) := some (scl a0 a1 a2)
theorem bourneref01_Scale.calls (a0 : Int) (a1 : Int) (a2 : Int) (r1 : Int) (r2 : Int) (r3 : Bool) (w : World) (h : bourneref01_Scale.f a0 a1 a2 = some (r1, r2, r3)) :
    Calls Try.prog 44 #[.int .i64 a0, .int .i64 a1, .int .i64 a2] w fun e w' => e = .returned (.tuple #[.int .i64 r1, .int .i64 r2, .bool r3]) ∧ Drawn0 w w' := by
  obtain ⟨k, hk⟩ := B.bourneref01_Scale_ok a0 a1 a2
  exact B.bourneref01_Scale.calls k a0 a1 a2 r1 r2 r3 w (hk.trans h)

def exact_Add.f (a0 : Int) (a1 : Int) : Option (Int) := if I64 a0 ∧ I64 a1 then some (sat (a0 + a1)) else none
theorem exact_Add.calls (a0 : Int) (a1 : Int) (r : Int) (w : World) (h : exact_Add.f a0 a1 = some r) :
    Calls Try.prog 24 #[.int .i64 a0, .int .i64 a1] w fun e w' => e = .returned (.int .i64 r) ∧ Drawn0 w w' := by
  unfold exact_Add.f at h
  split at h
  · rename_i hc
    have hk := B.exact_Add_ok a0 a1 hc
    exact B.exact_Add.calls a0 a1 r w (hk.trans h)
  · cases h

def exact_Sub.f (a0 : Int) (a1 : Int) : Option (Int) := if I64 a0 ∧ I64 a1 then some (sat (a0 - a1)) else none
theorem exact_Sub.calls (a0 : Int) (a1 : Int) (r : Int) (w : World) (h : exact_Sub.f a0 a1 = some r) :
    Calls Try.prog 31 #[.int .i64 a0, .int .i64 a1] w fun e w' => e = .returned (.int .i64 r) ∧ Drawn0 w w' := by
  unfold exact_Sub.f at h
  split at h
  · rename_i hc
    have hk := B.exact_Sub_ok a0 a1 hc
    exact B.exact_Sub.calls a0 a1 r w (hk.trans h)
  · cases h

def bourneref01_Add.f (a0 : Int) (a1 : Int) : Option (Int) := if I64 a0 ∧ I64 a1 then some (sat (a0 + a1)) else none
theorem bourneref01_Add.calls (a0 : Int) (a1 : Int) (r : Int) (w : World) (h : bourneref01_Add.f a0 a1 = some r) :
    Calls Try.prog 35 #[.int .i64 a0, .int .i64 a1] w fun e w' => e = .returned (.int .i64 r) ∧ Drawn0 w w' := by
  unfold bourneref01_Add.f at h
  split at h
  · rename_i hc
    obtain ⟨k, hk⟩ := B.bourneref01_Add_ok a0 a1 hc
    exact B.bourneref01_Add.calls k a0 a1 r w (hk.trans h)
  · cases h

end Go.Proofs.Ytcdlielgifkemaa.S
