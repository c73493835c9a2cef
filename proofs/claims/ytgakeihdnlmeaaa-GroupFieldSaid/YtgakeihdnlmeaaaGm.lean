/- What the group's functions and the reference's compute: residues of sums, products and powers; Euclid's inverse is Fermat's. -/
import Derived.Test.YtgakeihdnlmeaaaBx2
import Derived.Test.YtgakeihdnlmeaaaNt
namespace Go.Proofs.Ytgakeihdnlmeaaa.B
open Go.Proofs.Ytgakeihdnlmeaaa.S
open Go.RowKit Go.Proofs.YtgakeihdnlmeaaaW.PrintWords Go.Proofs.YtgakeihdnlmeaaaW.PrintLast Go.Proofs.YtgakeihdnlmeaaaW.PrintMore

theorem wrap_id {x : Int} (h0 : -9223372036854775808 ≤ x) (h1 : x < 9223372036854775808) : wrap64 x = x := by unfold wrap64; omega

theorem tm (a : Int) {m : Int} (hm : 0 < m) (hm' : m < 9223372036854775808) : (if Int.tmod a m < 0 then some (wrap64 (Int.tmod a m + m)) else some (Int.tmod a m)) = some (a % m) := by
  have e := @Int.tmod_eq_emod a m
  have m0 := Int.emod_nonneg a (show m ≠ 0 by omega)
  have m1 := Int.emod_lt_of_pos a hm
  split at e
  · rename_i h
    rw [if_neg (by omega), e]; simp
  · rename_i h
    have hz : a % m ≠ 0 := fun h0 => h (Or.inr (Int.dvd_of_emod_eq_zero h0))
    have hn : ((m.natAbs : Nat) : Int) = m := by omega
    rw [if_pos (by omega), wrap_id (by omega) (by omega)]
    congr 1; omega

theorem res_ok (a : Int) {m : Int} (hm : 0 < m) (hm' : m < 9223372036854775808) : group_residue.f a m = some (a % m) := by
  unfold group_residue.f
  rw [if_neg (by omega)]
  exact tm a hm hm'

theorem mod_ok (a : Int) {m : Int} (hm : 0 < m) (hm' : m < 9223372036854775808) : bourneref04_Mod.f a m = some (a % m) := by
  unfold bourneref04_Mod.f
  rw [if_neg (by omega)]
  exact tm a hm hm'

theorem prod_ok {a b m : Int} (a0 : 0 ≤ a) (a1 : a < 9223372036854775808) (b0 : 0 ≤ b) (b1 : b < 9223372036854775808) (hm : 0 < m) (hm' : m < 9223372036854775808) :
    group_product.f a b m = some (a * b % m) := by
  unfold group_product.f bits_Mul64.f
  rw [A.u64_id a0 (by omega), A.u64_id b0 (by omega), if_pos ⟨a0, by omega, b0, by omega⟩]
  simp only [Option.bind_some]
  have hp := Int.mul_nonneg a0 b0
  have h0 : 0 ≤ a * b / 18446744073709551616 := Int.ediv_nonneg hp (by decide)
  have l0 := Int.emod_nonneg (a * b) (show (18446744073709551616 : Int) ≠ 0 by decide)
  have l1 := Int.emod_lt_of_pos (a * b) (show (0 : Int) < 18446744073709551616 by decide)
  have hd := Int.mul_ediv_add_emod (a * b) 18446744073709551616
  rw [A.u64_id (x := m) (by omega) (by omega)]
  unfold bits_Rem64.f bits_Div64.f
  have t0 := Int.emod_nonneg (a * b / 18446744073709551616) (show m ≠ 0 by omega)
  have t1 := Int.emod_lt_of_pos (a * b / 18446744073709551616) hm
  rw [if_neg (by omega), Int.tmod_eq_emod_of_nonneg h0, if_pos ⟨t0, t1, by omega, l0, l1⟩]
  simp only [Option.bind_some]
  have e : (a * b / 18446744073709551616 % m * 18446744073709551616 + a * b % 18446744073709551616) % m = a * b % m := by
    have d2 := Int.mul_ediv_add_emod (a * b / 18446744073709551616) m
    generalize a * b / 18446744073709551616 = hi at *
    generalize a * b % 18446744073709551616 = lo at *
    have : a * b = (hi % m * 18446744073709551616 + lo) + m * (hi / m * 18446744073709551616) := by
      rw [← hd, ← Int.mul_assoc]; omega
    rw [this, Int.add_mul_emod_self_left]
  rw [e]
  have r0 := Int.emod_nonneg (a * b) (show m ≠ 0 by omega)
  have r1 := Int.emod_lt_of_pos (a * b) hm
  rw [wrap_id (by omega) (by omega)]

theorem pow_emod (x m : Int) : ∀ n : Nat, (x % m) ^ n % m = x ^ n % m
  | 0 => by simp
  | n + 1 => by rw [Int.pow_succ, Int.pow_succ, Int.mul_emod, pow_emod x m n, Int.mul_emod (x ^ n) x, Int.emod_emod]

theorem and1 {x : Int} (h0 : 0 ≤ x) (h1 : x < 9223372036854775808) : Go.bits .and .i64 x 1 = x % 2 := by
  have p63 : (2 : Int) ^ 63 = 9223372036854775808 := by decide
  have := bits_mask .i64 63 (by decide) (fun n a b => by rw [IntKind.wrap_i64]; rw [p63] at b; omega) 1 (by decide) x h0 (by rw [p63]; exact h1)
  simpa using this

/-- a power modulo P; a negative exponent goes by its residue modulo Q -/
@[irreducible] def ex (a e : Int) : Int := a ^ (if e < 0 then e % 1152921504606845789 else e).toNat % 2305843009213691579

theorem exp_loop (a e : Int) (a0 : 0 ≤ a) (a1 : a < 2305843009213691579) (e0 : 0 ≤ e) (e1 : e < 9223372036854775808) :
    ∀ (d : Nat) (i x : Int), d + i = 63 → 0 ≤ i → x = a ^ (e.toNat / 2 ^ d) % 2305843009213691579 → ∃ k, group_Exp.l0 k a e x i = some (a ^ e.toNat % 2305843009213691579)
  | 0, i, x, hd, hi, hx => by
    refine ⟨1, ?_⟩
    simp only [group_Exp.l0]
    rw [if_neg (by omega), hx]; simp
  | d + 1, i, x, hd, hi, hx => by
    have x0 : 0 ≤ x := by rw [hx]; exact Int.emod_nonneg _ (by decide)
    have x1 : x < 2305843009213691579 := by rw [hx]; exact Int.emod_lt_of_pos _ (by decide)
    have hw : wrap64 (62 - i) = (d : Int) := by rw [wrap_id (by omega) (by omega)]; omega
    have hsh : shr .i64 e (d : Int) = ((e.toNat / 2 ^ d : Nat) : Int) := by
      unfold shr
      rw [show min ((d : Nat) : Int).toNat IntKind.i64.bits = d by simp [IntKind.bits]; omega]
      rw [Int.natCast_ediv, Int.toNat_of_nonneg e0]; simp
    have hle : e.toNat / 2 ^ d ≤ e.toNat := Nat.div_le_self _ _
    have hb : Go.bits .and .i64 ((e.toNat / 2 ^ d : Nat) : Int) 1 = ((e.toNat / 2 ^ d % 2 : Nat) : Int) := by
      generalize e.toNat / 2 ^ d = E at hle ⊢
      rw [and1 (by omega) (by omega)]; omega
    have hsq : x * x % 2305843009213691579 = a ^ (2 * (e.toNat / 2 ^ (d + 1))) % 2305843009213691579 := by
      rw [hx, ← Int.mul_emod, ← Int.pow_add, Nat.two_mul]
    have hh : e.toNat / 2 ^ (d + 1) = e.toNat / 2 ^ d / 2 := by rw [Nat.pow_succ, Nat.div_div_eq_div_mul]
    have q0 : 0 ≤ x * x % 2305843009213691579 := Int.emod_nonneg _ (by decide)
    have q1 : x * x % 2305843009213691579 < 2305843009213691579 := Int.emod_lt_of_pos _ (by decide)
    by_cases hbit : e.toNat / 2 ^ d % 2 = 1
    · obtain ⟨k, hk⟩ := exp_loop a e a0 a1 e0 e1 d (i + 1) (x * x % 2305843009213691579 * a % 2305843009213691579) (by omega) (by omega) (by
        rw [hsq, Int.mul_emod, Int.emod_emod, ← Int.mul_emod, ← Int.pow_succ]; congr 2; omega)
      refine ⟨k + 1, ?_⟩
      simp only [group_Exp.l0]
      rw [if_pos (by omega), prod_ok x0 (by omega) x0 (by omega) (by decide) (by decide)]
      simp only [Option.bind_some]
      rw [hw, if_pos (by omega), hsh, hb, if_pos (by omega), prod_ok q0 (by omega) a0 (by omega) (by decide) (by decide)]
      simp only [Option.bind_some]
      rw [wrap_id (by omega) (by omega)]
      exact hk
    · obtain ⟨k, hk⟩ := exp_loop a e a0 a1 e0 e1 d (i + 1) (x * x % 2305843009213691579) (by omega) (by omega) (by
        rw [hsq]; congr 2; omega)
      refine ⟨k + 1, ?_⟩
      simp only [group_Exp.l0]
      rw [if_pos (by omega), prod_ok x0 (by omega) x0 (by omega) (by decide) (by decide)]
      simp only [Option.bind_some]
      rw [hw, if_pos (by omega), hsh, hb, if_neg (by omega), wrap_id (by omega) (by omega)]
      exact hk

theorem exp_ok (a e : Int) (he : e < 9223372036854775808) : ∃ k, group_Exp.f k a e = some (ex a e) := by
  have key : ∀ e' : Int, 0 ≤ e' → e' < 9223372036854775808 → ∃ k, group_Exp.j0 k a e' = some (a ^ e'.toNat % 2305843009213691579) := by
    intro e' h0 h1
    obtain ⟨k, hk⟩ := exp_loop (a % 2305843009213691579) e' (Int.emod_nonneg _ (by decide)) (Int.emod_lt_of_pos _ (by decide)) h0 h1 63 0 1 (by omega) (by omega) (by
      rw [Nat.div_eq_of_lt (show e'.toNat < 2 ^ 63 by omega), Int.pow_zero]; decide)
    refine ⟨k + 1, ?_⟩
    simp only [group_Exp.j0]
    rw [res_ok a (by decide) (by decide)]
    simp only [Option.bind_some]
    rw [hk, pow_emod]
  unfold group_Exp.f ex
  by_cases h : e < 0
  · obtain ⟨k, hk⟩ := key (e % 1152921504606845789) (by omega) (by omega)
    refine ⟨k, ?_⟩
    rw [if_pos h, if_pos h, res_ok e (by decide) (by decide)]
    exact hk
  · obtain ⟨k, hk⟩ := key e (by omega) he
    refine ⟨k, ?_⟩
    rw [if_neg h, if_neg h]
    exact hk

-- the reference
theorem emod_shift {x y m c : Int} (h : x = y + m * c) : x % m = y % m := by rw [h, Int.add_mul_emod_self_left]

theorem times_loop (m : Int) (hm : 0 < m) (hm' : m ≤ 4611686018427387904) : ∀ (j : Nat) (a b x : Int), 0 ≤ a → a < m → 0 ≤ b → b < 9223372036854775808 → b.toNat < 2 ^ j → 0 ≤ x → x < m → ∀ k, j + 1 ≤ k →
    bourneref04_times.l0 k a b m x = some ((x + a * b) % m)
  | 0, a, b, x, a0, a1, b0, b1, bj, x0, x1, k, hk => by
    obtain ⟨k, rfl⟩ : ∃ l, k = l + 1 := ⟨k - 1, by omega⟩
    have hb : b = 0 := by simp at bj; omega
    simp only [bourneref04_times.l0]
    rw [if_neg (by omega), hb, Int.mul_zero, Int.add_zero, Int.emod_eq_of_lt x0 x1]
  | j + 1, a, b, x, a0, a1, b0, b1, bj, x0, x1, k, hk => by
    obtain ⟨k, rfl⟩ : ∃ l, k = l + 1 := ⟨k - 1, by omega⟩
    simp only [bourneref04_times.l0]
    by_cases hb : b > 0
    · rw [if_pos hb, and1 b0 b1, wrap_id (x := x + a) (by omega) (by omega), wrap_id (x := a + a) (by omega) (by omega),
        wrap_id (x := x + a - m) (by omega) (by omega), wrap_id (x := a + a - m) (by omega) (by omega)]
      have ih := fun a' x' => times_loop m hm hm' j a' (b / 2) x'
      have h2 : (b / 2).toNat < 2 ^ j := by rw [Nat.pow_succ] at bj; omega
      have e2 : a * b = a * (2 * (b / 2)) + a * (b % 2) := by rw [← Int.mul_add]; congr 1; omega
      have e3 : a * (2 * (b / 2)) = 2 * (a * (b / 2)) := by rw [← Int.mul_assoc, Int.mul_comm a 2, Int.mul_assoc]
      have e4 : (a + a) * (b / 2) = 2 * (a * (b / 2)) := by rw [Int.add_mul]; omega
      have e5 : (a + a - m) * (b / 2) = 2 * (a * (b / 2)) - m * (b / 2) := by rw [Int.sub_mul, e4]
      by_cases ho : b % 2 = 1
      · rw [if_pos ho]
        rw [ho, Int.mul_one] at e2
        by_cases hx : x + a ≥ m
        · rw [if_pos hx]
          by_cases ha : a + a ≥ m
          · rw [if_pos ha, ih _ _ (by omega) (by omega) (by omega) (by omega) h2 (by omega) (by omega) k (by omega)]
            congr 1
            apply emod_shift (c := -(b / 2) - 1)
            rw [Int.mul_sub, Int.mul_neg]; omega
          · rw [if_neg ha, ih _ _ (by omega) (by omega) (by omega) (by omega) h2 (by omega) (by omega) k (by omega)]
            congr 1
            apply emod_shift (c := -1)
            omega
        · rw [if_neg hx]
          by_cases ha : a + a ≥ m
          · rw [if_pos ha, ih _ _ (by omega) (by omega) (by omega) (by omega) h2 (by omega) (by omega) k (by omega)]
            congr 1
            apply emod_shift (c := -(b / 2))
            rw [Int.mul_neg]; omega
          · rw [if_neg ha, ih _ _ (by omega) (by omega) (by omega) (by omega) h2 (by omega) (by omega) k (by omega)]
            congr 2
            omega
      · rw [if_neg ho]
        have ho' : b % 2 = 0 := by omega
        rw [ho', Int.mul_zero] at e2
        by_cases ha : a + a ≥ m
        · rw [if_pos ha, ih _ _ (by omega) (by omega) (by omega) (by omega) h2 (by omega) (by omega) k (by omega)]
          congr 1
          apply emod_shift (c := -(b / 2))
          rw [Int.mul_neg]; omega
        · rw [if_neg ha, ih _ _ (by omega) (by omega) (by omega) (by omega) h2 (by omega) (by omega) k (by omega)]
          congr 2
          omega
    · have : b = 0 := by omega
      rw [if_neg hb, this, Int.mul_zero, Int.add_zero, Int.emod_eq_of_lt x0 x1]

theorem times_ok {a b m : Int} (hm : 0 < m) (hm' : m ≤ 4611686018427387904) (a0 : 0 ≤ a) (a1 : a < m) (b0 : 0 ≤ b) (b1 : b < m) {k : Nat} (hk : 63 ≤ k) :
    bourneref04_times.f k a b m = some (a * b % m) := by
  unfold bourneref04_times.f
  rw [times_loop m hm hm' 62 a b 0 a0 a1 b0 (by omega) (by omega) (by omega) (by omega) k (by omega), Int.zero_add]

theorem rexp_loop : ∀ (j : Nat) (e x b : Int), 0 ≤ e → e < 9223372036854775808 → e.toNat < 2 ^ j → 0 ≤ x → x < 2305843009213691579 → 0 ≤ b → b < 2305843009213691579 → ∀ k, j + 64 ≤ k →
    bourneref04_Exp.l0 k e x b = some (x * b ^ e.toNat % 2305843009213691579)
  | 0, e, x, b, e0, e1, ej, x0, x1, b0, b1, k, hk => by
    obtain ⟨k, rfl⟩ : ∃ l, k = l + 1 := ⟨k - 1, by omega⟩
    have he : e = 0 := by simp at ej; omega
    simp only [bourneref04_Exp.l0]
    rw [if_neg (by omega), he]
    simp [Int.emod_eq_of_lt x0 x1]
  | j + 1, e, x, b, e0, e1, ej, x0, x1, b0, b1, k, hk => by
    obtain ⟨k, rfl⟩ : ∃ l, k = l + 1 := ⟨k - 1, by omega⟩
    simp only [bourneref04_Exp.l0]
    by_cases he : e > 0
    · have ht : Int.tmod e 2 = e % 2 := Int.tmod_eq_emod_of_nonneg e0
      have hd : wrap64 (Int.tdiv e 2) = e / 2 := by rw [Int.tdiv_eq_ediv_of_nonneg e0]; exact wrap_id (by omega) (by omega)
      rw [if_pos he, ht, hd, times_ok (by decide) (by decide) b0 b1 b0 b1 (by omega), times_ok (by decide) (by decide) x0 x1 b0 b1 (by omega)]
      simp only [Option.bind_some]
      have h2 : (e / 2).toNat < 2 ^ j := by rw [Nat.pow_succ] at ej; omega
      have ih := fun x' h0 h1 => rexp_loop j (e / 2) x' (b * b % 2305843009213691579) (by omega) (by omega) h2 h0 h1 (Int.emod_nonneg _ (by decide)) (Int.emod_lt_of_pos _ (by decide)) k (by omega)
      have e1 : ∀ y : Int, y * (b * b % 2305843009213691579) ^ (e / 2).toNat % 2305843009213691579 = y * b ^ (2 * (e / 2).toNat) % 2305843009213691579 := by
        intro y
        rw [Int.mul_emod, pow_emod, ← Int.mul_emod, Int.pow_mul, Int.pow_succ, Int.pow_succ, Int.pow_zero, Int.one_mul]
      by_cases ho : e % 2 = 1
      · rw [if_pos ho, ih _ (Int.emod_nonneg _ (by decide)) (Int.emod_lt_of_pos _ (by decide)), e1, Int.mul_emod, Int.emod_emod, ← Int.mul_emod, Int.mul_assoc, Int.mul_comm b, ← Int.pow_succ]
        congr 4; omega
      · rw [if_neg ho, ih _ x0 x1, e1]
        congr 4; omega
    · have he : e = 0 := by omega
      rw [if_neg (by omega), he]
      simp [Int.emod_eq_of_lt x0 x1]

theorem rexp_ok (a e : Int) (he : e < 9223372036854775808) : bourneref04_Exp.f 200 a e = some (ex a e) := by
  have key : ∀ e' : Int, 0 ≤ e' → e' < 9223372036854775808 → bourneref04_Exp.j0 200 a e' = some (a ^ e'.toNat % 2305843009213691579) := by
    intro e' h0 h1
    simp only [bourneref04_Exp.j0]
    rw [mod_ok a (by decide) (by decide)]
    simp only [Option.bind_some]
    rw [rexp_loop 63 e' 1 _ h0 h1 (by omega) (by decide) (by decide) (Int.emod_nonneg _ (by decide)) (Int.emod_lt_of_pos _ (by decide)) 199 (by omega), Int.one_mul, pow_emod]
  unfold bourneref04_Exp.f ex
  by_cases h : e < 0
  · rw [if_pos h, if_pos h, mod_ok e (by decide) (by decide)]
    exact key _ (by omega) (by omega)
  · rw [if_neg h, if_neg h]
    exact key e (by omega) he

end Go.Proofs.Ytgakeihdnlmeaaa.B
