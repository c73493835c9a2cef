/- The reference's inverse, by Euclid's algorithm, is a power of the integer; the functions of the group and of the reference in closed form, with their contracts. -/
import Derived.Test.YtgakeihdnlmeaaaGm
namespace Go.Proofs.Ytgakeihdnlmeaaa.B
open Go.RowKit Go.Proofs.YtgakeihdnlmeaaaW.PrintWords Go.Proofs.YtgakeihdnlmeaaaW.PrintLast Go.Proofs.YtgakeihdnlmeaaaW.PrintMore

theorem ring1 (X Y q r s : Int) : (X + q * Y) * s + Y * (r - q * s) = X * s + Y * r := by grind

theorem inv_loop (a : Int) : ∀ (n : Nat) (r s x y X Y c d : Int), s.toNat < n → 0 ≤ s → 0 < r → r ≤ 2305843009213691579 → (r < 2305843009213691579 ∨ 0 < s) → s < 2305843009213691579 → 0 ≤ X → 0 ≤ Y →
    (x = -X ∧ y = Y ∨ x = X ∧ y = -Y) → X * s + Y * r = 2305843009213691579 → x * a = r + 2305843009213691579 * c → y * a = s + 2305843009213691579 * d →
    ∃ k z, bourneref04_Inv.l0 k r s x y = some (z, true) ∧ 0 ≤ z ∧ z < 2305843009213691579 ∧ z * a % 2305843009213691579 = 1
  | 0, r, s, x, y, X, Y, c, d, hn, _, _, _, _, _, _, _, _, _, _, _ => by omega
  | n + 1, r, s, x, y, X, Y, c, d, hn, s0, r0, r1, rs, s1, X0, Y0, hxy, he, hc, hd => by
    by_cases hs : s > 0
    · have q0 : 0 ≤ r / s := Int.ediv_nonneg (by omega) s0
      have q1 : r / s ≤ r := Int.ediv_le_self _ (by omega)
      have m0 := Int.emod_nonneg r (show s ≠ 0 by omega)
      have m1 := Int.emod_lt_of_pos r hs
      have md := Int.emod_def r s
      have qs : r / s * s = s * (r / s) := Int.mul_comm _ _
      have qY : 0 ≤ r / s * Y := Int.mul_nonneg q0 Y0
      have e1 : (X + r / s * Y) * s + Y * (r - r / s * s) = 2305843009213691579 := by
        rw [ring1]; exact he
      have b1 : 0 ≤ Y * (r - r / s * s) := Int.mul_nonneg Y0 (by omega)
      have b2 : X + r / s * Y ≤ (X + r / s * Y) * s := by
        have := Int.mul_le_mul_of_nonneg_left (show 1 ≤ s by omega) (show 0 ≤ X + r / s * Y by omega)
        omega
      have w1 : wrap64 (Int.tdiv r s) = r / s := by rw [Int.tdiv_eq_ediv_of_nonneg (by omega)]; exact wrap_id (by omega) (by omega)
      have w2 : wrap64 (r / s * s) = r / s * s := wrap_id (by omega) (by omega)
      have w3 : wrap64 (r - r / s * s) = r - r / s * s := wrap_id (by omega) (by omega)
      have hy : r / s * y = r / s * Y ∨ r / s * y = -(r / s * Y) := by
        rcases hxy with ⟨_, rfl⟩ | ⟨_, rfl⟩
        · exact Or.inl rfl
        · exact Or.inr (Int.mul_neg _ _)
      have w4 : wrap64 (r / s * y) = r / s * y := wrap_id (by omega) (by omega)
      have w5 : wrap64 (x - r / s * y) = x - r / s * y := wrap_id (by omega) (by omega)
      have hn' : (y = -Y ∧ x - r / s * y = X + r / s * Y) ∨ (y = Y ∧ x - r / s * y = -(X + r / s * Y)) := by
        rcases hxy with ⟨rfl, rfl⟩ | ⟨rfl, rfl⟩
        · exact Or.inr ⟨rfl, by omega⟩
        · exact Or.inl ⟨rfl, by rw [Int.mul_neg]; omega⟩
      have hd' : (x - r / s * y) * a = (r - r / s * s) + 2305843009213691579 * (c - r / s * d) := by
        rw [Int.sub_mul, hc, Int.mul_assoc, hd, Int.mul_add, Int.mul_sub, Int.mul_left_comm (r / s)]; omega
      obtain ⟨k, z, hk, hz⟩ := inv_loop a n s (r - r / s * s) y (x - r / s * y) Y (X + r / s * Y) d (c - r / s * d) (by omega) (by omega) hs (by omega) (by omega) (by omega) Y0 (by omega) hn'
        (by rw [Int.add_comm]; exact e1) hd hd'
      refine ⟨k + 1, z, ?_, hz⟩
      simp only [bourneref04_Inv.l0]
      rw [if_pos hs, if_neg (by omega), w1, w2, w3, w4, w5]
      exact hk
    · have hs0 : s = 0 := by omega
      subst hs0
      have hr : r = 1 := by
        have hdvd : r.toNat ∣ 2305843009213691579 := by
          have : r ∣ (2305843009213691579 : Int) := ⟨Y, by rw [Int.mul_comm]; omega⟩
          have h2 : ((r.toNat : Nat) : Int) ∣ ((2305843009213691579 : Nat) : Int) := by rw [Int.toNat_of_nonneg (by omega)]; exact this
          exact Int.natCast_dvd_natCast.1 h2
        rcases Nt.safe.pr.2 _ hdvd with h | h <;> omega
      refine ⟨1, x % 2305843009213691579, ?_, Int.emod_nonneg _ (by decide), Int.emod_lt_of_pos _ (by decide), ?_⟩
      · simp only [bourneref04_Inv.l0]
        rw [if_neg (by decide), mod_ok x (by decide) (by decide)]
        rfl
      · rw [Int.mul_emod, Int.emod_emod, ← Int.mul_emod, hc, hr, Int.add_mul_emod_self_left]; decide

/-- powers of residues, in natural numbers -/
theorem pow_nat (a : Int) (n : Nat) : a ^ n % 2305843009213691579 = (((a % 2305843009213691579).toNat ^ n % 2305843009213691579 : Nat) : Int) := by
  rw [← pow_emod, Int.natCast_emod, Int.natCast_pow, Int.toNat_of_nonneg (Int.emod_nonneg _ (by decide))]; rfl

theorem ex_nat (a : Int) {e : Int} (h : 0 ≤ e) : ex a e = (((a % 2305843009213691579).toNat ^ e.toNat % 2305843009213691579 : Nat) : Int) := by
  unfold ex
  rw [if_neg (by omega), pow_nat]

theorem res_not_dvd {a : Int} (h : a % 2305843009213691579 ≠ 0) : ¬ 2305843009213691579 ∣ (a % 2305843009213691579).toNat := by
  intro hd
  have := Nat.mod_eq_zero_of_dvd hd
  omega

theorem rinv_ok (a : Int) : ∃ k, bourneref04_Inv.f k a = some (if a % 2305843009213691579 = 0 then (0, false) else (ex a 2305843009213691577, true)) := by
  unfold bourneref04_Inv.f
  rw [mod_ok a (by decide) (by decide)]
  simp only [Option.bind_some]
  by_cases h : a % 2305843009213691579 = 0
  · refine ⟨0, ?_⟩
    rw [if_pos h, if_pos h]
  · have m0 := Int.emod_nonneg a (show (2305843009213691579 : Int) ≠ 0 by decide)
    have m1 := Int.emod_lt_of_pos a (show (0 : Int) < 2305843009213691579 by decide)
    obtain ⟨k, z, hk, z0, z1, hz⟩ := inv_loop (a % 2305843009213691579) ((a % 2305843009213691579).toNat + 1) 2305843009213691579 (a % 2305843009213691579) 0 1 0 1 (-1) 0 (by omega) m0 (by decide) (by decide) (by omega) m1 (by decide) (by decide)
      (Or.inl ⟨rfl, rfl⟩) (by omega) (by omega) (by omega)
    refine ⟨k, ?_⟩
    rw [if_neg h, if_neg h, hk]
    congr 2
    have h1 : (a % 2305843009213691579).toNat * z.toNat % 2305843009213691579 = 1 := by
      have h2 : (((a % 2305843009213691579).toNat * z.toNat % 2305843009213691579 : Nat) : Int) = ((1 : Nat) : Int) := by
        rw [Int.natCast_emod, Int.natCast_mul, Int.toNat_of_nonneg m0, Int.toNat_of_nonneg z0, Int.mul_comm]
        exact hz
      exact Int.natCast_inj.1 h2
    have h2 := Nt.safe.inv_unique h1 (Nt.safe.inv (res_not_dvd h))
    rw [Nat.mod_eq_of_lt (show z.toNat < 2305843009213691579 by omega)] at h2
    rw [ex_nat a (by decide), show (2305843009213691577 : Int).toNat = 2305843009213691579 - 2 from rfl, ← h2, Int.toNat_of_nonneg z0]

theorem inv_ok (a : Int) : ∃ k, group_Inv.f k a = some (if a % 2305843009213691579 = 0 then (0, false) else (ex a 2305843009213691577, true)) := by
  obtain ⟨k, hk⟩ := exp_ok a 2305843009213691577 (by decide)
  refine ⟨k, ?_⟩
  unfold group_Inv.f
  rw [res_ok a (by decide) (by decide)]
  simp only [Option.bind_some]
  by_cases h : a % 2305843009213691579 = 0
  · rw [if_pos h, if_pos h]
  · rw [if_neg h, if_neg h, hk]; rfl

theorem mul_ok (a b : Int) : group_Mul.f a b = some (a * b % 2305843009213691579) := by
  have a0 := Int.emod_nonneg a (show (2305843009213691579 : Int) ≠ 0 by decide)
  have a1 := Int.emod_lt_of_pos a (show (0 : Int) < 2305843009213691579 by decide)
  have b0 := Int.emod_nonneg b (show (2305843009213691579 : Int) ≠ 0 by decide)
  have b1 := Int.emod_lt_of_pos b (show (0 : Int) < 2305843009213691579 by decide)
  unfold group_Mul.f
  rw [res_ok a (by decide) (by decide), res_ok b (by decide) (by decide)]
  simp only [Option.bind_some]
  rw [prod_ok a0 (by omega) b0 (by omega) (by decide) (by decide), ← Int.mul_emod]
  rfl

theorem rmul_ok (a b : Int) : bourneref04_Mul.f 200 a b = some (a * b % 2305843009213691579) := by
  unfold bourneref04_Mul.f
  rw [mod_ok a (by decide) (by decide), mod_ok b (by decide) (by decide)]
  simp only [Option.bind_some]
  rw [times_ok (by decide) (by decide) (Int.emod_nonneg _ (by decide)) (Int.emod_lt_of_pos _ (by decide)) (Int.emod_nonneg _ (by decide)) (Int.emod_lt_of_pos _ (by decide)) (by decide), ← Int.mul_emod]
  rfl

theorem mulQ_ok (a b : Int) : group_MulQ.f a b = some (a * b % 1152921504606845789) := by
  have a0 := Int.emod_nonneg a (show (1152921504606845789 : Int) ≠ 0 by decide)
  have a1 := Int.emod_lt_of_pos a (show (0 : Int) < 1152921504606845789 by decide)
  have b0 := Int.emod_nonneg b (show (1152921504606845789 : Int) ≠ 0 by decide)
  have b1 := Int.emod_lt_of_pos b (show (0 : Int) < 1152921504606845789 by decide)
  unfold group_MulQ.f
  rw [res_ok a (by decide) (by decide), res_ok b (by decide) (by decide)]
  simp only [Option.bind_some]
  rw [prod_ok a0 (by omega) b0 (by omega) (by decide) (by decide), ← Int.mul_emod]
  rfl

theorem rmulQ_ok (a b : Int) : bourneref04_MulQ.f 200 a b = some (a * b % 1152921504606845789) := by
  unfold bourneref04_MulQ.f
  rw [mod_ok a (by decide) (by decide), mod_ok b (by decide) (by decide)]
  simp only [Option.bind_some]
  rw [times_ok (by decide) (by decide) (Int.emod_nonneg _ (by decide)) (Int.emod_lt_of_pos _ (by decide)) (Int.emod_nonneg _ (by decide)) (Int.emod_lt_of_pos _ (by decide)) (by decide), ← Int.mul_emod]
  rfl

theorem addQ_ok (a b : Int) : group_AddQ.f a b = some ((a + b) % 1152921504606845789) := by
  unfold group_AddQ.f
  rw [res_ok a (by decide) (by decide), res_ok b (by decide) (by decide)]
  simp only [Option.bind_some]
  rw [res_ok _ (by decide) (by decide), wrap_id (by omega) (by omega), ← Int.add_emod]
  rfl

theorem raddQ_ok (a b : Int) : bourneref04_AddQ.f a b = some ((a + b) % 1152921504606845789) := by
  unfold bourneref04_AddQ.f
  rw [mod_ok a (by decide) (by decide), mod_ok b (by decide) (by decide)]
  simp only [Option.bind_some]
  rw [mod_ok _ (by decide) (by decide), wrap_id (by omega) (by omega), ← Int.add_emod]
  rfl

theorem subQ_ok (a b : Int) : group_SubQ.f a b = some ((a - b) % 1152921504606845789) := by
  unfold group_SubQ.f
  rw [res_ok a (by decide) (by decide), res_ok b (by decide) (by decide)]
  simp only [Option.bind_some]
  rw [res_ok _ (by decide) (by decide), wrap_id (by omega) (by omega), ← Int.sub_emod]
  rfl

theorem rsubQ_ok (a b : Int) : bourneref04_SubQ.f a b = some ((a - b) % 1152921504606845789) := by
  unfold bourneref04_SubQ.f
  rw [mod_ok a (by decide) (by decide), mod_ok b (by decide) (by decide)]
  simp only [Option.bind_some]
  rw [mod_ok _ (by decide) (by decide), wrap_id (by omega) (by omega), ← Int.sub_emod]
  rfl

end Go.Proofs.Ytgakeihdnlmeaaa.B
namespace Go.Proofs.Ytgakeihdnlmeaaa.S
open Go.RowKit Go.Proofs.YtgakeihdnlmeaaaW.PrintWords Go.Proofs.YtgakeihdnlmeaaaW.PrintLast Go.Proofs.YtgakeihdnlmeaaaW.PrintMore
def group_Mul.f (a0 a1 : Int) : Option (Int) := some (a0 * a1 % 2305843009213691579)
theorem group_Mul.calls (a0 a1 : Int) (r : Int) (w : World) (h : group_Mul.f a0 a1 = some r) :
    Calls Try.prog 11 #[.int .i64 a0, .int .i64 a1] w fun e w' => e = .returned (.int .i64 r) ∧ Drawn0 w w' :=
  B.group_Mul.calls a0 a1 r w ((B.mul_ok a0 a1).trans h)

def bourneref04_Mul.f (a0 a1 : Int) : Option (Int) := some (a0 * a1 % 2305843009213691579)
theorem bourneref04_Mul.calls (a0 a1 : Int) (r : Int) (w : World) (h : bourneref04_Mul.f a0 a1 = some r) :
    Calls Try.prog 12 #[.int .i64 a0, .int .i64 a1] w fun e w' => e = .returned (.int .i64 r) ∧ Drawn0 w w' :=
  B.bourneref04_Mul.calls 200 a0 a1 r w ((B.rmul_ok a0 a1).trans h)

def group_AddQ.f (a0 a1 : Int) : Option (Int) := some ((a0 + a1) % 1152921504606845789)
theorem group_AddQ.calls (a0 a1 : Int) (r : Int) (w : World) (h : group_AddQ.f a0 a1 = some r) :
    Calls Try.prog 17 #[.int .i64 a0, .int .i64 a1] w fun e w' => e = .returned (.int .i64 r) ∧ Drawn0 w w' :=
  B.group_AddQ.calls a0 a1 r w ((B.addQ_ok a0 a1).trans h)

def bourneref04_AddQ.f (a0 a1 : Int) : Option (Int) := some ((a0 + a1) % 1152921504606845789)
theorem bourneref04_AddQ.calls (a0 a1 : Int) (r : Int) (w : World) (h : bourneref04_AddQ.f a0 a1 = some r) :
    Calls Try.prog 18 #[.int .i64 a0, .int .i64 a1] w fun e w' => e = .returned (.int .i64 r) ∧ Drawn0 w w' :=
  B.bourneref04_AddQ.calls a0 a1 r w ((B.raddQ_ok a0 a1).trans h)

def group_SubQ.f (a0 a1 : Int) : Option (Int) := some ((a0 - a1) % 1152921504606845789)
theorem group_SubQ.calls (a0 a1 : Int) (r : Int) (w : World) (h : group_SubQ.f a0 a1 = some r) :
    Calls Try.prog 19 #[.int .i64 a0, .int .i64 a1] w fun e w' => e = .returned (.int .i64 r) ∧ Drawn0 w w' :=
  B.group_SubQ.calls a0 a1 r w ((B.subQ_ok a0 a1).trans h)

def bourneref04_SubQ.f (a0 a1 : Int) : Option (Int) := some ((a0 - a1) % 1152921504606845789)
theorem bourneref04_SubQ.calls (a0 a1 : Int) (r : Int) (w : World) (h : bourneref04_SubQ.f a0 a1 = some r) :
    Calls Try.prog 20 #[.int .i64 a0, .int .i64 a1] w fun e w' => e = .returned (.int .i64 r) ∧ Drawn0 w w' :=
  B.bourneref04_SubQ.calls a0 a1 r w ((B.rsubQ_ok a0 a1).trans h)

def group_MulQ.f (a0 a1 : Int) : Option (Int) := some (a0 * a1 % 1152921504606845789)
theorem group_MulQ.calls (a0 a1 : Int) (r : Int) (w : World) (h : group_MulQ.f a0 a1 = some r) :
    Calls Try.prog 21 #[.int .i64 a0, .int .i64 a1] w fun e w' => e = .returned (.int .i64 r) ∧ Drawn0 w w' :=
  B.group_MulQ.calls a0 a1 r w ((B.mulQ_ok a0 a1).trans h)

def bourneref04_MulQ.f (a0 a1 : Int) : Option (Int) := some (a0 * a1 % 1152921504606845789)
theorem bourneref04_MulQ.calls (a0 a1 : Int) (r : Int) (w : World) (h : bourneref04_MulQ.f a0 a1 = some r) :
    Calls Try.prog 22 #[.int .i64 a0, .int .i64 a1] w fun e w' => e = .returned (.int .i64 r) ∧ Drawn0 w w' :=
  B.bourneref04_MulQ.calls 200 a0 a1 r w ((B.rmulQ_ok a0 a1).trans h)

def group_Exp.f (a0 a1 : Int) : Option (Int) := if a1 < 9223372036854775808 then some (B.ex a0 a1) else none
theorem group_Exp.calls (a0 a1 : Int) (r : Int) (w : World) (h : group_Exp.f a0 a1 = some r) :
    Calls Try.prog 13 #[.int .i64 a0, .int .i64 a1] w fun e w' => e = .returned (.int .i64 r) ∧ Drawn0 w w' := by
  unfold group_Exp.f at h
  split at h
  · rename_i hc
    obtain ⟨k, hk⟩ := B.exp_ok a0 a1 hc
    exact B.group_Exp.calls k a0 a1 r w (hk.trans h)
  · cases h

def bourneref04_Exp.f (a0 a1 : Int) : Option (Int) := if a1 < 9223372036854775808 then some (B.ex a0 a1) else none
theorem bourneref04_Exp.calls (a0 a1 : Int) (r : Int) (w : World) (h : bourneref04_Exp.f a0 a1 = some r) :
    Calls Try.prog 14 #[.int .i64 a0, .int .i64 a1] w fun e w' => e = .returned (.int .i64 r) ∧ Drawn0 w w' := by
  unfold bourneref04_Exp.f at h
  split at h
  · rename_i hc
    exact B.bourneref04_Exp.calls 200 a0 a1 r w ((B.rexp_ok a0 a1 hc).trans h)
  · cases h

def group_Inv.f (a0 : Int) : Option (Int × Bool) := some (if a0 % 2305843009213691579 = 0 then (0, false) else (B.ex a0 2305843009213691577, true))
theorem group_Inv.calls (a0 : Int) (r1 : Int) (r2 : Bool) (w : World) (h : group_Inv.f a0 = some (r1, r2)) :
    Calls Try.prog 9 #[.int .i64 a0] w fun e w' => e = .returned (.tuple #[.int .i64 r1, .bool r2]) ∧ Drawn0 w w' := by
  obtain ⟨k, hk⟩ := B.inv_ok a0
  exact B.group_Inv.calls k a0 r1 r2 w (hk.trans h)

def bourneref04_Inv.f (a0 : Int) : Option (Int × Bool) := some (if a0 % 2305843009213691579 = 0 then (0, false) else (B.ex a0 2305843009213691577, true))
theorem bourneref04_Inv.calls (a0 : Int) (r1 : Int) (r2 : Bool) (w : World) (h : bourneref04_Inv.f a0 = some (r1, r2)) :
    Calls Try.prog 10 #[.int .i64 a0] w fun e w' => e = .returned (.tuple #[.int .i64 r1, .bool r2]) ∧ Drawn0 w w' := by
  obtain ⟨k, hk⟩ := B.rinv_ok a0
  exact B.bourneref04_Inv.calls k a0 r1 r2 w (hk.trans h)
end Go.Proofs.Ytgakeihdnlmeaaa.S
