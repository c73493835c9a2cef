/- The laws of the group, over residues and powers: plain numbers. -/
import Derived.Test.YtgakeihdnlmeaaaGs
import Derived.Test.YtgakeihdnlmeaaaWf
namespace Go.Proofs.Ytgakeihdnlmeaaa.B
open Go.RowKit

/-- an exponent as a natural number -/
def nx (e : Int) : Nat := (if e < 0 then e % 1152921504606845789 else e).toNat

theorem nx_spec (e : Int) : ((nx e : Nat) : Int) % 1152921504606845789 = e % 1152921504606845789 := by
  unfold nx; split <;> omega

theorem ex_nx (a e : Int) : ex a e = (((a % 2305843009213691579).toNat ^ nx e % 2305843009213691579 : Nat) : Int) := by
  unfold ex nx
  rw [pow_nat]

theorem ex_range (a e : Int) : 0 ≤ ex a e ∧ ex a e < 2305843009213691579 := by
  rw [ex_nx]; omega

/-- the residue of a power, as a natural number -/
theorem ex_res (a e : Int) : (ex a e % 2305843009213691579).toNat = (a % 2305843009213691579).toNat ^ nx e % 2305843009213691579 := by
  rw [ex_nx]
  generalize (a % 2305843009213691579).toNat ^ nx e = z
  omega

/-- the residue's natural number -/
abbrev rs (a : Int) : Nat := (a % 2305843009213691579).toNat

theorem rs_lt (a : Int) : rs a < 2305843009213691579 := by unfold rs; omega

theorem rs_mul (a b : Int) : rs (a * b % 2305843009213691579) = rs a * rs b % 2305843009213691579 := by
  unfold rs
  have a0 := Int.emod_nonneg a (show (2305843009213691579 : Int) ≠ 0 by decide)
  have b0 := Int.emod_nonneg b (show (2305843009213691579 : Int) ≠ 0 by decide)
  rw [Int.emod_emod, Int.mul_emod, Int.toNat_emod (Int.mul_nonneg a0 b0) (by decide), Int.toNat_mul a0 b0]; rfl

theorem rs_rs (a : Int) : rs (a % 2305843009213691579) = rs a := by unfold rs; rw [Int.emod_emod]

theorem rs_ndvd {a : Int} (h : a % 2305843009213691579 ≠ 0) : ¬ 2305843009213691579 ∣ rs a := res_not_dvd h

/-- the order, and the exponent of the inverse: names that do not unfold -/
@[irreducible] def qN : Nat := 1152921504606845789
@[irreducible] def iN : Nat := 2305843009213691577
theorem qN_eq : qN = 1152921504606845789 := by unfold qN; rfl
theorem iN_eq : iN = 2305843009213691577 := by unfold iN; rfl
theorem sf : Nt.Safe 2305843009213691579 qN := by rw [qN_eq]; exact Nt.safe

/-- membership of a residue -/
def Mem (r : Nat) : Prop := r ^ qN % 2305843009213691579 = 1

theorem natone (z : Nat) : ((z : Nat) : Int) = 1 ↔ z = 1 := by omega

theorem nxQ : nx 1152921504606845789 = qN := by rw [qN_eq]; unfold nx; rfl
theorem nxI : nx 2305843009213691577 = iN := by rw [iN_eq]; unfold nx; rfl
theorem inv' {a : Nat} (ha : ¬ 2305843009213691579 ∣ a) : a * a ^ iN % 2305843009213691579 = 1 := by
  have h := sf.pr.fermat1 ha
  rw [show 2305843009213691579 - 1 = iN + 1 by rw [iN_eq], Nat.pow_succ, Nat.mul_comm] at h
  exact h

theorem exQ_iff (a : Int) : ex a 1152921504606845789 = 1 ↔ Mem (rs a) := by
  rw [ex_nx, nxQ]
  exact natone _

/-- membership with the statement's own bounds -/
theorem in_iff {y : Int} (h0 : 0 < y) (h1 : y < 2305843009213691579) : (0 < y ∧ y < 2305843009213691579 ∧ ex y 1152921504606845789 = 1) ↔ Mem (rs y) := by
  rw [exQ_iff]
  exact ⟨fun h => h.2.2, fun h => ⟨h0, h1, h⟩⟩

/-- what is no member has the power -1 -/
theorem exQ_neg {a : Int} (h : a % 2305843009213691579 ≠ 0) (hm : ¬ Mem (rs a)) : ex a 1152921504606845789 = 2305843009213691578 := by
  rw [ex_nx, nxQ]
  rcases sf.half (rs_ndvd h) with h1 | h1
  · exact absurd h1 hm
  · exact congrArg (fun z : Nat => (z : Int)) h1

theorem order_iff {r : Nat} (hl : r < 2305843009213691579) (h : Mem r) (h1 : r ≠ 1) (n : Nat) : r ^ n % 2305843009213691579 = 1 ↔ n % 1152921504606845789 = 0 := by
  rw [← qN_eq]
  exact sf.order h (by rw [Nat.mod_eq_of_lt hl]; exact h1) n

theorem inj_iff {r : Nat} (hl : r < 2305843009213691579) (h : Mem r) (h1 : r ≠ 1) (m n : Nat) : r ^ m % 2305843009213691579 = r ^ n % 2305843009213691579 ↔ m % 1152921504606845789 = n % 1152921504606845789 := by
  rw [← qN_eq]
  exact sf.pow_inj h (by rw [Nat.mod_eq_of_lt hl]; exact h1) m n

theorem congr_pow {r : Nat} (h : Mem r) {m n : Nat} (hm : m % 1152921504606845789 = n % 1152921504606845789) : r ^ m % 2305843009213691579 = r ^ n % 2305843009213691579 :=
  sf.pow_congr h (by rw [qN_eq]; exact hm)

theorem Mem.ndvd {r : Nat} (h : Mem r) : ¬ 2305843009213691579 ∣ r := sf.in_not_dvd h

theorem mem_sq {r : Nat} (h : ¬ 2305843009213691579 ∣ r) : Mem (r * r % 2305843009213691579) := by
  unfold Mem
  rw [← Nat.pow_mod]
  exact sf.sq_in h

theorem mem_mul {a b : Nat} (ha : ¬ 2305843009213691579 ∣ a) (hb : ¬ 2305843009213691579 ∣ b) : Mem (a * b % 2305843009213691579) ↔ (Mem a ↔ Mem b) := by
  unfold Mem
  rw [← Nat.pow_mod]
  exact sf.mul ha hb

theorem mem_neg {x : Nat} (h0 : 0 < x) (h : x < 2305843009213691579) : Mem (2305843009213691579 - x) ↔ ¬ Mem x := sf.neg h0 h

theorem mem_one : Mem 1 := by unfold Mem; rw [Nat.one_pow]

theorem mem_pow {r : Nat} (h : Mem r) (n : Nat) : Mem (r ^ n % 2305843009213691579) := by
  unfold Mem at h ⊢
  rw [← Nat.pow_mod, ← Nat.pow_mul, Nat.mul_comm, Nat.pow_mul]
  exact Nt.pow_mod_one (by decide) h

theorem ex_one_iff {x : Int} (h : Mem (rs x)) (h1 : rs x ≠ 1) (d : Int) : ex x d = 1 ↔ d % 1152921504606845789 = 0 := by
  have key := order_iff (rs_lt x) h h1 (nx d)
  have hs := nx_spec d
  rw [ex_nx]
  exact (natone _).trans (key.trans (by omega))

theorem ex_inj_iff {x : Int} (h : Mem (rs x)) (h1 : rs x ≠ 1) (d e : Int) : ex x d = ex x e ↔ d % 1152921504606845789 = e % 1152921504606845789 := by
  have key := inj_iff (rs_lt x) h h1 (nx d) (nx e)
  have hs := nx_spec d
  have ht := nx_spec e
  rw [ex_nx, ex_nx, Int.natCast_inj]
  exact key.trans (by omega)

/-- powers of a member whose exponents have one residue -/
theorem ex_congr {x : Int} (h : Mem (rs x)) {n : Nat} {e : Int} (he : (n : Int) % 1152921504606845789 = e % 1152921504606845789) :
    ex x e = ((rs x ^ n % 2305843009213691579 : Nat) : Int) := by
  have hs := nx_spec e
  rw [ex_nx, Int.natCast_inj]
  exact congr_pow h (by omega)

theorem ex_mul {x : Int} (h : Mem (rs x)) (d e : Int) : ex x d * ex x e % 2305843009213691579 = ex x ((d + e) % 1152921504606845789) := by
  have hs := nx_spec d
  have ht := nx_spec e
  rw [ex_congr h (n := nx d + nx e) (e := (d + e) % 1152921504606845789) (by omega), Nat.pow_add, Nat.mul_mod, ex_nx x d, ex_nx x e, Int.natCast_emod (_ * _), Int.natCast_mul]
  rfl

theorem ex_ex {x : Int} (h : Mem (rs x)) (d e : Int) : ex (ex x d) e = ex x (d * e % 1152921504606845789) := by
  have hs := nx_spec d
  have ht := nx_spec e
  have hp : ((nx d * nx e : Nat) : Int) % 1152921504606845789 = d * e % 1152921504606845789 % 1152921504606845789 := by
    rw [Int.natCast_mul, Int.mul_emod, hs, ht, ← Int.mul_emod, Int.emod_emod]
  rw [ex_congr h hp, ex_nx (ex x d), ex_res, ← Nat.pow_mod, ← Nat.pow_mul]

theorem ex_inv {x : Int} (h : Mem (rs x)) (d : Int) : ex (ex x d) 2305843009213691577 = ex x ((0 - d) % 1152921504606845789) := by
  have hs := nx_spec d
  rw [ex_congr h (n := nx d * iN) (e := (0 - d) % 1152921504606845789) (by rw [iN_eq]; omega), ex_nx (ex x d), ex_res, nxI, ← Nat.pow_mod, ← Nat.pow_mul]

theorem ex_red {x : Int} (h : Mem (rs x)) (d : Int) : ex x d = ex x ((d + 0) % 1152921504606845789) := by
  have hs := nx_spec d
  rw [ex_congr h (n := nx d) (e := (d + 0) % 1152921504606845789) (by omega), ex_nx]

theorem ex_mem {x : Int} (h : Mem (rs x)) (d : Int) : Mem (rs (ex x d)) := by
  unfold rs at h ⊢
  rw [ex_res]
  exact mem_pow h _

theorem ex_ne {x : Int} (h : Mem (rs x)) (d : Int) : ex x d % 2305843009213691579 ≠ 0 := by
  have hn := (ex_mem h d).ndvd
  intro h0
  apply hn
  unfold rs
  rw [h0]
  exact ⟨0, rfl⟩

theorem rs4 : Mem (rs 4) := (exQ_iff 4).1 L.e4q

theorem ex4_in (e : Int) : Mem (rs (ex 4 e)) := ex_mem rs4 e

theorem ex_zero (a : Int) : ex a 0 = 1 := by unfold ex; simp
theorem ex_1 (a : Int) : ex a 1 = a % 2305843009213691579 := by
  unfold ex
  rw [if_neg (by decide), show (1 : Int).toNat = 0 + 1 from rfl, Int.pow_succ, Int.pow_zero, Int.one_mul]
theorem ex_2 (a : Int) : ex a 2 = a * a % 2305843009213691579 := by
  unfold ex
  rw [if_neg (by decide), show (2 : Int).toNat = 1 + 1 from rfl, Int.pow_succ, Int.pow_succ, Int.pow_zero, Int.one_mul]

/-- the inverse of a residue -/
theorem inv_mul {x : Int} (h : x % 2305843009213691579 ≠ 0) : ex x 2305843009213691577 * x % 2305843009213691579 = 1 := by
  have h2 : rs (ex x 2305843009213691577 * x % 2305843009213691579) = 1 := by
    have hv := inv' (rs_ndvd h)
    rw [rs_mul, Nat.mul_comm]
    show rs x * (ex x 2305843009213691577 % 2305843009213691579).toNat % _ = _
    rw [ex_res, nxI, Nat.mul_mod, Nat.mod_mod, ← Nat.mul_mod]
    exact hv
  unfold rs at h2
  rw [Int.emod_emod] at h2
  omega

end Go.Proofs.Ytgakeihdnlmeaaa.B
