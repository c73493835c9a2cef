/- Small laws of exchanges and siphons. -/
import Derived.Test.YtndancjnfdhbfaaSq
namespace Go.Proofs.Ytndancjnfdhbfaa.S
open Go.RowKit Go.Proofs.YtndancjnfdhbfaaW.PrintWords Go.Proofs.YtndancjnfdhbfaaW.PrintMore
theorem scl_le {x n d : Int} (hx : 0 ≤ x) (hnd : n ≤ d) : (scl x n d).1 ≤ x := by
  unfold scl
  split
  · rename_i h
    obtain ⟨h1, h2, h3, h4, h5, h6, h7⟩ := h
    exact Int.ediv_le_of_le_mul (by omega) (Int.mul_le_mul_of_nonneg_left hnd hx)
  · exact hx
theorem scl_mono {x y n d : Int} (h : x ≤ y) (hx : 0 ≤ x) (hy : y ≤ 1125899906842624) (hnd : n ≤ d) : (scl x n d).1 ≤ (scl y n d).1 := by
  by_cases hc : 0 ≤ n ∧ n ≤ 1125899906842624 ∧ 1 ≤ d ∧ d ≤ 1125899906842624
  · obtain ⟨n0, n1, d0, d1⟩ := hc
    have q : ∀ z, 0 ≤ z → z ≤ 1125899906842624 → z * n / d ≤ 1125899906842624 := fun z z0 z1 =>
      Int.le_trans (Int.ediv_le_of_le_mul (by omega) (Int.mul_le_mul_of_nonneg_left hnd z0)) z1
    unfold scl
    rw [if_pos ⟨hx, by omega, n0, n1, d0, d1, q x hx (by omega)⟩, if_pos ⟨by omega, hy, n0, n1, d0, d1, q y (by omega) hy⟩]
    exact Int.ediv_le_ediv (by omega) (Int.mul_le_mul_of_nonneg_right h n0)
  · have e : ∀ z, (scl z n d).1 = 0 := fun z => by
      unfold scl
      rw [if_neg fun hh => hc ⟨hh.2.2.1, hh.2.2.2.1, hh.2.2.2.2.1, hh.2.2.2.2.2.1⟩]
    rw [e, e]; exact Int.le_refl _
theorem xchg_mono {kd n d bn bd x x' y y' : Int} (h1 : x ≤ x') (h2 : y' ≤ y) (hx : 0 ≤ x) (hx' : x' ≤ 1125899906842624) (hy' : 0 ≤ y') (hy : y ≤ 1125899906842624) (hnd : n ≤ d) (hb : bn ≤ bd) : xchg kd n d bn bd x y ≤ xchg kd n d bn bd x' y' := by
  have a := scl_mono h1 hx hx' hnd
  have b := scl_mono h2 hy' hy hb
  unfold xchg
  split <;> omega
theorem clamp_in {n lo hi : Int} (h : lo ≤ hi) : lo ≤ (if n < lo then lo else if n > hi then hi else n) ∧ (if n < lo then lo else if n > hi then hi else n) ≤ hi := by
  constructor <;> ((repeat' split) <;> omega)
theorem may_has {lo hi p b k0 k1 x : Int} {o : Bool} (h1 : lo ≤ x) (h2 : x ≤ hi) (h3 : k0 ≤ nn o) (h4 : nn o ≤ k1) :
    (may lo hi p b k0 k1).1 ≤ nn (sph p b x o) ∧ nn (sph p b x o) ≤ (may lo hi p b k0 k1).2 ∧ 0 ≤ (may lo hi p b k0 k1).1 ∧ (may lo hi p b k0 k1).2 ≤ 1 := by
  have hc : (if o then op k0 k1 else cl k0 k1) = true := by
    cases o <;> simp only [nn, Bool.false_eq_true, if_false, if_true] at h3 h4 <;> simp [op, cl] <;> omega
  unfold may
  cases hs : sph p b x o with
  | true =>
    have hh := sph_mono h2 hs
    have ht : tt p b k0 k1 hi = true := by
      unfold tt
      cases o <;> simp only [Bool.false_eq_true, if_false, if_true] at hc <;> simp [hc, hh]
    rw [if_pos ⟨by omega, Or.inr ht⟩, ht]
    cases ff p b k0 k1 lo <;> simp [st2, nn]
  | false =>
    have hh : sph p b lo o = false := by
      cases hl : sph p b lo o with
      | false => rfl
      | true => rw [sph_mono h1 hl] at hs; cases hs
    have hf : ff p b k0 k1 lo = true := by
      unfold ff
      cases o <;> simp only [Bool.false_eq_true, if_false, if_true] at hc <;> simp [hc, hh]
    rw [if_pos ⟨by omega, Or.inl hf⟩, hf]
    cases tt p b k0 k1 hi <;> simp [st2, nn]
theorem may_one {p b x : Int} {o : Bool} : may x x p b (nn o) (nn o) = (nn (sph p b x o), nn (sph p b x o)) := by
  have ht : tt p b (nn o) (nn o) x = sph p b x o := by
    unfold tt
    cases o <;> simp [op, cl, nn]
  have hf : ff p b (nn o) (nn o) x = !sph p b x o := by
    unfold ff
    cases o <;> simp [op, cl, nn]
  unfold may
  rw [ht, hf]
  cases sph p b x o <;> simp [st2, nn]
theorem may_all {lo hi p b : Int} {o : Bool} (h : lo ≤ hi) : (may lo hi p b 0 1).1 ≤ (may lo hi p b (nn o) (nn o)).1 ∧ (may lo hi p b (nn o) (nn o)).2 ≤ (may lo hi p b 0 1).2 := by
  have m0 := sph_mono (p := p) (b := b) (o := false) h
  have m1 := sph_mono (p := p) (b := b) (o := true) h
  unfold may tt ff
  generalize sph p b lo false = u0 at *
  generalize sph p b lo true = u1 at *
  generalize sph p b hi false = v0 at *
  generalize sph p b hi true = v1 at *
  cases o <;> cases u0 <;> cases u1 <;> cases v0 <;> cases v1 <;> simp [op, cl, nn, st2, h] at m0 m1 ⊢
end Go.Proofs.Ytndancjnfdhbfaa.S
