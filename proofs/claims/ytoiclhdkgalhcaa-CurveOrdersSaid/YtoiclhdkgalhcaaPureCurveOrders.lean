/- CurveOrders holds: Under is reflexive and transitive; where it is true, the values are ordered the same way and Least the other way round; where it is true in both directions, all values are the same. No conditions beyond the statement's own. -/
import Derived.Test.YtoiclhdkgalhcaaOx2
import Derived.Test.YtoiclhdkgalhcaaWf
namespace Go.Proofs.Ytoiclhdkgalhcaa.Pure
open Go.Proofs.Ytoiclhdkgalhcaa.S
open Go.RowKit Go.Proofs.Ytoiclhdkgalhcaa.O Go.Proofs.YtoiclhdkgalhcaaW.PrintWords Go.Proofs.YtoiclhdkgalhcaaW.PrintMore
theorem least_false {l : List S37} {y : Int} (h : (least l y).2 = false) : least l y = (0, false) := by
  unfold least leastr at *
  (repeat' split at h) <;> first | (cases h; done) | simp_all
theorem least_true {l : List S37} (hR : right l) {y : Int} (h : (least l y).2 = true) : y ≤ Y l (l.length - 1) := by
  unfold least at h
  rw [if_pos hR] at h
  have hi := iy_last hR y
  unfold leastr at h
  by_cases h1 : iy l y = l.length
  · rw [if_pos h1] at h; cases h
  · have : ¬ Y l (l.length - 1) < y := fun h2 => h1 (hi.2 h2)
    omega
theorem least_le {a b : List S37} (hab : under a b) {y : Int} (h : (least a y).2 = true) : (least b y).2 = true ∧ (least b y).1 ≤ (least a y).1 := by
  have ha := hab.1
  have hb := hab.2.1
  have lb := right_pos hb
  obtain ⟨_, a1, _, a3, _⟩ := least_spec ha (least_true ha h)
  have hle : y ≤ aval b (leastr a y).1 := Int.le_trans a3 (under_aval hab _)
  have hyb : y ≤ Y b (b.length - 1) := by
    rcases Int.le_total (leastr a y).1 (X b (b.length - 1)) with h1 | h1
    · have := aval_mono hb h1
      rw [aval_point hb (by omega)] at this
      omega
    · rw [aval_right hb h1] at hle; exact hle
  obtain ⟨b0, b1, _, _, b4⟩ := least_spec hb hyb
  unfold least
  rw [if_pos ha, if_pos hb]
  refine ⟨b0, ?_⟩
  rcases Int.le_total (leastr b y).1 (leastr a y).1 with h1 | h1
  · exact h1
  · rcases Int.lt_or_eq_of_le h1 with h2 | h2
    · have := b4 _ a1 h2; omega
    · omega
theorem least_same {a b : List S37} (hab : under a b) (hba : under b a) (y : Int) : least a y = least b y := by
  cases h : (least a y).2 with
  | true =>
    obtain ⟨h1, h2⟩ := least_le hab h
    obtain ⟨_, h3⟩ := least_le hba h1
    exact Prod.ext (by omega) (by rw [h, h1])
  | false =>
    have h2 : (least b y).2 = false := by
      cases h3 : (least b y).2 with
      | false => rfl
      | true => rw [(least_le hba h3).1] at h; cases h
    rw [least_false h, least_false h2]
set_option linter.unusedSimpArgs false in
theorem CurveOrders (a b c : List S37) (x y : Int) (_ : a.length ≤ maxLen) (_ : b.length ≤ maxLen) (_ : c.length ≤ maxLen) (_ : (Lit.int .i64 x).wf = true) (_ : (Lit.int .i64 y).wf = true) :
    bournelaw10_CurveOrders.f a b c x y = some true := by
  unfold bournelaw10_CurveOrders.f bournelaw10_small.f
  simp only [Option.bind_some]
  by_cases h1 : (a.length : Int) > 40
  · rw [if_pos h1]
  by_cases h2 : (b.length : Int) > 40
  · rw [if_neg h1, if_pos h2]
  by_cases h3 : (c.length : Int) > 40
  · rw [if_neg h1, if_neg h2, if_pos h3]
  have la : a.length < 4611686018427387904 := by omega
  have lb : b.length < 4611686018427387904 := by omega
  have lc : c.length < 4611686018427387904 := by omega
  rw [if_neg h1, if_neg h2, if_neg h3]
  unfold curve_Least.f curve_Right.f curve_At.f curve_Under.f curve_Band.f
  by_cases ra : right a
  case neg => simp [la, ra]
  by_cases rb : right b
  case neg => simp [la, lb, ra, rb]
  by_cases rc : right c
  case neg => simp [la, lb, lc, ra, rb, rc]
  have raa := under_refl ra
  have hv : under a b → aval a x ≤ aval b x := fun h => under_aval h x
  have hw : under b a → aval b x ≤ aval a x := fun h => under_aval h x
  have mnb : ∀ u v : Int, u ≤ v → mn u v = u ∧ mx u v = v := by intro u v h; unfold mn mx; constructor <;> split <;> omega
  by_cases hab : under a b
  · have hv' := hv hab
    obtain ⟨m1, m2⟩ := mnb _ _ hv'
    have n1 : ¬ aval a x > aval b x := by omega
    have hle : (least a y).2 = true → (least b y).2 = true ∧ (least b y).1 ≤ (least a y).1 := fun h => least_le hab h
    have hac : under b c → under a c := fun h => under_trans hab h
    by_cases hba : under b a
    · have e1 : aval a x = aval b x := by have := hw hba; omega
      have e2 := least_same hab hba y
      rw [e1] at *
      rw [e2] at *
      obtain ⟨q1, q2⟩ := mnb (aval b x) (aval b x) (Int.le_refl _)
      by_cases hbc : under b c
      · have hac' := hac hbc
        cases hl : (least b y).2 <;> simp [la, lb, lc, ra, rb, rc, raa, hab, hba, hbc, hac', hl, q1, q2]
      · cases hl : (least b y).2 <;> simp [la, lb, lc, ra, rb, rc, raa, hab, hba, hbc, hl, q1, q2]
    · by_cases hbc : under b c
      · have hac' := hac hbc
        cases hl : (least a y).2
        · simp [la, lb, lc, ra, rb, rc, raa, hab, hba, hbc, hac', hl, m1, m2, hv']
        · obtain ⟨k1, k2⟩ := hle hl
          have n1 : ¬ aval b x < aval a x := by omega
          have n2 : ¬ (least a y).1 < (least b y).1 := by omega
          simp [la, lb, lc, ra, rb, rc, raa, hab, hba, hbc, hac', hl, m1, m2, n1, k1, n2]
      · cases hl : (least a y).2
        · simp [la, lb, lc, ra, rb, rc, raa, hab, hba, hbc, hl, m1, m2, hv']
        · obtain ⟨k1, k2⟩ := hle hl
          have n1 : ¬ aval b x < aval a x := by omega
          have n2 : ¬ (least a y).1 < (least b y).1 := by omega
          simp [la, lb, lc, ra, rb, rc, raa, hab, hba, hbc, hl, m1, m2, n1, k1, n2]
  · simp [la, lb, lc, ra, rb, rc, raa, hab]
end Go.Proofs.Ytoiclhdkgalhcaa.Pure
