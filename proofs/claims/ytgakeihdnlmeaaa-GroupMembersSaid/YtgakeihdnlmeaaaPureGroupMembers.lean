/- GroupMembers holds: of a residue and its negative exactly one is in the group; squares, powers of G, products and inverses of members are in it, a product of a member and another integer is not; every member is 1 to the power of Q. No conditions beyond the statement's own. -/
import Derived.Test.YtgakeihdnlmeaaaMx1
import Derived.Test.YtgakeihdnlmeaaaGl
namespace Go.Proofs.Ytgakeihdnlmeaaa.Pure
open Go.Proofs.Ytgakeihdnlmeaaa.S
open Go.RowKit Go.Proofs.Ytgakeihdnlmeaaa.M

theorem in_b {y : Int} (h0 : 0 < y) (h1 : y < 2305843009213691579) (b : Bool) (h : b = true ↔ B.Mem (B.rs y)) : group_In.f y = some b := by
  unfold group_In.f
  congr 1
  rw [Bool.eq_iff_iff, decide_eq_true_iff, B.in_iff h0 h1]
  exact h.symm

theorem rs_small {y : Int} (h0 : 0 ≤ y) (h1 : y < 2305843009213691579) : B.rs y = y.toNat := by
  unfold B.rs
  rw [Int.emod_eq_of_lt h0 h1]

theorem GroupMembers : bournelaw04_GroupMembers.Pure := by
  intro a b e w0 w1 w2
  have he := (i64b w2).2
  have x0 := Int.emod_nonneg a (show (2305843009213691579 : Int) ≠ 0 by decide)
  have x1 := Int.emod_lt_of_pos a (show (0 : Int) < 2305843009213691579 by decide)
  have y0 := Int.emod_nonneg b (show (2305843009213691579 : Int) ≠ 0 by decide)
  have y1 := Int.emod_lt_of_pos b (show (0 : Int) < 2305843009213691579 by decide)
  have i0 : group_In.f 0 = some false := by
    unfold group_In.f
    rw [decide_eq_false (fun h => absurd h.1 (by decide))]
  refine ⟨2, ?_⟩
  unfold bournelaw04_GroupMembers.f bournelaw04_small.f group_Mul.f
  rw [Option.bind_some, Option.bind_some, Option.bind_some, Int.mul_one, Int.mul_one]
  by_cases hx : a % 2305843009213691579 = 0
  · rw [if_pos hx, bournelaw04_GroupMembers.j0, if_pos rfl, if_pos rfl, i0]; rfl
  rw [if_neg hx]
  by_cases hy : b % 2305843009213691579 = 0
  · rw [beq_iff_eq.2 hy, bournelaw04_GroupMembers.j0, if_pos rfl, if_pos rfl, i0]; rfl
  rw [beq_eq_false_iff_ne.2 hy, bournelaw04_GroupMembers.j0, if_neg (by decide)]
  obtain ⟨x, hxe⟩ : ∃ x, a % 2305843009213691579 = x := ⟨_, rfl⟩
  obtain ⟨y, hye⟩ : ∃ y, b % 2305843009213691579 = y := ⟨_, rfl⟩
  rw [hxe] at x0 x1 hx ⊢
  rw [hye] at y0 y1 hy ⊢
  have hxm : x % 2305843009213691579 = x := Int.emod_eq_of_lt x0 x1
  have hym : y % 2305843009213691579 = y := Int.emod_eq_of_lt y0 y1
  have nx : ¬ 2305843009213691579 ∣ B.rs x := B.rs_ndvd (by rw [hxm]; exact hx)
  have ny : ¬ 2305843009213691579 ∣ B.rs y := B.rs_ndvd (by rw [hym]; exact hy)
  obtain ⟨p, hp⟩ : ∃ p : Bool, p = true ↔ B.Mem (B.rs x) := by
    by_cases h : B.Mem (B.rs x)
    · exact ⟨true, by simp [h]⟩
    · exact ⟨false, by simp [h]⟩
  obtain ⟨q, hq⟩ : ∃ q : Bool, q = true ↔ B.Mem (B.rs y) := by
    by_cases h : B.Mem (B.rs y)
    · exact ⟨true, by simp [h]⟩
    · exact ⟨false, by simp [h]⟩
  have inv : group_Inv.f x = some (B.ex x 2305843009213691577, true) := by
    unfold group_Inv.f
    rw [hxm, if_neg hx]
  have inx : group_In.f x = some p := in_b (by omega) x1 p hp
  have iny : group_In.f y = some q := in_b (by omega) y1 q hq
  have inn : group_In.f (wrap64 (2305843009213691579 - x)) = some (!p) := by
    rw [B.wrap_id (by omega) (by omega)]
    refine in_b (by omega) (by omega) _ ?_
    rw [rs_small (by omega) (by omega), show (2305843009213691579 - x).toNat = 2305843009213691579 - x.toNat by omega, B.mem_neg (by omega) (by omega), ← rs_small x0 x1, ← hp]
    cases p <;> simp
  have rng : ∀ c : Int, 0 ≤ c % 2305843009213691579 ∧ c % 2305843009213691579 < 2305843009213691579 := fun c => ⟨Int.emod_nonneg _ (by decide), Int.emod_lt_of_pos _ (by decide)⟩
  have inb : ∀ (c : Int) (v : Bool), c ≠ 0 → 0 ≤ c → c < 2305843009213691579 → (v = true ↔ B.Mem (B.rs c)) → group_In.f c = some v := fun c v h0 h1 h2 h3 => in_b (by omega) h2 v h3
  have nz : ∀ c : Int, ¬ 2305843009213691579 ∣ B.rs c → c % 2305843009213691579 ≠ 0 := by
    intro c h h0
    apply h
    unfold B.rs
    rw [h0]
    exact ⟨0, rfl⟩
  have nmul : ∀ c d : Int, ¬ 2305843009213691579 ∣ B.rs c → ¬ 2305843009213691579 ∣ B.rs d → c * d % 2305843009213691579 ≠ 0 := by
    intro c d hc hd h0
    have h1 := B.rs_mul c d
    rw [h0] at h1
    have h2 : B.rs 0 = 0 := rfl
    rw [h2] at h1
    rcases B.sf.pr.dvd_mul (Nat.dvd_of_mod_eq_zero h1.symm) with h | h
    · exact hc h
    · exact hd h
  have isq : group_In.f (x * x % 2305843009213691579) = some true := by
    refine inb _ _ (nmul x x nx nx) (rng _).1 (rng _).2 ?_
    rw [B.rs_mul]
    exact ⟨fun _ => B.mem_sq nx, fun _ => rfl⟩
  have ipw : group_In.f (B.ex 4 e) = some true := by
    have hr := B.ex_range 4 e
    refine inb _ _ ?_ hr.1 hr.2 ⟨fun _ => B.ex4_in e, fun _ => rfl⟩
    intro h
    have := B.ex_ne B.rs4 e
    rw [h] at this
    exact this (by decide)
  have ixy : group_In.f (x * y % 2305843009213691579) = some (p == q) := by
    refine inb _ _ (nmul x y nx ny) (rng _).1 (rng _).2 ?_
    rw [B.rs_mul, B.mem_mul nx ny, ← hp, ← hq]
    cases p <;> cases q <;> simp
  have imul := B.inv_mul (x := x) (by rw [hxm]; exact hx)
  have ni : ¬ 2305843009213691579 ∣ B.rs (B.ex x 2305843009213691577) := by
    intro h
    have h1 := B.rs_mul (B.ex x 2305843009213691577) x
    rw [imul, Nat.mod_eq_zero_of_dvd (Nat.dvd_mul_right_of_dvd h _)] at h1
    exact absurd h1 (by decide)
  have iin : group_In.f (B.ex x 2305843009213691577) = some p := by
    have hr := B.ex_range x 2305843009213691577
    refine inb _ _ ?_ hr.1 hr.2 ?_
    · intro h
      rw [h] at ni
      exact ni ⟨0, rfl⟩
    · have h1 := B.rs_mul (B.ex x 2305843009213691577) x
      have h2 := B.mem_mul ni nx
      rw [← h1, imul] at h2
      have h3 := h2.1 (show B.Mem (B.rs 1) from B.mem_one)
      rw [hp]
      exact h3.symm
  have hpow : group_Exp.f x 1152921504606845789 = some (if p then 1 else 2305843009213691578) := by
    unfold group_Exp.f
    rw [if_pos (by decide)]
    congr 1
    cases p with
    | true => exact (B.exQ_iff x).2 (hp.1 rfl)
    | false => exact B.exQ_neg (by rw [hxm]; exact hx) (fun h => Bool.false_ne_true (hp.2 h))
  have ina : group_In.f a = some (p && (a == x)) := by
    by_cases hax : a = x
    · rw [hax, inx, BEq.rfl, Bool.and_true]
    · unfold group_In.f
      rw [beq_eq_false_iff_ne.2 hax, Bool.and_false, decide_eq_false]
      intro h
      apply hax
      rw [← hxe, Int.emod_eq_of_lt (by omega) h.2.1]
  rw [inv, Option.bind_some, inx, Option.bind_some, inn, Option.bind_some]
  rw [if_pos (by cases p <;> rfl)]
  have mxx : group_Mul.f x x = some (x * x % 2305843009213691579) := rfl
  have mxy : group_Mul.f x y = some (x * y % 2305843009213691579) := rfl
  have mix : group_Mul.f (B.ex x 2305843009213691577) x = some 1 := by unfold group_Mul.f; rw [imul]
  have p4 : group_Exp.f 4 e = some (B.ex 4 e) := by unfold group_Exp.f; rw [if_pos he]
  rw [mxx, Option.bind_some, isq, Option.bind_some, if_pos rfl, p4, Option.bind_some, ipw, Option.bind_some, bournelaw04_GroupMembers.j1]
  rw [mxy, Option.bind_some, ixy, Option.bind_some, iny, Option.bind_some, if_pos (by simp), iin, Option.bind_some, if_pos (by simp), mix, Option.bind_some, hpow, Option.bind_some, if_pos rfl, if_pos rfl, if_pos rfl, if_pos rfl, ina]
  cases p with
  | true => rw [if_pos rfl, if_pos rfl, if_pos rfl, Option.bind_some]; simp
  | false => rw [if_neg (by decide), if_pos (by decide), Option.bind_some]; rfl

end Go.Proofs.Ytgakeihdnlmeaaa.Pure
