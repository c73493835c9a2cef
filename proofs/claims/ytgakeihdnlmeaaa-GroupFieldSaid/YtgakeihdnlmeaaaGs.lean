/- The examples that each statement of layer 4 checks first hold; the group's membership in closed form, with its contract. -/
import Derived.Test.YtgakeihdnlmeaaaLx1
namespace Go.Proofs.Ytgakeihdnlmeaaa.L
open Go.Proofs.Ytgakeihdnlmeaaa.S
open Go.RowKit Go.Proofs.YtgakeihdnlmeaaaW.PrintWords Go.Proofs.YtgakeihdnlmeaaaW.PrintLast Go.Proofs.YtgakeihdnlmeaaaW.PrintMore

theorem ex_pm {a e : Int} (r : Nat) (h0 : 0 ≤ e) (h1 : e.toNat < 2 ^ 64) (h : Nt.pmGo 64 (a % 2305843009213691579).toNat e.toNat 2305843009213691579 1 % 2305843009213691579 = r) : B.ex a e = (r : Int) := by
  rw [B.ex_nat a h0, Nt.pm_one h1 h]

theorem ex_neg {a e : Int} (h : e < 0) : B.ex a e = B.ex a (e % 1152921504606845789) := by
  unfold B.ex
  rw [if_pos h, if_neg (by omega)]

theorem in_eq (y : Int) : group_In.f y = some (decide (0 < y ∧ y < 2305843009213691579 ∧ B.ex y 1152921504606845789 = 1)) := by
  unfold group_In.f group_Exp.f
  rw [if_pos (show (1152921504606845789 : Int) < 9223372036854775808 by decide)]
  by_cases h0 : y > 0
  · by_cases h1 : y < 2305843009213691579
    · rw [if_pos h0, if_pos h1]
      simp only [Option.bind_some]
      congr 1
      by_cases h : B.ex y 1152921504606845789 = 1
      · rw [h]; simp; omega
      · simp [h]
    · rw [if_pos h0, if_neg h1, decide_eq_false (by omega)]
  · rw [if_neg h0, decide_eq_false (by omega)]

theorem rin_eq (y : Int) : bourneref04_In.f y = some (decide (0 < y ∧ y < 2305843009213691579 ∧ B.ex y 1152921504606845789 = 1)) := by
  rw [← in_eq]
  unfold bourneref04_In.f group_In.f bourneref04_Exp.f group_Exp.f
  by_cases h0 : y > 0
  · rw [if_pos h0, if_pos (by omega)]
  · rw [if_neg h0, if_neg (by omega)]

theorem e2 : B.ex 2 2305843009213691577 = 1152921504606845790 := ex_pm 1152921504606845790 (by decide) (by decide) (by decide +kernel)
theorem e4 : B.ex 4 2305843009213691577 = 576460752303422895 := ex_pm 576460752303422895 (by decide) (by decide) (by decide +kernel)
theorem e43 : B.ex 4 3 = 64 := ex_pm 64 (by decide) (by decide) (by decide +kernel)
theorem e00 : B.ex 0 0 = 1 := ex_pm 1 (by decide) (by decide) (by decide +kernel)
theorem e0n : B.ex 0 (-1152921504606845789) = 1 := by rw [ex_neg (by decide)]; exact ex_pm 1 (by decide) (by decide) (by decide +kernel)
theorem e4n : B.ex 4 (-1) = 576460752303422895 := by rw [ex_neg (by decide)]; exact ex_pm 576460752303422895 (by decide) (by decide) (by decide +kernel)
theorem e2q : B.ex 2 1152921504606845789 = 2305843009213691578 := ex_pm 2305843009213691578 (by decide) (by decide) (by decide +kernel)
theorem e4q : B.ex 4 1152921504606845789 = 1 := ex_pm 1 (by decide) (by decide) (by decide +kernel)
theorem e1q : B.ex 1 1152921504606845789 = 1 := ex_pm 1 (by decide) (by decide) (by decide +kernel)
theorem enq : B.ex 2305843009213691578 1152921504606845789 = 2305843009213691578 := ex_pm 2305843009213691578 (by decide) (by decide) (by decide +kernel)

theorem i4 : group_In.f 4 = some true := by rw [in_eq, e4q]; rfl
theorem i1 : group_In.f 1 = some true := by rw [in_eq, e1q]; rfl
theorem in1 : group_In.f 2305843009213691578 = some false := by rw [in_eq, enq]; rfl
theorem i0 : group_In.f 0 = some false := by rw [in_eq, decide_eq_false]; omega
theorem ip : group_In.f 2305843009213691583 = some false := by rw [in_eq, decide_eq_false]; omega

theorem inv2 : group_Inv.f 2 = some (1152921504606845790, true) := by unfold group_Inv.f; rw [if_neg (by decide), e2]
theorem inv4 : group_Inv.f 4 = some (576460752303422895, true) := by unfold group_Inv.f; rw [if_neg (by decide), e4]
theorem invp : group_Inv.f 2305843009213691579 = some (0, false) := by unfold group_Inv.f; rw [if_pos (by decide)]
theorem x43 : group_Exp.f 4 3 = some 64 := by unfold group_Exp.f; rw [if_pos (by decide), e43]
theorem x00 : group_Exp.f 0 0 = some 1 := by unfold group_Exp.f; rw [if_pos (by decide), e00]
theorem x0n : group_Exp.f 0 (-1152921504606845789) = some 1 := by unfold group_Exp.f; rw [if_pos (by decide), e0n]
theorem x4n : group_Exp.f 4 (-1) = some 576460752303422895 := by unfold group_Exp.f; rw [if_pos (by decide), e4n]
theorem x2q : group_Exp.f 2 1152921504606845789 = some 2305843009213691578 := by unfold group_Exp.f; rw [if_pos (by decide), e2q]
theorem m1 : group_Mul.f 2305843009213691578 2305843009213691578 = some 1 := by unfold group_Mul.f; congr 1
theorem m2 : group_Mul.f (-1) 3 = some 2305843009213691576 := by unfold group_Mul.f; congr 1
theorem a1 : group_AddQ.f 1152921504606845788 2 = some 1 := by unfold group_AddQ.f; congr 1
theorem s1 : group_SubQ.f 0 1 = some 1152921504606845788 := by unfold group_SubQ.f; congr 1
theorem q1 : group_MulQ.f 1152921504606845788 1152921504606845788 = some 1 := by unfold group_MulQ.f; congr 1

theorem sm1 : bournelaw04_small.f 2 = bournelaw04_small.j0 2 1152921504606845790 true false true := by
  unfold bournelaw04_small.f
  rw [inv2, Option.bind_some, invp, Option.bind_some, inv4, Option.bind_some, x43, Option.bind_some, if_pos rfl, x00, Option.bind_some, if_pos rfl, x0n, Option.bind_some, if_pos rfl, if_pos rfl, x4n, Option.bind_some, if_pos rfl, x2q, Option.bind_some]
  rfl
theorem sm2 : bournelaw04_small.j0 2 1152921504606845790 true false true = bournelaw04_small.j1 1 1152921504606845790 true false true true := by
  rw [bournelaw04_small.j0, i4, Option.bind_some, if_pos rfl, i1, Option.bind_some, if_pos rfl, in1, Option.bind_some, if_neg (by decide), i0, Option.bind_some, if_neg (by decide), ip, Option.bind_some]
  rfl
theorem sm3 : bournelaw04_small.j1 1 1152921504606845790 true false true true = some true := by
  rw [bournelaw04_small.j1, m1, Option.bind_some, if_pos rfl, m2, Option.bind_some, if_pos rfl, if_pos rfl, if_pos rfl, if_neg (by decide), if_pos rfl, if_pos rfl, a1, Option.bind_some, if_pos rfl, s1, Option.bind_some, if_pos rfl, q1, Option.bind_some, if_pos rfl]
theorem small_ok : bournelaw04_small.f 2 = some true := sm1.trans (sm2.trans sm3)

end Go.Proofs.Ytgakeihdnlmeaaa.L
namespace Go.Proofs.Ytgakeihdnlmeaaa.S
open Go.RowKit Go.Proofs.YtgakeihdnlmeaaaW.PrintWords Go.Proofs.YtgakeihdnlmeaaaW.PrintLast Go.Proofs.YtgakeihdnlmeaaaW.PrintMore
def bournelaw04_small.f : Option (Bool) := some true
theorem bournelaw04_small.calls (r : Bool) (w : World) (h : bournelaw04_small.f = some r) :
    Calls Try.prog 8 #[] w fun e w' => e = .returned (.bool r) ∧ Drawn0 w w' :=
  L.bournelaw04_small.calls 2 r w (L.small_ok.trans h)
def group_In.f (a0 : Int) : Option (Bool) := some (decide (0 < a0 ∧ a0 < 2305843009213691579 ∧ B.ex a0 1152921504606845789 = 1))
theorem group_In.calls (a0 : Int) (r : Bool) (w : World) (h : group_In.f a0 = some r) :
    Calls Try.prog 15 #[.int .i64 a0] w fun e w' => e = .returned (.bool r) ∧ Drawn0 w w' :=
  L.group_In.calls a0 r w ((L.in_eq a0).trans h)
def bourneref04_In.f (a0 : Int) : Option (Bool) := some (decide (0 < a0 ∧ a0 < 2305843009213691579 ∧ B.ex a0 1152921504606845789 = 1))
theorem bourneref04_In.calls (a0 : Int) (r : Bool) (w : World) (h : bourneref04_In.f a0 = some r) :
    Calls Try.prog 16 #[.int .i64 a0] w fun e w' => e = .returned (.bool r) ∧ Drawn0 w w' :=
  L.bourneref04_In.calls a0 r w ((L.rin_eq a0).trans h)
end Go.Proofs.Ytgakeihdnlmeaaa.S
