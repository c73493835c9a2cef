-- Written by a program of this session (wip/tools/pp.py) out of the translation; Lean checks it.
import Derived.Test.YtoiclhdkgalhcaaLx0
import Derived.Test.YtoiclhdkgalhcaaQd
import Derived.Test.YtoiclhdkgalhcaaXw
namespace Go.Proofs.Ytoiclhdkgalhcaa.L
open Go.RowKit Go.Proofs.YtoiclhdkgalhcaaW.PrintWords Go.Proofs.YtoiclhdkgalhcaaW.PrintLast Go.Proofs.YtoiclhdkgalhcaaW.PrintMore
open Go.Proofs.Ytoiclhdkgalhcaa.S
attribute [local go_sem] max2_int min2_int max_two min_two max_three min_three max_four min_four   -- for this text's walks alone
set_option linter.unusedVariables false
set_option linter.unnecessarySimpa false
set_option linter.unusedSimpArgs false

/-! ### bournelaw10_CurveSlopes: function 5 -/
def bournelaw10_CurveSlopes.l0 : Nat → List (S37) → Int → Int → Int → Int → Bool → Bool → Int → Option (Bool)
 | 0, _, _, _, _, _, _, _, _ => none
 | k + 1, x0, x1, x2, x3, x4, x11, x12, x13 => if x13 < (x0.length : Int) then ((curve_Right.f x0).bind fun t105 => (if t105 = true then (if 0 ≤ (wrap64 (x13 - 1)) then (if (wrap64 (x13 - 1)) ≤ (wrap64 (x13 + 1)) then (if (wrap64 (x13 + 1)) ≤ (x0.length : Int) then ((curve_Slope.f ((x0.take ((wrap64 (x13 + 1)) : Int).toNat).drop ((wrap64 (x13 - 1)) : Int).toNat) x1 x2).bind fun t110 => (if x12 = true then (if t110 = true then (bournelaw10_CurveSlopes.l0 k x0 x1 x2 x3 x4 x11 x12 (wrap64 (x13 + 1))) else (some false)) else (bournelaw10_CurveSlopes.l0 k x0 x1 x2 x3 x4 x11 x12 (wrap64 (x13 + 1))))) else (none)) else (none)) else (none)) else (if x12 = true then ((exact_Scale.f x4 x1 x2).bind fun bt111 => (if bt111.2.1 > 0 then (if x11 = true then (if bt111.2.2 = true then ((curve_At.f x0 (wrap64 (x3 + x4))).bind fun t114 => ((curve_At.f x0 x3).bind fun t115 => (some (decide ((wrap64 (t114 - t115)) ≤ (wrap64 (bt111.1 + 1))))))) else (some true)) else (some false)) else (if x11 = true then (if bt111.2.2 = true then ((curve_At.f x0 (wrap64 (x3 + x4))).bind fun t116 => ((curve_At.f x0 x3).bind fun t117 => (some (decide ((wrap64 (t116 - t117)) ≤ bt111.1))))) else (some true)) else (some false)))) else (some x11)))) else (if x12 = true then ((exact_Scale.f x4 x1 x2).bind fun bt118 => (if bt118.2.1 > 0 then (if x11 = true then (if bt118.2.2 = true then ((curve_At.f x0 (wrap64 (x3 + x4))).bind fun t121 => ((curve_At.f x0 x3).bind fun t122 => (some (decide ((wrap64 (t121 - t122)) ≤ (wrap64 (bt118.1 + 1))))))) else (some true)) else (some false)) else (if x11 = true then (if bt118.2.2 = true then ((curve_At.f x0 (wrap64 (x3 + x4))).bind fun t123 => ((curve_At.f x0 x3).bind fun t124 => (some (decide ((wrap64 (t123 - t124)) ≤ bt118.1))))) else (some true)) else (some false)))) else (some x11))
def bournelaw10_CurveSlopes.f (k : Nat) (l0 : List (S37)) (a1 : Int) (a2 : Int) (a3 : Int) (a4 : Int) : Option (Bool) := (bournelaw10_small.f).bind fun t101 => (if (l0.length : Int) > 40 then (some t101) else (if a3 < 0 then (some t101) else (if a3 > 1125899906842624 then (some t101) else (if a4 < 0 then (some t101) else (if a4 > 1125899906842624 then (some t101) else ((curve_Slope.f l0 a1 a2).bind fun t102 => (if t102 = true then (if a1 < 1125899906842624 then ((curve_Slope.f l0 (wrap64 (a1 + 1)) a2).bind fun t103 => (if t103 = true then (if a2 > 1 then ((curve_Slope.f l0 a1 (wrap64 (a2 - 1))).bind fun t104 => (if t104 = true then (bournelaw10_CurveSlopes.l0 k l0 a1 a2 a3 a4 t101 t102 1) else (some false))) else (bournelaw10_CurveSlopes.l0 k l0 a1 a2 a3 a4 t101 t102 1)) else (some false))) else (if a2 > 1 then ((curve_Slope.f l0 a1 (wrap64 (a2 - 1))).bind fun t125 => (if t125 = true then (bournelaw10_CurveSlopes.l0 k l0 a1 a2 a3 a4 t101 t102 1) else (some false))) else (bournelaw10_CurveSlopes.l0 k l0 a1 a2 a3 a4 t101 t102 1))) else (bournelaw10_CurveSlopes.l0 k l0 a1 a2 a3 a4 t101 t102 1))))))))
set_option maxHeartbeats 8000000 in
set_option maxRecDepth 100000 in
theorem bournelaw10_CurveSlopes.calls (k : Nat) (A0 : Option Addr) (c0 : Nat) (l0 : List (S37)) (a1 : Int) (a2 : Int) (a3 : Int) (a4 : Int) (r : Bool) (w : World) (hr0 : Kd.C k37 w A0 l0.length l0) (hc0 : l0.length ≤ c0) (h : bournelaw10_CurveSlopes.f k l0 a1 a2 a3 a4 = some r) (hr : Aside0 (r = true)) :
  Calls Try.prog 5 #[.slice A0 l0.length c0, .int .i64 a1, .int .i64 a2, .int .i64 a3, .int .i64 a4] w fun e w' => e = .returned (.bool r) ∧ Below w.heap.size w w' := by
 have HR0 := Aside0.mk hr0
 have HC0 := Aside0.mk hc0
 clear hr0 hc0
 have HB := Aside0.mk (Below.refl w.heap.size w)
 have H : ((bournelaw10_small.f).bind fun t101 => (if (l0.length : Int) > 40 then (some t101) else (if a3 < 0 then (some t101) else (if a3 > 1125899906842624 then (some t101) else (if a4 < 0 then (some t101) else (if a4 > 1125899906842624 then (some t101) else ((curve_Slope.f l0 a1 a2).bind fun t102 => (if t102 = true then (if a1 < 1125899906842624 then ((curve_Slope.f l0 (wrap64 (a1 + 1)) a2).bind fun t103 => (if t103 = true then (if a2 > 1 then ((curve_Slope.f l0 a1 (wrap64 (a2 - 1))).bind fun t104 => (if t104 = true then (bournelaw10_CurveSlopes.l0 k l0 a1 a2 a3 a4 t101 t102 1) else (some false))) else (bournelaw10_CurveSlopes.l0 k l0 a1 a2 a3 a4 t101 t102 1)) else (some false))) else (if a2 > 1 then ((curve_Slope.f l0 a1 (wrap64 (a2 - 1))).bind fun t125 => (if t125 = true then (bournelaw10_CurveSlopes.l0 k l0 a1 a2 a3 a4 t101 t102 1) else (some false))) else (bournelaw10_CurveSlopes.l0 k l0 a1 a2 a3 a4 t101 t102 1))) else (bournelaw10_CurveSlopes.l0 k l0 a1 a2 a3 a4 t101 t102 1))))))))) = some r := h
 clear h
 replace H := Option.bind_eq_some_iff.mp H
 obtain ⟨t101, A60, H⟩ := H
 replace H : (if (l0.length : Int) > 40 then (some t101) else (if a3 < 0 then (some t101) else (if a3 > 1125899906842624 then (some t101) else (if a4 < 0 then (some t101) else (if a4 > 1125899906842624 then (some t101) else ((curve_Slope.f l0 a1 a2).bind fun t102 => (if t102 = true then (if a1 < 1125899906842624 then ((curve_Slope.f l0 (wrap64 (a1 + 1)) a2).bind fun t103 => (if t103 = true then (if a2 > 1 then ((curve_Slope.f l0 a1 (wrap64 (a2 - 1))).bind fun t104 => (if t104 = true then (bournelaw10_CurveSlopes.l0 k l0 a1 a2 a3 a4 t101 t102 1) else (some false))) else (bournelaw10_CurveSlopes.l0 k l0 a1 a2 a3 a4 t101 t102 1)) else (some false))) else (if a2 > 1 then ((curve_Slope.f l0 a1 (wrap64 (a2 - 1))).bind fun t125 => (if t125 = true then (bournelaw10_CurveSlopes.l0 k l0 a1 a2 a3 a4 t101 t102 1) else (some false))) else (bournelaw10_CurveSlopes.l0 k l0 a1 a2 a3 a4 t101 t102 1))) else (bournelaw10_CurveSlopes.l0 k l0 a1 a2 a3 a4 t101 t102 1)))))))) = some r := H
 have A6 := Aside0.mk A60
 clear A60
 by_cases c7 : (l0.length : Int) > 40
 ·rw [if_pos c7] at H
  have c7b0 : decide (40 < (l0.length : Int)) = true := decide_eq_true c7
  have c7b1 : decide (40 < l0.length) = true := decide_eq_true (by omega)
  clear c7
  obtain rfl := Option.some.inj H
  go_enter Try.func5, Try.ntmps5
  go_wp2_with (first | ((with_reducible refine gate_callee (f := 8) rfl ?_); refine goesL_ (some 18) rfl rfl Try.func8 (by kernel_rfl) rfl #[] rfl (by first | done | rfl) ?_; (with_reducible refine (bournelaw10_small.calls  t101 _ A6.out).mono ?_); rintro e w8 ⟨rfl, hb⟩; refine ⟨_, rfl, ?_⟩; have n0_ := Aside0.mk (below_step ahx hb); clear HB; have HB := n0_; clear n0_; (try clear hb); (try clear hb2); (try clear hk); (try clear hi)) | (go_at_call 8; (with_reducible refine (bournelaw10_small.calls  t101 _ A6.out).mono ?_); rintro e w8 ⟨rfl, hb⟩; have n0_ := Aside0.mk (below_step ahx hb); clear HB; have HB := n0_; clear n0_; (try clear hb); (try clear hb2); (try clear hk); (try clear hi)))
  go_ret
  exact ⟨by first | rfl | (simp [errW_none, errW_some] <;> rfl) | (simp [*, errW_none, errW_some] <;> rfl), ahx⟩
 ·rw [if_neg c7] at H
  have c7b0 : decide (40 < (l0.length : Int)) = false := decide_eq_false c7
  have c7b1 : decide (40 < l0.length) = false := decide_eq_false (by omega)
  clear c7
  by_cases c9 : a3 < 0
  ·rw [if_pos c9] at H
   have c9b0 : decide (a3 < 0) = true := decide_eq_true c9
   clear c9
   obtain rfl := Option.some.inj H
   go_enter Try.func5, Try.ntmps5
   go_wp2_with (first | ((with_reducible refine gate_callee (f := 8) rfl ?_); refine goesL_ (some 18) rfl rfl Try.func8 (by kernel_rfl) rfl #[] rfl (by first | done | rfl) ?_; (with_reducible refine (bournelaw10_small.calls  t101 _ A6.out).mono ?_); rintro e w10 ⟨rfl, hb⟩; refine ⟨_, rfl, ?_⟩; have n0_ := Aside0.mk (below_step ahx hb); clear HB; have HB := n0_; clear n0_; (try clear hb); (try clear hb2); (try clear hk); (try clear hi)) | (go_at_call 8; (with_reducible refine (bournelaw10_small.calls  t101 _ A6.out).mono ?_); rintro e w10 ⟨rfl, hb⟩; have n0_ := Aside0.mk (below_step ahx hb); clear HB; have HB := n0_; clear n0_; (try clear hb); (try clear hb2); (try clear hk); (try clear hi)))
   go_ret
   exact ⟨by first | rfl | (simp [errW_none, errW_some] <;> rfl) | (simp [*, errW_none, errW_some] <;> rfl), ahx⟩
  ·rw [if_neg c9] at H
   have c9b0 : decide (a3 < 0) = false := decide_eq_false c9
   clear c9
   by_cases c11 : a3 > 1125899906842624
   ·rw [if_pos c11] at H
    have c11b0 : decide (1125899906842624 < a3) = true := decide_eq_true c11
    clear c11
    obtain rfl := Option.some.inj H
    go_enter Try.func5, Try.ntmps5
    go_wp2_with (first | ((with_reducible refine gate_callee (f := 8) rfl ?_); refine goesL_ (some 18) rfl rfl Try.func8 (by kernel_rfl) rfl #[] rfl (by first | done | rfl) ?_; (with_reducible refine (bournelaw10_small.calls  t101 _ A6.out).mono ?_); rintro e w12 ⟨rfl, hb⟩; refine ⟨_, rfl, ?_⟩; have n0_ := Aside0.mk (below_step ahx hb); clear HB; have HB := n0_; clear n0_; (try clear hb); (try clear hb2); (try clear hk); (try clear hi)) | (go_at_call 8; (with_reducible refine (bournelaw10_small.calls  t101 _ A6.out).mono ?_); rintro e w12 ⟨rfl, hb⟩; have n0_ := Aside0.mk (below_step ahx hb); clear HB; have HB := n0_; clear n0_; (try clear hb); (try clear hb2); (try clear hk); (try clear hi)))
    go_ret
    exact ⟨by first | rfl | (simp [errW_none, errW_some] <;> rfl) | (simp [*, errW_none, errW_some] <;> rfl), ahx⟩
   ·rw [if_neg c11] at H
    have c11b0 : decide (1125899906842624 < a3) = false := decide_eq_false c11
    clear c11
    by_cases c13 : a4 < 0
    ·rw [if_pos c13] at H
     have c13b0 : decide (a4 < 0) = true := decide_eq_true c13
     clear c13
     obtain rfl := Option.some.inj H
     go_enter Try.func5, Try.ntmps5
     go_wp2_with (first | ((with_reducible refine gate_callee (f := 8) rfl ?_); refine goesL_ (some 18) rfl rfl Try.func8 (by kernel_rfl) rfl #[] rfl (by first | done | rfl) ?_; (with_reducible refine (bournelaw10_small.calls  t101 _ A6.out).mono ?_); rintro e w14 ⟨rfl, hb⟩; refine ⟨_, rfl, ?_⟩; have n0_ := Aside0.mk (below_step ahx hb); clear HB; have HB := n0_; clear n0_; (try clear hb); (try clear hb2); (try clear hk); (try clear hi)) | (go_at_call 8; (with_reducible refine (bournelaw10_small.calls  t101 _ A6.out).mono ?_); rintro e w14 ⟨rfl, hb⟩; have n0_ := Aside0.mk (below_step ahx hb); clear HB; have HB := n0_; clear n0_; (try clear hb); (try clear hb2); (try clear hk); (try clear hi)))
     go_ret
     exact ⟨by first | rfl | (simp [errW_none, errW_some] <;> rfl) | (simp [*, errW_none, errW_some] <;> rfl), ahx⟩
    ·rw [if_neg c13] at H
     have c13b0 : decide (a4 < 0) = false := decide_eq_false c13
     clear c13
     by_cases c15 : a4 > 1125899906842624
     ·rw [if_pos c15] at H
      have c15b0 : decide (1125899906842624 < a4) = true := decide_eq_true c15
      clear c15
      obtain rfl := Option.some.inj H
      go_enter Try.func5, Try.ntmps5
      go_wp2_with (first | ((with_reducible refine gate_callee (f := 8) rfl ?_); refine goesL_ (some 18) rfl rfl Try.func8 (by kernel_rfl) rfl #[] rfl (by first | done | rfl) ?_; (with_reducible refine (bournelaw10_small.calls  t101 _ A6.out).mono ?_); rintro e w16 ⟨rfl, hb⟩; refine ⟨_, rfl, ?_⟩; have n0_ := Aside0.mk (below_step ahx hb); clear HB; have HB := n0_; clear n0_; (try clear hb); (try clear hb2); (try clear hk); (try clear hi)) | (go_at_call 8; (with_reducible refine (bournelaw10_small.calls  t101 _ A6.out).mono ?_); rintro e w16 ⟨rfl, hb⟩; have n0_ := Aside0.mk (below_step ahx hb); clear HB; have HB := n0_; clear n0_; (try clear hb); (try clear hb2); (try clear hk); (try clear hi)))
      go_ret
      exact ⟨by first | rfl | (simp [errW_none, errW_some] <;> rfl) | (simp [*, errW_none, errW_some] <;> rfl), ahx⟩
     ·rw [if_neg c15] at H
      have c15b0 : decide (1125899906842624 < a4) = false := decide_eq_false c15
      clear c15
      replace H := Option.bind_eq_some_iff.mp H
      obtain ⟨t102, A170, H⟩ := H
      replace H : (if t102 = true then (if a1 < 1125899906842624 then ((curve_Slope.f l0 (wrap64 (a1 + 1)) a2).bind fun t103 => (if t103 = true then (if a2 > 1 then ((curve_Slope.f l0 a1 (wrap64 (a2 - 1))).bind fun t104 => (if t104 = true then (bournelaw10_CurveSlopes.l0 k l0 a1 a2 a3 a4 t101 t102 1) else (some false))) else (bournelaw10_CurveSlopes.l0 k l0 a1 a2 a3 a4 t101 t102 1)) else (some false))) else (if a2 > 1 then ((curve_Slope.f l0 a1 (wrap64 (a2 - 1))).bind fun t125 => (if t125 = true then (bournelaw10_CurveSlopes.l0 k l0 a1 a2 a3 a4 t101 t102 1) else (some false))) else (bournelaw10_CurveSlopes.l0 k l0 a1 a2 a3 a4 t101 t102 1))) else (bournelaw10_CurveSlopes.l0 k l0 a1 a2 a3 a4 t101 t102 1)) = some r := H
      have A17 := Aside0.mk A170
      clear A170
      by_cases c18 : t102 = true
      ·subst c18
       have H1 : (if a1 < 1125899906842624 then ((curve_Slope.f l0 (wrap64 (a1 + 1)) a2).bind fun t103 => (if t103 = true then (if a2 > 1 then ((curve_Slope.f l0 a1 (wrap64 (a2 - 1))).bind fun t104 => (if t104 = true then (bournelaw10_CurveSlopes.l0 k l0 a1 a2 a3 a4 t101 true 1) else (some false))) else (bournelaw10_CurveSlopes.l0 k l0 a1 a2 a3 a4 t101 true 1)) else (some false))) else (if a2 > 1 then ((curve_Slope.f l0 a1 (wrap64 (a2 - 1))).bind fun t125 => (if t125 = true then (bournelaw10_CurveSlopes.l0 k l0 a1 a2 a3 a4 t101 true 1) else (some false))) else (bournelaw10_CurveSlopes.l0 k l0 a1 a2 a3 a4 t101 true 1))) = some r := by rw [if_pos rfl] at H; exact H
       clear H
       have H := H1
       clear H1
       by_cases c19 : a1 < 1125899906842624
       ·rw [if_pos c19] at H
        have c19b0 : decide (a1 < 1125899906842624) = true := decide_eq_true c19
        clear c19
        replace H := Option.bind_eq_some_iff.mp H
        obtain ⟨t103, A200, H⟩ := H
        replace H : (if t103 = true then (if a2 > 1 then ((curve_Slope.f l0 a1 (wrap64 (a2 - 1))).bind fun t104 => (if t104 = true then (bournelaw10_CurveSlopes.l0 k l0 a1 a2 a3 a4 t101 true 1) else (some false))) else (bournelaw10_CurveSlopes.l0 k l0 a1 a2 a3 a4 t101 true 1)) else (some false)) = some r := H
        have A20 := Aside0.mk A200
        clear A200
        by_cases c21 : t103 = true
        ·subst c21
         have H1 : (if a2 > 1 then ((curve_Slope.f l0 a1 (wrap64 (a2 - 1))).bind fun t104 => (if t104 = true then (bournelaw10_CurveSlopes.l0 k l0 a1 a2 a3 a4 t101 true 1) else (some false))) else (bournelaw10_CurveSlopes.l0 k l0 a1 a2 a3 a4 t101 true 1)) = some r := by rw [if_pos rfl] at H; exact H
         clear H
         have H := H1
         clear H1
         by_cases c22 : a2 > 1
         ·rw [if_pos c22] at H
          have c22b0 : decide (1 < a2) = true := decide_eq_true c22
          clear c22
          replace H := Option.bind_eq_some_iff.mp H
          obtain ⟨t104, A230, H⟩ := H
          replace H : (if t104 = true then (bournelaw10_CurveSlopes.l0 k l0 a1 a2 a3 a4 t101 true 1) else (some false)) = some r := H
          have A23 := Aside0.mk A230
          clear A230
          by_cases c24 : t104 = true
          ·subst c24
           have H1 : (bournelaw10_CurveSlopes.l0 k l0 a1 a2 a3 a4 t101 true 1) = some r := by rw [if_pos rfl] at H; exact H
           clear H
           have H := H1
           clear H1
           have H' := Aside0.mk H
           clear H
           go_enter Try.func5, Try.ntmps5
           go_wp2_with (first | ((with_reducible refine gate_callee (f := 8) rfl ?_); refine goesL_ (some 18) rfl rfl Try.func8 (by kernel_rfl) rfl #[] rfl (by first | done | rfl) ?_; (with_reducible refine (bournelaw10_small.calls  t101 _ A6.out).mono ?_); rintro e w25 ⟨rfl, hb⟩; refine ⟨_, rfl, ?_⟩; have n0_ := Aside0.mk (below_step ahx hb); clear HB; have HB := n0_; clear n0_; (try clear hb); (try clear hb2); (try clear hk); (try clear hi)) | (go_at_call 8; (with_reducible refine (bournelaw10_small.calls  t101 _ A6.out).mono ?_); rintro e w25 ⟨rfl, hb⟩; have n0_ := Aside0.mk (below_step ahx hb); clear HB; have HB := n0_; clear n0_; (try clear hb); (try clear hb2); (try clear hk); (try clear hi)) | ((with_reducible refine gate_callee (f := 15) rfl ?_); refine goesL_ (some 42) rfl rfl Try.func15 (by kernel_rfl) rfl #[.slice A0 l0.length c0, .int .i64 a1, .int .i64 a2] rfl (by first | done | rfl) ?_; (with_reducible refine (curve_Slope.calls _ _ l0 a1 a2 true _ ?side1 ?side2 A17.out).mono ?_); (case side1 => repeat (first | exact (Kd.C_below HR0.out HB.out) | (with_reducible refine Kd.C_alloc ?_ _) | (with_reducible refine Kd.C_drewN ?_ _) | (with_reducible refine Kd.C_drew ?_))); (case side2 => exact HC0.out); rintro e w26 ⟨rfl, hb⟩; refine ⟨_, rfl, ?_⟩; have n0_ := Aside0.mk (below_step ahx hb); clear HB; have HB := n0_; clear n0_; (try clear hb); (try clear hb2); (try clear hk); (try clear hi)) | (go_at_call 15; (with_reducible refine (curve_Slope.calls _ _ l0 a1 a2 true _ ?side1 ?side2 A17.out).mono ?_); (case side1 => repeat (first | exact (Kd.C_below HR0.out HB.out) | (with_reducible refine Kd.C_alloc ?_ _) | (with_reducible refine Kd.C_drewN ?_ _) | (with_reducible refine Kd.C_drew ?_))); (case side2 => exact HC0.out); rintro e w26 ⟨rfl, hb⟩; have n0_ := Aside0.mk (below_step ahx hb); clear HB; have HB := n0_; clear n0_; (try clear hb); (try clear hb2); (try clear hk); (try clear hi)) | (go_at_call 15; (with_reducible refine (curve_Slope.calls _ _ l0 (wrap64 (a1 + 1)) a2 true _ ?side1 ?side2 A20.out).mono ?_); (case side1 => repeat (first | exact (Kd.C_below HR0.out HB.out) | (with_reducible refine Kd.C_alloc ?_ _) | (with_reducible refine Kd.C_drewN ?_ _) | (with_reducible refine Kd.C_drew ?_))); (case side2 => exact HC0.out); rintro e w27 ⟨rfl, hb⟩; have n0_ := Aside0.mk (below_step ahx hb); clear HB; have HB := n0_; clear n0_; (try clear hb); (try clear hb2); (try clear hk); (try clear hi)) | (go_at_call 15; (with_reducible refine (curve_Slope.calls _ _ l0 a1 (wrap64 (a2 - 1)) true _ ?side1 ?side2 A23.out).mono ?_); (case side1 => repeat (first | exact (Kd.C_below HR0.out HB.out) | (with_reducible refine Kd.C_alloc ?_ _) | (with_reducible refine Kd.C_drewN ?_ _) | (with_reducible refine Kd.C_drew ?_))); (case side2 => exact HC0.out); rintro e w28 ⟨rfl, hb⟩; have n0_ := Aside0.mk (below_step ahx hb); clear HB; have HB := n0_; clear n0_; (try clear hb); (try clear hb2); (try clear hk); (try clear hi)))
           go_loopg [13] k (fun kq v13 w' => ∃ (x13_1 : Int), v13 = .int .i64 x13_1 ∧ Aside0 (bournelaw10_CurveSlopes.l0 kq l0 a1 a2 a3 a4 t101 true x13_1 = some r) ∧ Aside0 (kq ≤ k) ∧ Aside0 (Below w.heap.size w w'))
           case atStart => exact ⟨(1), (by first | rfl | (simp; done) | (simp [*]; done)), H', ⟨Nat.le_refl _⟩, ⟨ahx⟩⟩
           case round =>
            clear H'
            try clear c1
            try clear c2
            try clear p2
            try clear c5
            try clear p6
            try clear c7
            try clear c7b0
            try clear c7b1
            try clear c8
            try clear c9
            try clear c9b0
            try clear c11
            try clear c11b0
            try clear c13
            try clear c13b0
            try clear c15
            try clear c15b0
            try clear c18
            try clear c19
            try clear c19b0
            try clear c21
            try clear c22
            try clear c22b0
            try clear c24
            obtain ⟨x13_1, rfl, HA, HK1, HB⟩ := hrel
            cases gk with
            | zero => exact absurd HA.out (by simp [bournelaw10_CurveSlopes.l0])
            | succ k1 =>
             have H := HA.out
             clear HA
             simp only [bournelaw10_CurveSlopes.l0] at H
             by_cases c29 : x13_1 < (l0.length : Int)
             ·rw [if_pos c29] at H
              have c29b0 : decide (x13_1 < (l0.length : Int)) = true := decide_eq_true c29
              clear c29
              replace H := Option.bind_eq_some_iff.mp H
              obtain ⟨t105, A300, H⟩ := H
              replace H : (if t105 = true then (if 0 ≤ (wrap64 (x13_1 - 1)) then (if (wrap64 (x13_1 - 1)) ≤ (wrap64 (x13_1 + 1)) then (if (wrap64 (x13_1 + 1)) ≤ (l0.length : Int) then ((curve_Slope.f ((l0.take ((wrap64 (x13_1 + 1)) : Int).toNat).drop ((wrap64 (x13_1 - 1)) : Int).toNat) a1 a2).bind fun t110 => (if true = true then (if t110 = true then (bournelaw10_CurveSlopes.l0 k1 l0 a1 a2 a3 a4 t101 true (wrap64 (x13_1 + 1))) else (some false)) else (bournelaw10_CurveSlopes.l0 k1 l0 a1 a2 a3 a4 t101 true (wrap64 (x13_1 + 1))))) else (none)) else (none)) else (none)) else (if true = true then ((exact_Scale.f a4 a1 a2).bind fun bt111 => (if bt111.2.1 > 0 then (if t101 = true then (if bt111.2.2 = true then ((curve_At.f l0 (wrap64 (a3 + a4))).bind fun t114 => ((curve_At.f l0 a3).bind fun t115 => (some (decide ((wrap64 (t114 - t115)) ≤ (wrap64 (bt111.1 + 1))))))) else (some true)) else (some false)) else (if t101 = true then (if bt111.2.2 = true then ((curve_At.f l0 (wrap64 (a3 + a4))).bind fun t116 => ((curve_At.f l0 a3).bind fun t117 => (some (decide ((wrap64 (t116 - t117)) ≤ bt111.1))))) else (some true)) else (some false)))) else (some t101))) = some r := H
              have A30 := Aside0.mk A300
              clear A300
              by_cases c31 : t105 = true
              ·subst c31
               have H1 : (if 0 ≤ (wrap64 (x13_1 - 1)) then (if (wrap64 (x13_1 - 1)) ≤ (wrap64 (x13_1 + 1)) then (if (wrap64 (x13_1 + 1)) ≤ (l0.length : Int) then ((curve_Slope.f ((l0.take ((wrap64 (x13_1 + 1)) : Int).toNat).drop ((wrap64 (x13_1 - 1)) : Int).toNat) a1 a2).bind fun t110 => (if true = true then (if t110 = true then (bournelaw10_CurveSlopes.l0 k1 l0 a1 a2 a3 a4 t101 true (wrap64 (x13_1 + 1))) else (some false)) else (bournelaw10_CurveSlopes.l0 k1 l0 a1 a2 a3 a4 t101 true (wrap64 (x13_1 + 1))))) else (none)) else (none)) else (none)) = some r := by rw [if_pos rfl] at H; exact H
               clear H
               have H := H1
               clear H1
               obtain ⟨ji32, hji32⟩ : ∃ j_ : Int, (wrap64 (x13_1 - 1)) = j_ := ⟨_, rfl⟩
               replace H : (if 0 ≤ (ji32) then (if (ji32) ≤ (wrap64 (x13_1 + 1)) then (if (wrap64 (x13_1 + 1)) ≤ (l0.length : Int) then ((curve_Slope.f ((l0.take ((wrap64 (x13_1 + 1)) : Int).toNat).drop ((ji32) : Int).toNat) a1 a2).bind fun t110 => (if true = true then (if t110 = true then (bournelaw10_CurveSlopes.l0 k1 l0 a1 a2 a3 a4 t101 true (wrap64 (x13_1 + 1))) else (some false)) else (bournelaw10_CurveSlopes.l0 k1 l0 a1 a2 a3 a4 t101 true (wrap64 (x13_1 + 1))))) else (none)) else (none)) else (none)) = some r := by first | (rw [hji32] at H; exact H) | (simp only [hji32] at H ⊢; exact H)
               (try rw [hji32] at A30)
               have hji32w : (IntKind.i64.wrap (x13_1 - 1)) = ji32 := (i64_w _).trans hji32
               by_cases c33 : 0 ≤ (ji32)
               ·rw [if_pos c33] at H
                have c33b0 := eq_true c33
                have c33b1 : decide (0 ≤ (ji32)) = true := decide_eq_true c33
                clear c33
                by_cases c34 : (ji32) ≤ (wrap64 (x13_1 + 1))
                ·rw [if_pos c34] at H
                 have c34b0 := eq_true c34
                 have c34b1 : decide ((ji32) ≤ (wrap64 (x13_1 + 1))) = true := decide_eq_true c34
                 by_cases c35 : (wrap64 (x13_1 + 1)) ≤ (l0.length : Int)
                 ·rw [if_pos c35] at H
                  have c35b0 := eq_true c35
                  have c35b1 : decide ((wrap64 (x13_1 + 1)) ≤ (l0.length : Int)) = true := decide_eq_true c35
                  obtain ⟨y106, hy106⟩ : ∃ y_ : List (S37), y_ = ((l0.take ((wrap64 (x13_1 + 1)) : Int).toNat).drop ((ji32) : Int).toNat) := ⟨_, rfl⟩
                  replace H : ((curve_Slope.f y106 a1 a2).bind fun t110 => (if true = true then (if t110 = true then (bournelaw10_CurveSlopes.l0 k1 l0 a1 a2 a3 a4 t101 true (wrap64 (x13_1 + 1))) else (some false)) else (bournelaw10_CurveSlopes.l0 k1 l0 a1 a2 a3 a4 t101 true (wrap64 (x13_1 + 1))))) = some r := by first | (rw [hy106]; with_reducible exact H) | (have H2_ := (Option.bind_some _ _).symm.trans H; rw [hy106]; with_reducible exact H2_) | (have H2_ := (Option.bind_some _ _).symm.trans H; with_reducible exact H2_) | with_reducible exact H | (rw [hy106]; exact H) | exact H
                  have Ny106 := Aside0.mk hy106
                  clear hy106
                  replace H := Option.bind_eq_some_iff.mp H
                  obtain ⟨t110, A360, H⟩ := H
                  replace H : (if true = true then (if t110 = true then (bournelaw10_CurveSlopes.l0 k1 l0 a1 a2 a3 a4 t101 true (wrap64 (x13_1 + 1))) else (some false)) else (bournelaw10_CurveSlopes.l0 k1 l0 a1 a2 a3 a4 t101 true (wrap64 (x13_1 + 1)))) = some r := H
                  have A36 := Aside0.mk A360
                  clear A360
                  by_cases c37 : true = true
                  ·clear c37
                   have H1 : (if t110 = true then (bournelaw10_CurveSlopes.l0 k1 l0 a1 a2 a3 a4 t101 true (wrap64 (x13_1 + 1))) else (some false)) = some r := by first | (rw [if_pos rfl] at H; exact H) | (rw [if_pos trivial] at H; exact H)
                   clear H
                   have H := H1
                   clear H1
                   by_cases c38 : t110 = true
                   ·subst c38
                    have H1 : (bournelaw10_CurveSlopes.l0 k1 l0 a1 a2 a3 a4 t101 true (wrap64 (x13_1 + 1))) = some r := by rw [if_pos rfl] at H; exact H
                    clear H
                    have H := H1
                    clear H1
                    have H' := Aside0.mk H
                    clear H
                    go_wp2_with (first | (go_at_call 11; (with_reducible refine (curve_Right.calls _ _ l0 true _ ?side1 ?side2 A30.out).mono ?_); (case side1 => repeat (first | exact (Kd.C_below HR0.out HB.out) | (with_reducible refine Kd.C_alloc ?_ _) | (with_reducible refine Kd.C_drewN ?_ _) | (with_reducible refine Kd.C_drew ?_))); (case side2 => exact HC0.out); rintro e w39 ⟨rfl, hb⟩; have n0_ := Aside0.mk (below_step ahx hb); clear HB; have HB := n0_; clear n0_; (try clear hb); (try clear hb2); (try clear hk); (try clear hi); have q40 : ((wrap64 (x13_1 + 1)) : Int) ≤ ((l0.length : Int) : Int) := of_decide_eq_true (by first | (with_reducible assumption) | assumption); obtain ⟨i040, hi040, _, hsz40, _⟩ := info_parts info37; have hroom40 : l0.length ≤ c0 := HC0.out; have hC40 : Kd.C k37 _ A0 l0.length l0 := HR0.out; have ql40 : ((ji32) : Int) ≤ ((wrap64 (x13_1 + 1)) : Int) := of_decide_eq_true (by first | (with_reducible assumption) | assumption); have q040 : (0 : Int) ≤ ((ji32) : Int) := of_decide_eq_true (by first | (with_reducible assumption) | assumption); have hcut40 := cut_mid (P := Try.prog) 22 37 .i64 .i64 Try.underlying22 hi040 2 hsz40 A0 l0.length c0 (ji32) (wrap64 (x13_1 + 1)) q040 ql40 q40 hroom40; have hr40 := Kd.C_mid (lo := ((ji32) : Int).toNat) (hi := ((wrap64 (x13_1 + 1)) : Int).toNat) (c := c0) hC40 (by omega) (by omega) hroom40; obtain ⟨A40, hA40⟩ : ∃ A1, A1 = (if c0 = ((ji32) : Int).toNat then A0 else (A0 : Option Addr).map (·.add (((ji32) : Int).toNat * 2))) := ⟨_, rfl⟩; obtain ⟨c40, hc40⟩ : ∃ c1, c1 = c0 - ((ji32) : Int).toNat := ⟨_, rfl⟩; have hy40 : y106.length = ((wrap64 (x13_1 + 1)) : Int).toNat - ((ji32) : Int).toNat := (by rw [Ny106.out, List.length_drop, List.length_take] <;> omega); rw [show ((l0).take ((wrap64 (x13_1 + 1)) : Int).toNat).drop ((ji32) : Int).toNat = y106 from Ny106.out.symm] at hr40; replace hr40 : Kd.C k37 _ A40 y106.length y106 := (by rw [hA40]; exact hr40); rw [← hy40, ← hA40, ← hc40] at hcut40; have HR109 := Aside0.mk hr40; have HC109 := Aside0.mk (show y106.length ≤ c40 from by rw [hy40, hc40]; exact Nat.sub_le_sub_right (Nat.le_trans (by omega) hroom40) _); clear hr40 hC40 hroom40 hi040 hsz40 hc40; have KY40 := Aside0.mk hy40; have KA40 := Aside0.mk hA40; clear hy40 hA40; replace q40 := eq_true q40) | ((with_reducible refine gate_callee (f := 15) rfl ?_); refine goesL_ (some 89) rfl rfl Try.func15 (by kernel_rfl) rfl #[.slice A40 y106.length c40, .int .i64 a1, .int .i64 a2] rfl (by first | done | rfl) ?_; (with_reducible refine (curve_Slope.calls _ _ y106 a1 a2 true _ ?side1 ?side2 A36.out).mono ?_); (case side1 => repeat (first | exact (Kd.C_below HR109.out HB.out) | (with_reducible refine Kd.C_alloc ?_ _) | (with_reducible refine Kd.C_drewN ?_ _) | (with_reducible refine Kd.C_drew ?_))); (case side2 => exact HC109.out); rintro e w41 ⟨rfl, hb⟩; refine ⟨_, rfl, ?_⟩; have n0_ := Aside0.mk (below_step ahx hb); clear HB; have HB := n0_; clear n0_; (try clear hb); (try clear hb2); (try clear hk); (try clear hi)) | (go_at_call 15; (with_reducible refine (curve_Slope.calls _ _ y106 a1 a2 true _ ?side1 ?side2 A36.out).mono ?_); (case side1 => repeat (first | exact (Kd.C_below HR109.out HB.out) | (with_reducible refine Kd.C_alloc ?_ _) | (with_reducible refine Kd.C_drewN ?_ _) | (with_reducible refine Kd.C_drew ?_))); (case side2 => exact HC109.out); rintro e w41 ⟨rfl, hb⟩; have n0_ := Aside0.mk (below_step ahx hb); clear HB; have HB := n0_; clear n0_; (try clear hb); (try clear hb2); (try clear hk); (try clear hi)))
                    go_roundg k1
                    case measure => have := HK1.out; omega
                    case rel => exact ⟨(wrap64 (x13_1 + 1)), (by first | rfl | (simp; done) | (simp [*]; done)), H', ⟨by have := HK1.out; omega⟩, ⟨ahx⟩⟩
                   ·replace c38 := Bool.eq_false_iff.mpr c38
                    subst c38
                    have H1 : (some false) = some r := by rw [if_neg (show ¬ (false = true) by decide)] at H; exact H
                    clear H
                    have H := H1
                    clear H1
                    exact NF.go H hr.out (by repeat' first | exact NF.none | exact NF.ff | refine NF.ite ?_ ?_ | refine NF.bind (fun _ => ?_))
                  ·exact absurd rfl c37
                 ·rw [if_neg c35] at H
                  exact NF.go H hr.out (by repeat' first | exact NF.none | exact NF.ff | refine NF.ite ?_ ?_ | refine NF.bind (fun _ => ?_))
                ·rw [if_neg c34] at H
                 exact NF.go H hr.out (by repeat' first | exact NF.none | exact NF.ff | refine NF.ite ?_ ?_ | refine NF.bind (fun _ => ?_))
               ·rw [if_neg c33] at H
                exact NF.go H hr.out (by repeat' first | exact NF.none | exact NF.ff | refine NF.ite ?_ ?_ | refine NF.bind (fun _ => ?_))
              ·replace c31 := Bool.eq_false_iff.mpr c31
               subst c31
               have H1 : (if true = true then ((exact_Scale.f a4 a1 a2).bind fun bt111 => (if bt111.2.1 > 0 then (if t101 = true then (if bt111.2.2 = true then ((curve_At.f l0 (wrap64 (a3 + a4))).bind fun t114 => ((curve_At.f l0 a3).bind fun t115 => (some (decide ((wrap64 (t114 - t115)) ≤ (wrap64 (bt111.1 + 1))))))) else (some true)) else (some false)) else (if t101 = true then (if bt111.2.2 = true then ((curve_At.f l0 (wrap64 (a3 + a4))).bind fun t116 => ((curve_At.f l0 a3).bind fun t117 => (some (decide ((wrap64 (t116 - t117)) ≤ bt111.1))))) else (some true)) else (some false)))) else (some t101)) = some r := by rw [if_neg (show ¬ (false = true) by decide)] at H; exact H
               clear H
               have H := H1
               clear H1
               by_cases c45 : true = true
               ·clear c45
                have H1 : ((exact_Scale.f a4 a1 a2).bind fun bt111 => (if bt111.2.1 > 0 then (if t101 = true then (if bt111.2.2 = true then ((curve_At.f l0 (wrap64 (a3 + a4))).bind fun t114 => ((curve_At.f l0 a3).bind fun t115 => (some (decide ((wrap64 (t114 - t115)) ≤ (wrap64 (bt111.1 + 1))))))) else (some true)) else (some false)) else (if t101 = true then (if bt111.2.2 = true then ((curve_At.f l0 (wrap64 (a3 + a4))).bind fun t116 => ((curve_At.f l0 a3).bind fun t117 => (some (decide ((wrap64 (t116 - t117)) ≤ bt111.1))))) else (some true)) else (some false)))) = some r := by first | (rw [if_pos rfl] at H; exact H) | (rw [if_pos trivial] at H; exact H)
                clear H
                have H := H1
                clear H1
                replace H := Option.bind_eq_some_iff.mp H
                obtain ⟨⟨t111, t112, t113⟩, A460, H⟩ := H
                replace H : (if t112 > 0 then (if t101 = true then (if t113 = true then ((curve_At.f l0 (wrap64 (a3 + a4))).bind fun t114 => ((curve_At.f l0 a3).bind fun t115 => (some (decide ((wrap64 (t114 - t115)) ≤ (wrap64 (t111 + 1))))))) else (some true)) else (some false)) else (if t101 = true then (if t113 = true then ((curve_At.f l0 (wrap64 (a3 + a4))).bind fun t116 => ((curve_At.f l0 a3).bind fun t117 => (some (decide ((wrap64 (t116 - t117)) ≤ t111))))) else (some true)) else (some false))) = some r := H
                have A46 := Aside0.mk A460
                clear A460
                by_cases c47 : t112 > 0
                ·rw [if_pos c47] at H
                 have c47b0 : decide (0 < t112) = true := decide_eq_true c47
                 clear c47
                 by_cases c48 : t101 = true
                 ·subst c48
                  have H1 : (if t113 = true then ((curve_At.f l0 (wrap64 (a3 + a4))).bind fun t114 => ((curve_At.f l0 a3).bind fun t115 => (some (decide ((wrap64 (t114 - t115)) ≤ (wrap64 (t111 + 1))))))) else (some true)) = some r := by rw [if_pos rfl] at H; exact H
                  clear H
                  have H := H1
                  clear H1
                  by_cases c49 : t113 = true
                  ·subst c49
                   have H1 : ((curve_At.f l0 (wrap64 (a3 + a4))).bind fun t114 => ((curve_At.f l0 a3).bind fun t115 => (some (decide ((wrap64 (t114 - t115)) ≤ (wrap64 (t111 + 1))))))) = some r := by rw [if_pos rfl] at H; exact H
                   clear H
                   have H := H1
                   clear H1
                   replace H := Option.bind_eq_some_iff.mp H
                   obtain ⟨t114, A500, H⟩ := H
                   replace H : ((curve_At.f l0 a3).bind fun t115 => (some (decide ((wrap64 (t114 - t115)) ≤ (wrap64 (t111 + 1)))))) = some r := H
                   have A50 := Aside0.mk A500
                   clear A500
                   replace H := Option.bind_eq_some_iff.mp H
                   obtain ⟨t115, A510, H⟩ := H
                   replace H : (some (decide ((wrap64 (t114 - t115)) ≤ (wrap64 (t111 + 1))))) = some r := H
                   have A51 := Aside0.mk A510
                   clear A510
                   obtain rfl := Option.some.inj H
                   go_wp2_with (first | (go_at_call 11; (with_reducible refine (curve_Right.calls _ _ l0 false _ ?side1 ?side2 A30.out).mono ?_); (case side1 => repeat (first | exact (Kd.C_below HR0.out HB.out) | (with_reducible refine Kd.C_alloc ?_ _) | (with_reducible refine Kd.C_drewN ?_ _) | (with_reducible refine Kd.C_drew ?_))); (case side2 => exact HC0.out); rintro e w52 ⟨rfl, hb⟩; have n0_ := Aside0.mk (below_step ahx hb); clear HB; have HB := n0_; clear n0_; (try clear hb); (try clear hb2); (try clear hk); (try clear hi)) | ((with_reducible refine gate_callee (f := 21) rfl ?_); refine goesL_ (some 102) rfl rfl Try.func21 (by kernel_rfl) rfl #[.int .i64 a4, .int .i64 a1, .int .i64 a2] rfl (by first | done | rfl) ?_; (with_reducible refine (exact_Scale.calls a4 a1 a2 t111 t112 true _ A46.out).mono ?_); rintro e w' ⟨rfl, ⟨nd, rfl⟩⟩; refine ⟨_, rfl, ?_⟩) | (go_at_call 21; (with_reducible refine (exact_Scale.calls a4 a1 a2 t111 t112 true _ A46.out).mono ?_); rintro e w' ⟨rfl, ⟨nd, rfl⟩⟩) | (go_at_call 13; (with_reducible refine (curve_At.calls _ _ l0 (wrap64 (a3 + a4)) t114 _ ?side1 ?side2 A50.out).mono ?_); (case side1 => repeat (first | exact (Kd.C_below HR0.out ahx) | (with_reducible refine Kd.C_alloc ?_ _) | (with_reducible refine Kd.C_drewN ?_ _) | (with_reducible refine Kd.C_drew ?_))); (case side2 => exact HC0.out); rintro e w53 ⟨rfl, hb⟩; have n0_ := Aside0.mk (below_step ahx hb); clear HB; have HB := n0_; clear n0_; (try clear hb); (try clear hb2); (try clear hk); (try clear hi)) | (go_at_call 13; (with_reducible refine (curve_At.calls _ _ l0 a3 t115 _ ?side1 ?side2 A51.out).mono ?_); (case side1 => repeat (first | exact (Kd.C_below HR0.out HB.out) | (with_reducible refine Kd.C_alloc ?_ _) | (with_reducible refine Kd.C_drewN ?_ _) | (with_reducible refine Kd.C_drew ?_))); (case side2 => exact HC0.out); rintro e w54 ⟨rfl, hb⟩; have n0_ := Aside0.mk (below_step ahx hb); clear HB; have HB := n0_; clear n0_; (try clear hb); (try clear hb2); (try clear hk); (try clear hi)))
                   go_ret
                   exact ⟨by first | rfl | (simp [errW_none, errW_some] <;> rfl) | (simp [*, errW_none, errW_some] <;> rfl), ahx⟩
                  ·replace c49 := Bool.eq_false_iff.mpr c49
                   subst c49
                   have H1 : (some true) = some r := by rw [if_neg (show ¬ (false = true) by decide)] at H; exact H
                   clear H
                   have H := H1
                   clear H1
                   obtain rfl := Option.some.inj H
                   go_wp2_with (first | (go_at_call 11; (with_reducible refine (curve_Right.calls _ _ l0 false _ ?side1 ?side2 A30.out).mono ?_); (case side1 => repeat (first | exact (Kd.C_below HR0.out HB.out) | (with_reducible refine Kd.C_alloc ?_ _) | (with_reducible refine Kd.C_drewN ?_ _) | (with_reducible refine Kd.C_drew ?_))); (case side2 => exact HC0.out); rintro e w55 ⟨rfl, hb⟩; have n0_ := Aside0.mk (below_step ahx hb); clear HB; have HB := n0_; clear n0_; (try clear hb); (try clear hb2); (try clear hk); (try clear hi)) | ((with_reducible refine gate_callee (f := 21) rfl ?_); refine goesL_ (some 102) rfl rfl Try.func21 (by kernel_rfl) rfl #[.int .i64 a4, .int .i64 a1, .int .i64 a2] rfl (by first | done | rfl) ?_; (with_reducible refine (exact_Scale.calls a4 a1 a2 t111 t112 false _ A46.out).mono ?_); rintro e w' ⟨rfl, ⟨nd, rfl⟩⟩; refine ⟨_, rfl, ?_⟩) | (go_at_call 21; (with_reducible refine (exact_Scale.calls a4 a1 a2 t111 t112 false _ A46.out).mono ?_); rintro e w' ⟨rfl, ⟨nd, rfl⟩⟩))
                   go_ret
                   exact ⟨by first | rfl | (simp [errW_none, errW_some] <;> rfl) | (simp [*, errW_none, errW_some] <;> rfl), ahx⟩
                 ·replace c48 := Bool.eq_false_iff.mpr c48
                  subst c48
                  have H1 : (some false) = some r := by rw [if_neg (show ¬ (false = true) by decide)] at H; exact H
                  clear H
                  have H := H1
                  clear H1
                  exact NF.go H hr.out (by repeat' first | exact NF.none | exact NF.ff | refine NF.ite ?_ ?_ | refine NF.bind (fun _ => ?_))
                ·rw [if_neg c47] at H
                 have c47b0 : decide (0 < t112) = false := decide_eq_false c47
                 clear c47
                 by_cases c56 : t101 = true
                 ·subst c56
                  have H1 : (if t113 = true then ((curve_At.f l0 (wrap64 (a3 + a4))).bind fun t116 => ((curve_At.f l0 a3).bind fun t117 => (some (decide ((wrap64 (t116 - t117)) ≤ t111))))) else (some true)) = some r := by rw [if_pos rfl] at H; exact H
                  clear H
                  have H := H1
                  clear H1
                  by_cases c57 : t113 = true
                  ·subst c57
                   have H1 : ((curve_At.f l0 (wrap64 (a3 + a4))).bind fun t116 => ((curve_At.f l0 a3).bind fun t117 => (some (decide ((wrap64 (t116 - t117)) ≤ t111))))) = some r := by rw [if_pos rfl] at H; exact H
                   clear H
                   have H := H1
                   clear H1
                   replace H := Option.bind_eq_some_iff.mp H
                   obtain ⟨t116, A580, H⟩ := H
                   replace H : ((curve_At.f l0 a3).bind fun t117 => (some (decide ((wrap64 (t116 - t117)) ≤ t111)))) = some r := H
                   have A58 := Aside0.mk A580
                   clear A580
                   replace H := Option.bind_eq_some_iff.mp H
                   obtain ⟨t117, A590, H⟩ := H
                   replace H : (some (decide ((wrap64 (t116 - t117)) ≤ t111))) = some r := H
                   have A59 := Aside0.mk A590
                   clear A590
                   obtain rfl := Option.some.inj H
                   go_wp2_with (first | (go_at_call 11; (with_reducible refine (curve_Right.calls _ _ l0 false _ ?side1 ?side2 A30.out).mono ?_); (case side1 => repeat (first | exact (Kd.C_below HR0.out HB.out) | (with_reducible refine Kd.C_alloc ?_ _) | (with_reducible refine Kd.C_drewN ?_ _) | (with_reducible refine Kd.C_drew ?_))); (case side2 => exact HC0.out); rintro e w60 ⟨rfl, hb⟩; have n0_ := Aside0.mk (below_step ahx hb); clear HB; have HB := n0_; clear n0_; (try clear hb); (try clear hb2); (try clear hk); (try clear hi)) | ((with_reducible refine gate_callee (f := 21) rfl ?_); refine goesL_ (some 102) rfl rfl Try.func21 (by kernel_rfl) rfl #[.int .i64 a4, .int .i64 a1, .int .i64 a2] rfl (by first | done | rfl) ?_; (with_reducible refine (exact_Scale.calls a4 a1 a2 t111 t112 true _ A46.out).mono ?_); rintro e w' ⟨rfl, ⟨nd, rfl⟩⟩; refine ⟨_, rfl, ?_⟩) | (go_at_call 21; (with_reducible refine (exact_Scale.calls a4 a1 a2 t111 t112 true _ A46.out).mono ?_); rintro e w' ⟨rfl, ⟨nd, rfl⟩⟩) | (go_at_call 13; (with_reducible refine (curve_At.calls _ _ l0 (wrap64 (a3 + a4)) t116 _ ?side1 ?side2 A58.out).mono ?_); (case side1 => repeat (first | exact (Kd.C_below HR0.out ahx) | (with_reducible refine Kd.C_alloc ?_ _) | (with_reducible refine Kd.C_drewN ?_ _) | (with_reducible refine Kd.C_drew ?_))); (case side2 => exact HC0.out); rintro e w61 ⟨rfl, hb⟩; have n0_ := Aside0.mk (below_step ahx hb); clear HB; have HB := n0_; clear n0_; (try clear hb); (try clear hb2); (try clear hk); (try clear hi)) | (go_at_call 13; (with_reducible refine (curve_At.calls _ _ l0 a3 t117 _ ?side1 ?side2 A59.out).mono ?_); (case side1 => repeat (first | exact (Kd.C_below HR0.out HB.out) | (with_reducible refine Kd.C_alloc ?_ _) | (with_reducible refine Kd.C_drewN ?_ _) | (with_reducible refine Kd.C_drew ?_))); (case side2 => exact HC0.out); rintro e w62 ⟨rfl, hb⟩; have n0_ := Aside0.mk (below_step ahx hb); clear HB; have HB := n0_; clear n0_; (try clear hb); (try clear hb2); (try clear hk); (try clear hi)))
                   go_ret
                   exact ⟨by first | rfl | (simp [errW_none, errW_some] <;> rfl) | (simp [*, errW_none, errW_some] <;> rfl), ahx⟩
                  ·replace c57 := Bool.eq_false_iff.mpr c57
                   subst c57
                   have H1 : (some true) = some r := by rw [if_neg (show ¬ (false = true) by decide)] at H; exact H
                   clear H
                   have H := H1
                   clear H1
                   obtain rfl := Option.some.inj H
                   go_wp2_with (first | (go_at_call 11; (with_reducible refine (curve_Right.calls _ _ l0 false _ ?side1 ?side2 A30.out).mono ?_); (case side1 => repeat (first | exact (Kd.C_below HR0.out HB.out) | (with_reducible refine Kd.C_alloc ?_ _) | (with_reducible refine Kd.C_drewN ?_ _) | (with_reducible refine Kd.C_drew ?_))); (case side2 => exact HC0.out); rintro e w63 ⟨rfl, hb⟩; have n0_ := Aside0.mk (below_step ahx hb); clear HB; have HB := n0_; clear n0_; (try clear hb); (try clear hb2); (try clear hk); (try clear hi)) | ((with_reducible refine gate_callee (f := 21) rfl ?_); refine goesL_ (some 102) rfl rfl Try.func21 (by kernel_rfl) rfl #[.int .i64 a4, .int .i64 a1, .int .i64 a2] rfl (by first | done | rfl) ?_; (with_reducible refine (exact_Scale.calls a4 a1 a2 t111 t112 false _ A46.out).mono ?_); rintro e w' ⟨rfl, ⟨nd, rfl⟩⟩; refine ⟨_, rfl, ?_⟩) | (go_at_call 21; (with_reducible refine (exact_Scale.calls a4 a1 a2 t111 t112 false _ A46.out).mono ?_); rintro e w' ⟨rfl, ⟨nd, rfl⟩⟩))
                   go_ret
                   exact ⟨by first | rfl | (simp [errW_none, errW_some] <;> rfl) | (simp [*, errW_none, errW_some] <;> rfl), ahx⟩
                 ·replace c56 := Bool.eq_false_iff.mpr c56
                  subst c56
                  have H1 : (some false) = some r := by rw [if_neg (show ¬ (false = true) by decide)] at H; exact H
                  clear H
                  have H := H1
                  clear H1
                  exact NF.go H hr.out (by repeat' first | exact NF.none | exact NF.ff | refine NF.ite ?_ ?_ | refine NF.bind (fun _ => ?_))
               ·exact absurd rfl c45
             ·rw [if_neg c29] at H
              have c29b0 : decide (x13_1 < (l0.length : Int)) = false := decide_eq_false c29
              clear c29
              by_cases c65 : true = true
              ·clear c65
               have H1 : ((exact_Scale.f a4 a1 a2).bind fun bt118 => (if bt118.2.1 > 0 then (if t101 = true then (if bt118.2.2 = true then ((curve_At.f l0 (wrap64 (a3 + a4))).bind fun t121 => ((curve_At.f l0 a3).bind fun t122 => (some (decide ((wrap64 (t121 - t122)) ≤ (wrap64 (bt118.1 + 1))))))) else (some true)) else (some false)) else (if t101 = true then (if bt118.2.2 = true then ((curve_At.f l0 (wrap64 (a3 + a4))).bind fun t123 => ((curve_At.f l0 a3).bind fun t124 => (some (decide ((wrap64 (t123 - t124)) ≤ bt118.1))))) else (some true)) else (some false)))) = some r := by first | (rw [if_pos rfl] at H; exact H) | (rw [if_pos trivial] at H; exact H)
               clear H
               have H := H1
               clear H1
               replace H := Option.bind_eq_some_iff.mp H
               obtain ⟨⟨t118, t119, t120⟩, A660, H⟩ := H
               replace H : (if t119 > 0 then (if t101 = true then (if t120 = true then ((curve_At.f l0 (wrap64 (a3 + a4))).bind fun t121 => ((curve_At.f l0 a3).bind fun t122 => (some (decide ((wrap64 (t121 - t122)) ≤ (wrap64 (t118 + 1))))))) else (some true)) else (some false)) else (if t101 = true then (if t120 = true then ((curve_At.f l0 (wrap64 (a3 + a4))).bind fun t123 => ((curve_At.f l0 a3).bind fun t124 => (some (decide ((wrap64 (t123 - t124)) ≤ t118))))) else (some true)) else (some false))) = some r := H
               have A66 := Aside0.mk A660
               clear A660
               by_cases c67 : t119 > 0
               ·rw [if_pos c67] at H
                have c67b0 : decide (0 < t119) = true := decide_eq_true c67
                clear c67
                by_cases c68 : t101 = true
                ·subst c68
                 have H1 : (if t120 = true then ((curve_At.f l0 (wrap64 (a3 + a4))).bind fun t121 => ((curve_At.f l0 a3).bind fun t122 => (some (decide ((wrap64 (t121 - t122)) ≤ (wrap64 (t118 + 1))))))) else (some true)) = some r := by rw [if_pos rfl] at H; exact H
                 clear H
                 have H := H1
                 clear H1
                 by_cases c69 : t120 = true
                 ·subst c69
                  have H1 : ((curve_At.f l0 (wrap64 (a3 + a4))).bind fun t121 => ((curve_At.f l0 a3).bind fun t122 => (some (decide ((wrap64 (t121 - t122)) ≤ (wrap64 (t118 + 1))))))) = some r := by rw [if_pos rfl] at H; exact H
                  clear H
                  have H := H1
                  clear H1
                  replace H := Option.bind_eq_some_iff.mp H
                  obtain ⟨t121, A700, H⟩ := H
                  replace H : ((curve_At.f l0 a3).bind fun t122 => (some (decide ((wrap64 (t121 - t122)) ≤ (wrap64 (t118 + 1)))))) = some r := H
                  have A70 := Aside0.mk A700
                  clear A700
                  replace H := Option.bind_eq_some_iff.mp H
                  obtain ⟨t122, A710, H⟩ := H
                  replace H : (some (decide ((wrap64 (t121 - t122)) ≤ (wrap64 (t118 + 1))))) = some r := H
                  have A71 := Aside0.mk A710
                  clear A710
                  obtain rfl := Option.some.inj H
                  go_wp2_with (first | ((with_reducible refine gate_callee (f := 21) rfl ?_); refine goesL_ (some 102) rfl rfl Try.func21 (by kernel_rfl) rfl #[.int .i64 a4, .int .i64 a1, .int .i64 a2] rfl (by first | done | rfl) ?_; (with_reducible refine (exact_Scale.calls a4 a1 a2 t118 t119 true _ A66.out).mono ?_); rintro e w' ⟨rfl, ⟨nd, rfl⟩⟩; refine ⟨_, rfl, ?_⟩) | (go_at_call 21; (with_reducible refine (exact_Scale.calls a4 a1 a2 t118 t119 true _ A66.out).mono ?_); rintro e w' ⟨rfl, ⟨nd, rfl⟩⟩) | (go_at_call 13; (with_reducible refine (curve_At.calls _ _ l0 (wrap64 (a3 + a4)) t121 _ ?side1 ?side2 A70.out).mono ?_); (case side1 => repeat (first | exact (Kd.C_below HR0.out ahx) | (with_reducible refine Kd.C_alloc ?_ _) | (with_reducible refine Kd.C_drewN ?_ _) | (with_reducible refine Kd.C_drew ?_))); (case side2 => exact HC0.out); rintro e w72 ⟨rfl, hb⟩; have n0_ := Aside0.mk (below_step ahx hb); clear HB; have HB := n0_; clear n0_; (try clear hb); (try clear hb2); (try clear hk); (try clear hi)) | (go_at_call 13; (with_reducible refine (curve_At.calls _ _ l0 a3 t122 _ ?side1 ?side2 A71.out).mono ?_); (case side1 => repeat (first | exact (Kd.C_below HR0.out HB.out) | (with_reducible refine Kd.C_alloc ?_ _) | (with_reducible refine Kd.C_drewN ?_ _) | (with_reducible refine Kd.C_drew ?_))); (case side2 => exact HC0.out); rintro e w73 ⟨rfl, hb⟩; have n0_ := Aside0.mk (below_step ahx hb); clear HB; have HB := n0_; clear n0_; (try clear hb); (try clear hb2); (try clear hk); (try clear hi)))
                  go_ret
                  exact ⟨by first | rfl | (simp [errW_none, errW_some] <;> rfl) | (simp [*, errW_none, errW_some] <;> rfl), ahx⟩
                 ·replace c69 := Bool.eq_false_iff.mpr c69
                  subst c69
                  have H1 : (some true) = some r := by rw [if_neg (show ¬ (false = true) by decide)] at H; exact H
                  clear H
                  have H := H1
                  clear H1
                  obtain rfl := Option.some.inj H
                  go_wp2_with (first | ((with_reducible refine gate_callee (f := 21) rfl ?_); refine goesL_ (some 102) rfl rfl Try.func21 (by kernel_rfl) rfl #[.int .i64 a4, .int .i64 a1, .int .i64 a2] rfl (by first | done | rfl) ?_; (with_reducible refine (exact_Scale.calls a4 a1 a2 t118 t119 false _ A66.out).mono ?_); rintro e w' ⟨rfl, ⟨nd, rfl⟩⟩; refine ⟨_, rfl, ?_⟩) | (go_at_call 21; (with_reducible refine (exact_Scale.calls a4 a1 a2 t118 t119 false _ A66.out).mono ?_); rintro e w' ⟨rfl, ⟨nd, rfl⟩⟩))
                  go_ret
                  exact ⟨by first | rfl | (simp [errW_none, errW_some] <;> rfl) | (simp [*, errW_none, errW_some] <;> rfl), ahx⟩
                ·replace c68 := Bool.eq_false_iff.mpr c68
                 subst c68
                 have H1 : (some false) = some r := by rw [if_neg (show ¬ (false = true) by decide)] at H; exact H
                 clear H
                 have H := H1
                 clear H1
                 exact NF.go H hr.out (by repeat' first | exact NF.none | exact NF.ff | refine NF.ite ?_ ?_ | refine NF.bind (fun _ => ?_))
               ·rw [if_neg c67] at H
                have c67b0 : decide (0 < t119) = false := decide_eq_false c67
                clear c67
                by_cases c74 : t101 = true
                ·subst c74
                 have H1 : (if t120 = true then ((curve_At.f l0 (wrap64 (a3 + a4))).bind fun t123 => ((curve_At.f l0 a3).bind fun t124 => (some (decide ((wrap64 (t123 - t124)) ≤ t118))))) else (some true)) = some r := by rw [if_pos rfl] at H; exact H
                 clear H
                 have H := H1
                 clear H1
                 by_cases c75 : t120 = true
                 ·subst c75
                  have H1 : ((curve_At.f l0 (wrap64 (a3 + a4))).bind fun t123 => ((curve_At.f l0 a3).bind fun t124 => (some (decide ((wrap64 (t123 - t124)) ≤ t118))))) = some r := by rw [if_pos rfl] at H; exact H
                  clear H
                  have H := H1
                  clear H1
                  replace H := Option.bind_eq_some_iff.mp H
                  obtain ⟨t123, A760, H⟩ := H
                  replace H : ((curve_At.f l0 a3).bind fun t124 => (some (decide ((wrap64 (t123 - t124)) ≤ t118)))) = some r := H
                  have A76 := Aside0.mk A760
                  clear A760
                  replace H := Option.bind_eq_some_iff.mp H
                  obtain ⟨t124, A770, H⟩ := H
                  replace H : (some (decide ((wrap64 (t123 - t124)) ≤ t118))) = some r := H
                  have A77 := Aside0.mk A770
                  clear A770
                  obtain rfl := Option.some.inj H
                  go_wp2_with (first | ((with_reducible refine gate_callee (f := 21) rfl ?_); refine goesL_ (some 102) rfl rfl Try.func21 (by kernel_rfl) rfl #[.int .i64 a4, .int .i64 a1, .int .i64 a2] rfl (by first | done | rfl) ?_; (with_reducible refine (exact_Scale.calls a4 a1 a2 t118 t119 true _ A66.out).mono ?_); rintro e w' ⟨rfl, ⟨nd, rfl⟩⟩; refine ⟨_, rfl, ?_⟩) | (go_at_call 21; (with_reducible refine (exact_Scale.calls a4 a1 a2 t118 t119 true _ A66.out).mono ?_); rintro e w' ⟨rfl, ⟨nd, rfl⟩⟩) | (go_at_call 13; (with_reducible refine (curve_At.calls _ _ l0 (wrap64 (a3 + a4)) t123 _ ?side1 ?side2 A76.out).mono ?_); (case side1 => repeat (first | exact (Kd.C_below HR0.out ahx) | (with_reducible refine Kd.C_alloc ?_ _) | (with_reducible refine Kd.C_drewN ?_ _) | (with_reducible refine Kd.C_drew ?_))); (case side2 => exact HC0.out); rintro e w78 ⟨rfl, hb⟩; have n0_ := Aside0.mk (below_step ahx hb); clear HB; have HB := n0_; clear n0_; (try clear hb); (try clear hb2); (try clear hk); (try clear hi)) | (go_at_call 13; (with_reducible refine (curve_At.calls _ _ l0 a3 t124 _ ?side1 ?side2 A77.out).mono ?_); (case side1 => repeat (first | exact (Kd.C_below HR0.out HB.out) | (with_reducible refine Kd.C_alloc ?_ _) | (with_reducible refine Kd.C_drewN ?_ _) | (with_reducible refine Kd.C_drew ?_))); (case side2 => exact HC0.out); rintro e w79 ⟨rfl, hb⟩; have n0_ := Aside0.mk (below_step ahx hb); clear HB; have HB := n0_; clear n0_; (try clear hb); (try clear hb2); (try clear hk); (try clear hi)))
                  go_ret
                  exact ⟨by first | rfl | (simp [errW_none, errW_some] <;> rfl) | (simp [*, errW_none, errW_some] <;> rfl), ahx⟩
                 ·replace c75 := Bool.eq_false_iff.mpr c75
                  subst c75
                  have H1 : (some true) = some r := by rw [if_neg (show ¬ (false = true) by decide)] at H; exact H
                  clear H
                  have H := H1
                  clear H1
                  obtain rfl := Option.some.inj H
                  go_wp2_with (first | ((with_reducible refine gate_callee (f := 21) rfl ?_); refine goesL_ (some 102) rfl rfl Try.func21 (by kernel_rfl) rfl #[.int .i64 a4, .int .i64 a1, .int .i64 a2] rfl (by first | done | rfl) ?_; (with_reducible refine (exact_Scale.calls a4 a1 a2 t118 t119 false _ A66.out).mono ?_); rintro e w' ⟨rfl, ⟨nd, rfl⟩⟩; refine ⟨_, rfl, ?_⟩) | (go_at_call 21; (with_reducible refine (exact_Scale.calls a4 a1 a2 t118 t119 false _ A66.out).mono ?_); rintro e w' ⟨rfl, ⟨nd, rfl⟩⟩))
                  go_ret
                  exact ⟨by first | rfl | (simp [errW_none, errW_some] <;> rfl) | (simp [*, errW_none, errW_some] <;> rfl), ahx⟩
                ·replace c74 := Bool.eq_false_iff.mpr c74
                 subst c74
                 have H1 : (some false) = some r := by rw [if_neg (show ¬ (false = true) by decide)] at H; exact H
                 clear H
                 have H := H1
                 clear H1
                 exact NF.go H hr.out (by repeat' first | exact NF.none | exact NF.ff | refine NF.ite ?_ ?_ | refine NF.bind (fun _ => ?_))
              ·exact absurd rfl c65
          ·replace c24 := Bool.eq_false_iff.mpr c24
           subst c24
           have H1 : (some false) = some r := by rw [if_neg (show ¬ (false = true) by decide)] at H; exact H
           clear H
           have H := H1
           clear H1
           exact NF.go H hr.out (by repeat' first | exact NF.none | exact NF.ff | refine NF.ite ?_ ?_ | refine NF.bind (fun _ => ?_))
         ·rw [if_neg c22] at H
          have c22b0 : decide (1 < a2) = false := decide_eq_false c22
          clear c22
          have H' := Aside0.mk H
          clear H
          go_enter Try.func5, Try.ntmps5
          go_wp2_with (first | ((with_reducible refine gate_callee (f := 8) rfl ?_); refine goesL_ (some 18) rfl rfl Try.func8 (by kernel_rfl) rfl #[] rfl (by first | done | rfl) ?_; (with_reducible refine (bournelaw10_small.calls  t101 _ A6.out).mono ?_); rintro e w80 ⟨rfl, hb⟩; refine ⟨_, rfl, ?_⟩; have n0_ := Aside0.mk (below_step ahx hb); clear HB; have HB := n0_; clear n0_; (try clear hb); (try clear hb2); (try clear hk); (try clear hi)) | (go_at_call 8; (with_reducible refine (bournelaw10_small.calls  t101 _ A6.out).mono ?_); rintro e w80 ⟨rfl, hb⟩; have n0_ := Aside0.mk (below_step ahx hb); clear HB; have HB := n0_; clear n0_; (try clear hb); (try clear hb2); (try clear hk); (try clear hi)) | ((with_reducible refine gate_callee (f := 15) rfl ?_); refine goesL_ (some 42) rfl rfl Try.func15 (by kernel_rfl) rfl #[.slice A0 l0.length c0, .int .i64 a1, .int .i64 a2] rfl (by first | done | rfl) ?_; (with_reducible refine (curve_Slope.calls _ _ l0 a1 a2 true _ ?side1 ?side2 A17.out).mono ?_); (case side1 => repeat (first | exact (Kd.C_below HR0.out HB.out) | (with_reducible refine Kd.C_alloc ?_ _) | (with_reducible refine Kd.C_drewN ?_ _) | (with_reducible refine Kd.C_drew ?_))); (case side2 => exact HC0.out); rintro e w81 ⟨rfl, hb⟩; refine ⟨_, rfl, ?_⟩; have n0_ := Aside0.mk (below_step ahx hb); clear HB; have HB := n0_; clear n0_; (try clear hb); (try clear hb2); (try clear hk); (try clear hi)) | (go_at_call 15; (with_reducible refine (curve_Slope.calls _ _ l0 a1 a2 true _ ?side1 ?side2 A17.out).mono ?_); (case side1 => repeat (first | exact (Kd.C_below HR0.out HB.out) | (with_reducible refine Kd.C_alloc ?_ _) | (with_reducible refine Kd.C_drewN ?_ _) | (with_reducible refine Kd.C_drew ?_))); (case side2 => exact HC0.out); rintro e w81 ⟨rfl, hb⟩; have n0_ := Aside0.mk (below_step ahx hb); clear HB; have HB := n0_; clear n0_; (try clear hb); (try clear hb2); (try clear hk); (try clear hi)) | (go_at_call 15; (with_reducible refine (curve_Slope.calls _ _ l0 (wrap64 (a1 + 1)) a2 true _ ?side1 ?side2 A20.out).mono ?_); (case side1 => repeat (first | exact (Kd.C_below HR0.out HB.out) | (with_reducible refine Kd.C_alloc ?_ _) | (with_reducible refine Kd.C_drewN ?_ _) | (with_reducible refine Kd.C_drew ?_))); (case side2 => exact HC0.out); rintro e w82 ⟨rfl, hb⟩; have n0_ := Aside0.mk (below_step ahx hb); clear HB; have HB := n0_; clear n0_; (try clear hb); (try clear hb2); (try clear hk); (try clear hi)))
          go_loopg [13] k (fun kq v13 w' => ∃ (x13_1 : Int), v13 = .int .i64 x13_1 ∧ Aside0 (bournelaw10_CurveSlopes.l0 kq l0 a1 a2 a3 a4 t101 true x13_1 = some r) ∧ Aside0 (kq ≤ k) ∧ Aside0 (Below w.heap.size w w'))
          case atStart => exact ⟨(1), (by first | rfl | (simp; done) | (simp [*]; done)), H', ⟨Nat.le_refl _⟩, ⟨ahx⟩⟩
          case round =>
           clear H'
           try clear c1
           try clear c2
           try clear p2
           try clear c3
           try clear c4
           try clear q4
           try clear c5
           try clear c6
           try clear p6
           try clear c7
           try clear c7b0
           try clear c7b1
           try clear c8
           try clear c9
           try clear c9b0
           try clear c11
           try clear c11b0
           try clear c13
           try clear c13b0
           try clear c15
           try clear c15b0
           try clear c18
           try clear c19
           try clear c19b0
           try clear c21
           try clear c22
           try clear c22b0
           try clear c24
           try clear c29
           try clear c29b0
           try clear c31
           try clear c33
           try clear c33b0
           try clear c33b1
           try clear c34
           try clear c34b0
           try clear c34b1
           try clear c35
           try clear c35b0
           try clear c35b1
           try clear c37
           try clear c38
           try clear c40
           try clear q40
           try clear c43
           try clear q43
           try clear c45
           try clear c47
           try clear c47b0
           try clear c48
           try clear c49
           try clear c56
           try clear c57
           try clear p64
           try clear c65
           try clear c67
           try clear c67b0
           try clear c68
           try clear c69
           try clear c74
           try clear c75
           try clear p2
           try clear p6
           try clear q040
           try clear q043
           try clear q40
           try clear q43
           obtain ⟨x13_1, rfl, HA, HK1, HB⟩ := hrel
           cases gk with
           | zero => exact absurd HA.out (by simp [bournelaw10_CurveSlopes.l0])
           | succ k1 =>
            have H := HA.out
            clear HA
            simp only [bournelaw10_CurveSlopes.l0] at H
            by_cases c83 : x13_1 < (l0.length : Int)
            ·rw [if_pos c83] at H
             have c83b0 : decide (x13_1 < (l0.length : Int)) = true := decide_eq_true c83
             clear c83
             replace H := Option.bind_eq_some_iff.mp H
             obtain ⟨t105, A840, H⟩ := H
             replace H : (if t105 = true then (if 0 ≤ (wrap64 (x13_1 - 1)) then (if (wrap64 (x13_1 - 1)) ≤ (wrap64 (x13_1 + 1)) then (if (wrap64 (x13_1 + 1)) ≤ (l0.length : Int) then ((curve_Slope.f ((l0.take ((wrap64 (x13_1 + 1)) : Int).toNat).drop ((wrap64 (x13_1 - 1)) : Int).toNat) a1 a2).bind fun t110 => (if true = true then (if t110 = true then (bournelaw10_CurveSlopes.l0 k1 l0 a1 a2 a3 a4 t101 true (wrap64 (x13_1 + 1))) else (some false)) else (bournelaw10_CurveSlopes.l0 k1 l0 a1 a2 a3 a4 t101 true (wrap64 (x13_1 + 1))))) else (none)) else (none)) else (none)) else (if true = true then ((exact_Scale.f a4 a1 a2).bind fun bt111 => (if bt111.2.1 > 0 then (if t101 = true then (if bt111.2.2 = true then ((curve_At.f l0 (wrap64 (a3 + a4))).bind fun t114 => ((curve_At.f l0 a3).bind fun t115 => (some (decide ((wrap64 (t114 - t115)) ≤ (wrap64 (bt111.1 + 1))))))) else (some true)) else (some false)) else (if t101 = true then (if bt111.2.2 = true then ((curve_At.f l0 (wrap64 (a3 + a4))).bind fun t116 => ((curve_At.f l0 a3).bind fun t117 => (some (decide ((wrap64 (t116 - t117)) ≤ bt111.1))))) else (some true)) else (some false)))) else (some t101))) = some r := H
             have A84 := Aside0.mk A840
             clear A840
             by_cases c85 : t105 = true
             ·subst c85
              have H1 : (if 0 ≤ (wrap64 (x13_1 - 1)) then (if (wrap64 (x13_1 - 1)) ≤ (wrap64 (x13_1 + 1)) then (if (wrap64 (x13_1 + 1)) ≤ (l0.length : Int) then ((curve_Slope.f ((l0.take ((wrap64 (x13_1 + 1)) : Int).toNat).drop ((wrap64 (x13_1 - 1)) : Int).toNat) a1 a2).bind fun t110 => (if true = true then (if t110 = true then (bournelaw10_CurveSlopes.l0 k1 l0 a1 a2 a3 a4 t101 true (wrap64 (x13_1 + 1))) else (some false)) else (bournelaw10_CurveSlopes.l0 k1 l0 a1 a2 a3 a4 t101 true (wrap64 (x13_1 + 1))))) else (none)) else (none)) else (none)) = some r := by rw [if_pos rfl] at H; exact H
              clear H
              have H := H1
              clear H1
              obtain ⟨ji86, hji86⟩ : ∃ j_ : Int, (wrap64 (x13_1 - 1)) = j_ := ⟨_, rfl⟩
              replace H : (if 0 ≤ (ji86) then (if (ji86) ≤ (wrap64 (x13_1 + 1)) then (if (wrap64 (x13_1 + 1)) ≤ (l0.length : Int) then ((curve_Slope.f ((l0.take ((wrap64 (x13_1 + 1)) : Int).toNat).drop ((ji86) : Int).toNat) a1 a2).bind fun t110 => (if true = true then (if t110 = true then (bournelaw10_CurveSlopes.l0 k1 l0 a1 a2 a3 a4 t101 true (wrap64 (x13_1 + 1))) else (some false)) else (bournelaw10_CurveSlopes.l0 k1 l0 a1 a2 a3 a4 t101 true (wrap64 (x13_1 + 1))))) else (none)) else (none)) else (none)) = some r := by first | (rw [hji86] at H; exact H) | (simp only [hji86] at H ⊢; exact H)
              (try rw [hji86] at A84)
              have hji86w : (IntKind.i64.wrap (x13_1 - 1)) = ji86 := (i64_w _).trans hji86
              by_cases c87 : 0 ≤ (ji86)
              ·rw [if_pos c87] at H
               have c87b0 := eq_true c87
               have c87b1 : decide (0 ≤ (ji86)) = true := decide_eq_true c87
               clear c87
               by_cases c88 : (ji86) ≤ (wrap64 (x13_1 + 1))
               ·rw [if_pos c88] at H
                have c88b0 := eq_true c88
                have c88b1 : decide ((ji86) ≤ (wrap64 (x13_1 + 1))) = true := decide_eq_true c88
                by_cases c89 : (wrap64 (x13_1 + 1)) ≤ (l0.length : Int)
                ·rw [if_pos c89] at H
                 have c89b0 := eq_true c89
                 have c89b1 : decide ((wrap64 (x13_1 + 1)) ≤ (l0.length : Int)) = true := decide_eq_true c89
                 obtain ⟨y106, hy106⟩ : ∃ y_ : List (S37), y_ = ((l0.take ((wrap64 (x13_1 + 1)) : Int).toNat).drop ((ji86) : Int).toNat) := ⟨_, rfl⟩
                 replace H : ((curve_Slope.f y106 a1 a2).bind fun t110 => (if true = true then (if t110 = true then (bournelaw10_CurveSlopes.l0 k1 l0 a1 a2 a3 a4 t101 true (wrap64 (x13_1 + 1))) else (some false)) else (bournelaw10_CurveSlopes.l0 k1 l0 a1 a2 a3 a4 t101 true (wrap64 (x13_1 + 1))))) = some r := by first | (rw [hy106]; with_reducible exact H) | (have H2_ := (Option.bind_some _ _).symm.trans H; rw [hy106]; with_reducible exact H2_) | (have H2_ := (Option.bind_some _ _).symm.trans H; with_reducible exact H2_) | with_reducible exact H | (rw [hy106]; exact H) | exact H
                 have Ny106 := Aside0.mk hy106
                 clear hy106
                 replace H := Option.bind_eq_some_iff.mp H
                 obtain ⟨t110, A900, H⟩ := H
                 replace H : (if true = true then (if t110 = true then (bournelaw10_CurveSlopes.l0 k1 l0 a1 a2 a3 a4 t101 true (wrap64 (x13_1 + 1))) else (some false)) else (bournelaw10_CurveSlopes.l0 k1 l0 a1 a2 a3 a4 t101 true (wrap64 (x13_1 + 1)))) = some r := H
                 have A90 := Aside0.mk A900
                 clear A900
                 by_cases c91 : true = true
                 ·clear c91
                  have H1 : (if t110 = true then (bournelaw10_CurveSlopes.l0 k1 l0 a1 a2 a3 a4 t101 true (wrap64 (x13_1 + 1))) else (some false)) = some r := by first | (rw [if_pos rfl] at H; exact H) | (rw [if_pos trivial] at H; exact H)
                  clear H
                  have H := H1
                  clear H1
                  by_cases c92 : t110 = true
                  ·subst c92
                   have H1 : (bournelaw10_CurveSlopes.l0 k1 l0 a1 a2 a3 a4 t101 true (wrap64 (x13_1 + 1))) = some r := by rw [if_pos rfl] at H; exact H
                   clear H
                   have H := H1
                   clear H1
                   have H' := Aside0.mk H
                   clear H
                   go_wp2_with (first | (go_at_call 11; (with_reducible refine (curve_Right.calls _ _ l0 true _ ?side1 ?side2 A84.out).mono ?_); (case side1 => repeat (first | exact (Kd.C_below HR0.out HB.out) | (with_reducible refine Kd.C_alloc ?_ _) | (with_reducible refine Kd.C_drewN ?_ _) | (with_reducible refine Kd.C_drew ?_))); (case side2 => exact HC0.out); rintro e w93 ⟨rfl, hb⟩; have n0_ := Aside0.mk (below_step ahx hb); clear HB; have HB := n0_; clear n0_; (try clear hb); (try clear hb2); (try clear hk); (try clear hi); have q94 : ((wrap64 (x13_1 + 1)) : Int) ≤ ((l0.length : Int) : Int) := of_decide_eq_true (by first | (with_reducible assumption) | assumption); obtain ⟨i094, hi094, _, hsz94, _⟩ := info_parts info37; have hroom94 : l0.length ≤ c0 := HC0.out; have hC94 : Kd.C k37 _ A0 l0.length l0 := HR0.out; have ql94 : ((ji86) : Int) ≤ ((wrap64 (x13_1 + 1)) : Int) := of_decide_eq_true (by first | (with_reducible assumption) | assumption); have q094 : (0 : Int) ≤ ((ji86) : Int) := of_decide_eq_true (by first | (with_reducible assumption) | assumption); have hcut94 := cut_mid (P := Try.prog) 22 37 .i64 .i64 Try.underlying22 hi094 2 hsz94 A0 l0.length c0 (ji86) (wrap64 (x13_1 + 1)) q094 ql94 q94 hroom94; have hr94 := Kd.C_mid (lo := ((ji86) : Int).toNat) (hi := ((wrap64 (x13_1 + 1)) : Int).toNat) (c := c0) hC94 (by omega) (by omega) hroom94; obtain ⟨A94, hA94⟩ : ∃ A1, A1 = (if c0 = ((ji86) : Int).toNat then A0 else (A0 : Option Addr).map (·.add (((ji86) : Int).toNat * 2))) := ⟨_, rfl⟩; obtain ⟨c94, hc94⟩ : ∃ c1, c1 = c0 - ((ji86) : Int).toNat := ⟨_, rfl⟩; have hy94 : y106.length = ((wrap64 (x13_1 + 1)) : Int).toNat - ((ji86) : Int).toNat := (by rw [Ny106.out, List.length_drop, List.length_take] <;> omega); rw [show ((l0).take ((wrap64 (x13_1 + 1)) : Int).toNat).drop ((ji86) : Int).toNat = y106 from Ny106.out.symm] at hr94; replace hr94 : Kd.C k37 _ A94 y106.length y106 := (by rw [hA94]; exact hr94); rw [← hy94, ← hA94, ← hc94] at hcut94; have HR109 := Aside0.mk hr94; have HC109 := Aside0.mk (show y106.length ≤ c94 from by rw [hy94, hc94]; exact Nat.sub_le_sub_right (Nat.le_trans (by omega) hroom94) _); clear hr94 hC94 hroom94 hi094 hsz94 hc94; have KY94 := Aside0.mk hy94; have KA94 := Aside0.mk hA94; clear hy94 hA94; replace q94 := eq_true q94) | ((with_reducible refine gate_callee (f := 15) rfl ?_); refine goesL_ (some 89) rfl rfl Try.func15 (by kernel_rfl) rfl #[.slice A94 y106.length c94, .int .i64 a1, .int .i64 a2] rfl (by first | done | rfl) ?_; (with_reducible refine (curve_Slope.calls _ _ y106 a1 a2 true _ ?side1 ?side2 A90.out).mono ?_); (case side1 => repeat (first | exact (Kd.C_below HR109.out HB.out) | (with_reducible refine Kd.C_alloc ?_ _) | (with_reducible refine Kd.C_drewN ?_ _) | (with_reducible refine Kd.C_drew ?_))); (case side2 => exact HC109.out); rintro e w95 ⟨rfl, hb⟩; refine ⟨_, rfl, ?_⟩; have n0_ := Aside0.mk (below_step ahx hb); clear HB; have HB := n0_; clear n0_; (try clear hb); (try clear hb2); (try clear hk); (try clear hi)) | (go_at_call 15; (with_reducible refine (curve_Slope.calls _ _ y106 a1 a2 true _ ?side1 ?side2 A90.out).mono ?_); (case side1 => repeat (first | exact (Kd.C_below HR109.out HB.out) | (with_reducible refine Kd.C_alloc ?_ _) | (with_reducible refine Kd.C_drewN ?_ _) | (with_reducible refine Kd.C_drew ?_))); (case side2 => exact HC109.out); rintro e w95 ⟨rfl, hb⟩; have n0_ := Aside0.mk (below_step ahx hb); clear HB; have HB := n0_; clear n0_; (try clear hb); (try clear hb2); (try clear hk); (try clear hi)))
                   go_roundg k1
                   case measure => have := HK1.out; omega
                   case rel => exact ⟨(wrap64 (x13_1 + 1)), (by first | rfl | (simp; done) | (simp [*]; done)), H', ⟨by have := HK1.out; omega⟩, ⟨ahx⟩⟩
                  ·replace c92 := Bool.eq_false_iff.mpr c92
                   subst c92
                   have H1 : (some false) = some r := by rw [if_neg (show ¬ (false = true) by decide)] at H; exact H
                   clear H
                   have H := H1
                   clear H1
                   exact NF.go H hr.out (by repeat' first | exact NF.none | exact NF.ff | refine NF.ite ?_ ?_ | refine NF.bind (fun _ => ?_))
                 ·exact absurd rfl c91
                ·rw [if_neg c89] at H
                 exact NF.go H hr.out (by repeat' first | exact NF.none | exact NF.ff | refine NF.ite ?_ ?_ | refine NF.bind (fun _ => ?_))
               ·rw [if_neg c88] at H
                exact NF.go H hr.out (by repeat' first | exact NF.none | exact NF.ff | refine NF.ite ?_ ?_ | refine NF.bind (fun _ => ?_))
              ·rw [if_neg c87] at H
               exact NF.go H hr.out (by repeat' first | exact NF.none | exact NF.ff | refine NF.ite ?_ ?_ | refine NF.bind (fun _ => ?_))
             ·replace c85 := Bool.eq_false_iff.mpr c85
              subst c85
              have H1 : (if true = true then ((exact_Scale.f a4 a1 a2).bind fun bt111 => (if bt111.2.1 > 0 then (if t101 = true then (if bt111.2.2 = true then ((curve_At.f l0 (wrap64 (a3 + a4))).bind fun t114 => ((curve_At.f l0 a3).bind fun t115 => (some (decide ((wrap64 (t114 - t115)) ≤ (wrap64 (bt111.1 + 1))))))) else (some true)) else (some false)) else (if t101 = true then (if bt111.2.2 = true then ((curve_At.f l0 (wrap64 (a3 + a4))).bind fun t116 => ((curve_At.f l0 a3).bind fun t117 => (some (decide ((wrap64 (t116 - t117)) ≤ bt111.1))))) else (some true)) else (some false)))) else (some t101)) = some r := by rw [if_neg (show ¬ (false = true) by decide)] at H; exact H
              clear H
              have H := H1
              clear H1
              by_cases c99 : true = true
              ·clear c99
               have H1 : ((exact_Scale.f a4 a1 a2).bind fun bt111 => (if bt111.2.1 > 0 then (if t101 = true then (if bt111.2.2 = true then ((curve_At.f l0 (wrap64 (a3 + a4))).bind fun t114 => ((curve_At.f l0 a3).bind fun t115 => (some (decide ((wrap64 (t114 - t115)) ≤ (wrap64 (bt111.1 + 1))))))) else (some true)) else (some false)) else (if t101 = true then (if bt111.2.2 = true then ((curve_At.f l0 (wrap64 (a3 + a4))).bind fun t116 => ((curve_At.f l0 a3).bind fun t117 => (some (decide ((wrap64 (t116 - t117)) ≤ bt111.1))))) else (some true)) else (some false)))) = some r := by first | (rw [if_pos rfl] at H; exact H) | (rw [if_pos trivial] at H; exact H)
               clear H
               have H := H1
               clear H1
               replace H := Option.bind_eq_some_iff.mp H
               obtain ⟨⟨t111, t112, t113⟩, A1000, H⟩ := H
               replace H : (if t112 > 0 then (if t101 = true then (if t113 = true then ((curve_At.f l0 (wrap64 (a3 + a4))).bind fun t114 => ((curve_At.f l0 a3).bind fun t115 => (some (decide ((wrap64 (t114 - t115)) ≤ (wrap64 (t111 + 1))))))) else (some true)) else (some false)) else (if t101 = true then (if t113 = true then ((curve_At.f l0 (wrap64 (a3 + a4))).bind fun t116 => ((curve_At.f l0 a3).bind fun t117 => (some (decide ((wrap64 (t116 - t117)) ≤ t111))))) else (some true)) else (some false))) = some r := H
               have A100 := Aside0.mk A1000
               clear A1000
               by_cases c101 : t112 > 0
               ·rw [if_pos c101] at H
                have c101b0 : decide (0 < t112) = true := decide_eq_true c101
                clear c101
                by_cases c102 : t101 = true
                ·subst c102
                 have H1 : (if t113 = true then ((curve_At.f l0 (wrap64 (a3 + a4))).bind fun t114 => ((curve_At.f l0 a3).bind fun t115 => (some (decide ((wrap64 (t114 - t115)) ≤ (wrap64 (t111 + 1))))))) else (some true)) = some r := by rw [if_pos rfl] at H; exact H
                 clear H
                 have H := H1
                 clear H1
                 by_cases c103 : t113 = true
                 ·subst c103
                  have H1 : ((curve_At.f l0 (wrap64 (a3 + a4))).bind fun t114 => ((curve_At.f l0 a3).bind fun t115 => (some (decide ((wrap64 (t114 - t115)) ≤ (wrap64 (t111 + 1))))))) = some r := by rw [if_pos rfl] at H; exact H
                  clear H
                  have H := H1
                  clear H1
                  replace H := Option.bind_eq_some_iff.mp H
                  obtain ⟨t114, A1040, H⟩ := H
                  replace H : ((curve_At.f l0 a3).bind fun t115 => (some (decide ((wrap64 (t114 - t115)) ≤ (wrap64 (t111 + 1)))))) = some r := H
                  have A104 := Aside0.mk A1040
                  clear A1040
                  replace H := Option.bind_eq_some_iff.mp H
                  obtain ⟨t115, A1050, H⟩ := H
                  replace H : (some (decide ((wrap64 (t114 - t115)) ≤ (wrap64 (t111 + 1))))) = some r := H
                  have A105 := Aside0.mk A1050
                  clear A1050
                  obtain rfl := Option.some.inj H
                  go_wp2_with (first | (go_at_call 11; (with_reducible refine (curve_Right.calls _ _ l0 false _ ?side1 ?side2 A84.out).mono ?_); (case side1 => repeat (first | exact (Kd.C_below HR0.out HB.out) | (with_reducible refine Kd.C_alloc ?_ _) | (with_reducible refine Kd.C_drewN ?_ _) | (with_reducible refine Kd.C_drew ?_))); (case side2 => exact HC0.out); rintro e w106 ⟨rfl, hb⟩; have n0_ := Aside0.mk (below_step ahx hb); clear HB; have HB := n0_; clear n0_; (try clear hb); (try clear hb2); (try clear hk); (try clear hi)) | ((with_reducible refine gate_callee (f := 21) rfl ?_); refine goesL_ (some 102) rfl rfl Try.func21 (by kernel_rfl) rfl #[.int .i64 a4, .int .i64 a1, .int .i64 a2] rfl (by first | done | rfl) ?_; (with_reducible refine (exact_Scale.calls a4 a1 a2 t111 t112 true _ A100.out).mono ?_); rintro e w' ⟨rfl, ⟨nd, rfl⟩⟩; refine ⟨_, rfl, ?_⟩) | (go_at_call 21; (with_reducible refine (exact_Scale.calls a4 a1 a2 t111 t112 true _ A100.out).mono ?_); rintro e w' ⟨rfl, ⟨nd, rfl⟩⟩) | (go_at_call 13; (with_reducible refine (curve_At.calls _ _ l0 (wrap64 (a3 + a4)) t114 _ ?side1 ?side2 A104.out).mono ?_); (case side1 => repeat (first | exact (Kd.C_below HR0.out ahx) | (with_reducible refine Kd.C_alloc ?_ _) | (with_reducible refine Kd.C_drewN ?_ _) | (with_reducible refine Kd.C_drew ?_))); (case side2 => exact HC0.out); rintro e w107 ⟨rfl, hb⟩; have n0_ := Aside0.mk (below_step ahx hb); clear HB; have HB := n0_; clear n0_; (try clear hb); (try clear hb2); (try clear hk); (try clear hi)) | (go_at_call 13; (with_reducible refine (curve_At.calls _ _ l0 a3 t115 _ ?side1 ?side2 A105.out).mono ?_); (case side1 => repeat (first | exact (Kd.C_below HR0.out HB.out) | (with_reducible refine Kd.C_alloc ?_ _) | (with_reducible refine Kd.C_drewN ?_ _) | (with_reducible refine Kd.C_drew ?_))); (case side2 => exact HC0.out); rintro e w108 ⟨rfl, hb⟩; have n0_ := Aside0.mk (below_step ahx hb); clear HB; have HB := n0_; clear n0_; (try clear hb); (try clear hb2); (try clear hk); (try clear hi)))
                  go_ret
                  exact ⟨by first | rfl | (simp [errW_none, errW_some] <;> rfl) | (simp [*, errW_none, errW_some] <;> rfl), ahx⟩
                 ·replace c103 := Bool.eq_false_iff.mpr c103
                  subst c103
                  have H1 : (some true) = some r := by rw [if_neg (show ¬ (false = true) by decide)] at H; exact H
                  clear H
                  have H := H1
                  clear H1
                  obtain rfl := Option.some.inj H
                  go_wp2_with (first | (go_at_call 11; (with_reducible refine (curve_Right.calls _ _ l0 false _ ?side1 ?side2 A84.out).mono ?_); (case side1 => repeat (first | exact (Kd.C_below HR0.out HB.out) | (with_reducible refine Kd.C_alloc ?_ _) | (with_reducible refine Kd.C_drewN ?_ _) | (with_reducible refine Kd.C_drew ?_))); (case side2 => exact HC0.out); rintro e w109 ⟨rfl, hb⟩; have n0_ := Aside0.mk (below_step ahx hb); clear HB; have HB := n0_; clear n0_; (try clear hb); (try clear hb2); (try clear hk); (try clear hi)) | ((with_reducible refine gate_callee (f := 21) rfl ?_); refine goesL_ (some 102) rfl rfl Try.func21 (by kernel_rfl) rfl #[.int .i64 a4, .int .i64 a1, .int .i64 a2] rfl (by first | done | rfl) ?_; (with_reducible refine (exact_Scale.calls a4 a1 a2 t111 t112 false _ A100.out).mono ?_); rintro e w' ⟨rfl, ⟨nd, rfl⟩⟩; refine ⟨_, rfl, ?_⟩) | (go_at_call 21; (with_reducible refine (exact_Scale.calls a4 a1 a2 t111 t112 false _ A100.out).mono ?_); rintro e w' ⟨rfl, ⟨nd, rfl⟩⟩))
                  go_ret
                  exact ⟨by first | rfl | (simp [errW_none, errW_some] <;> rfl) | (simp [*, errW_none, errW_some] <;> rfl), ahx⟩
                ·replace c102 := Bool.eq_false_iff.mpr c102
                 subst c102
                 have H1 : (some false) = some r := by rw [if_neg (show ¬ (false = true) by decide)] at H; exact H
                 clear H
                 have H := H1
                 clear H1
                 exact NF.go H hr.out (by repeat' first | exact NF.none | exact NF.ff | refine NF.ite ?_ ?_ | refine NF.bind (fun _ => ?_))
               ·rw [if_neg c101] at H
                have c101b0 : decide (0 < t112) = false := decide_eq_false c101
                clear c101
                by_cases c110 : t101 = true
                ·subst c110
                 have H1 : (if t113 = true then ((curve_At.f l0 (wrap64 (a3 + a4))).bind fun t116 => ((curve_At.f l0 a3).bind fun t117 => (some (decide ((wrap64 (t116 - t117)) ≤ t111))))) else (some true)) = some r := by rw [if_pos rfl] at H; exact H
                 clear H
                 have H := H1
                 clear H1
                 by_cases c111 : t113 = true
                 ·subst c111
                  have H1 : ((curve_At.f l0 (wrap64 (a3 + a4))).bind fun t116 => ((curve_At.f l0 a3).bind fun t117 => (some (decide ((wrap64 (t116 - t117)) ≤ t111))))) = some r := by rw [if_pos rfl] at H; exact H
                  clear H
                  have H := H1
                  clear H1
                  replace H := Option.bind_eq_some_iff.mp H
                  obtain ⟨t116, A1120, H⟩ := H
                  replace H : ((curve_At.f l0 a3).bind fun t117 => (some (decide ((wrap64 (t116 - t117)) ≤ t111)))) = some r := H
                  have A112 := Aside0.mk A1120
                  clear A1120
                  replace H := Option.bind_eq_some_iff.mp H
                  obtain ⟨t117, A1130, H⟩ := H
                  replace H : (some (decide ((wrap64 (t116 - t117)) ≤ t111))) = some r := H
                  have A113 := Aside0.mk A1130
                  clear A1130
                  obtain rfl := Option.some.inj H
                  go_wp2_with (first | (go_at_call 11; (with_reducible refine (curve_Right.calls _ _ l0 false _ ?side1 ?side2 A84.out).mono ?_); (case side1 => repeat (first | exact (Kd.C_below HR0.out HB.out) | (with_reducible refine Kd.C_alloc ?_ _) | (with_reducible refine Kd.C_drewN ?_ _) | (with_reducible refine Kd.C_drew ?_))); (case side2 => exact HC0.out); rintro e w114 ⟨rfl, hb⟩; have n0_ := Aside0.mk (below_step ahx hb); clear HB; have HB := n0_; clear n0_; (try clear hb); (try clear hb2); (try clear hk); (try clear hi)) | ((with_reducible refine gate_callee (f := 21) rfl ?_); refine goesL_ (some 102) rfl rfl Try.func21 (by kernel_rfl) rfl #[.int .i64 a4, .int .i64 a1, .int .i64 a2] rfl (by first | done | rfl) ?_; (with_reducible refine (exact_Scale.calls a4 a1 a2 t111 t112 true _ A100.out).mono ?_); rintro e w' ⟨rfl, ⟨nd, rfl⟩⟩; refine ⟨_, rfl, ?_⟩) | (go_at_call 21; (with_reducible refine (exact_Scale.calls a4 a1 a2 t111 t112 true _ A100.out).mono ?_); rintro e w' ⟨rfl, ⟨nd, rfl⟩⟩) | (go_at_call 13; (with_reducible refine (curve_At.calls _ _ l0 (wrap64 (a3 + a4)) t116 _ ?side1 ?side2 A112.out).mono ?_); (case side1 => repeat (first | exact (Kd.C_below HR0.out ahx) | (with_reducible refine Kd.C_alloc ?_ _) | (with_reducible refine Kd.C_drewN ?_ _) | (with_reducible refine Kd.C_drew ?_))); (case side2 => exact HC0.out); rintro e w115 ⟨rfl, hb⟩; have n0_ := Aside0.mk (below_step ahx hb); clear HB; have HB := n0_; clear n0_; (try clear hb); (try clear hb2); (try clear hk); (try clear hi)) | (go_at_call 13; (with_reducible refine (curve_At.calls _ _ l0 a3 t117 _ ?side1 ?side2 A113.out).mono ?_); (case side1 => repeat (first | exact (Kd.C_below HR0.out HB.out) | (with_reducible refine Kd.C_alloc ?_ _) | (with_reducible refine Kd.C_drewN ?_ _) | (with_reducible refine Kd.C_drew ?_))); (case side2 => exact HC0.out); rintro e w116 ⟨rfl, hb⟩; have n0_ := Aside0.mk (below_step ahx hb); clear HB; have HB := n0_; clear n0_; (try clear hb); (try clear hb2); (try clear hk); (try clear hi)))
                  go_ret
                  exact ⟨by first | rfl | (simp [errW_none, errW_some] <;> rfl) | (simp [*, errW_none, errW_some] <;> rfl), ahx⟩
                 ·replace c111 := Bool.eq_false_iff.mpr c111
                  subst c111
                  have H1 : (some true) = some r := by rw [if_neg (show ¬ (false = true) by decide)] at H; exact H
                  clear H
                  have H := H1
                  clear H1
                  obtain rfl := Option.some.inj H
                  go_wp2_with (first | (go_at_call 11; (with_reducible refine (curve_Right.calls _ _ l0 false _ ?side1 ?side2 A84.out).mono ?_); (case side1 => repeat (first | exact (Kd.C_below HR0.out HB.out) | (with_reducible refine Kd.C_alloc ?_ _) | (with_reducible refine Kd.C_drewN ?_ _) | (with_reducible refine Kd.C_drew ?_))); (case side2 => exact HC0.out); rintro e w117 ⟨rfl, hb⟩; have n0_ := Aside0.mk (below_step ahx hb); clear HB; have HB := n0_; clear n0_; (try clear hb); (try clear hb2); (try clear hk); (try clear hi)) | ((with_reducible refine gate_callee (f := 21) rfl ?_); refine goesL_ (some 102) rfl rfl Try.func21 (by kernel_rfl) rfl #[.int .i64 a4, .int .i64 a1, .int .i64 a2] rfl (by first | done | rfl) ?_; (with_reducible refine (exact_Scale.calls a4 a1 a2 t111 t112 false _ A100.out).mono ?_); rintro e w' ⟨rfl, ⟨nd, rfl⟩⟩; refine ⟨_, rfl, ?_⟩) | (go_at_call 21; (with_reducible refine (exact_Scale.calls a4 a1 a2 t111 t112 false _ A100.out).mono ?_); rintro e w' ⟨rfl, ⟨nd, rfl⟩⟩))
                  go_ret
                  exact ⟨by first | rfl | (simp [errW_none, errW_some] <;> rfl) | (simp [*, errW_none, errW_some] <;> rfl), ahx⟩
                ·replace c110 := Bool.eq_false_iff.mpr c110
                 subst c110
                 have H1 : (some false) = some r := by rw [if_neg (show ¬ (false = true) by decide)] at H; exact H
                 clear H
                 have H := H1
                 clear H1
                 exact NF.go H hr.out (by repeat' first | exact NF.none | exact NF.ff | refine NF.ite ?_ ?_ | refine NF.bind (fun _ => ?_))
              ·exact absurd rfl c99
            ·rw [if_neg c83] at H
             have c83b0 : decide (x13_1 < (l0.length : Int)) = false := decide_eq_false c83
             clear c83
             by_cases c119 : true = true
             ·clear c119
              have H1 : ((exact_Scale.f a4 a1 a2).bind fun bt118 => (if bt118.2.1 > 0 then (if t101 = true then (if bt118.2.2 = true then ((curve_At.f l0 (wrap64 (a3 + a4))).bind fun t121 => ((curve_At.f l0 a3).bind fun t122 => (some (decide ((wrap64 (t121 - t122)) ≤ (wrap64 (bt118.1 + 1))))))) else (some true)) else (some false)) else (if t101 = true then (if bt118.2.2 = true then ((curve_At.f l0 (wrap64 (a3 + a4))).bind fun t123 => ((curve_At.f l0 a3).bind fun t124 => (some (decide ((wrap64 (t123 - t124)) ≤ bt118.1))))) else (some true)) else (some false)))) = some r := by first | (rw [if_pos rfl] at H; exact H) | (rw [if_pos trivial] at H; exact H)
              clear H
              have H := H1
              clear H1
              replace H := Option.bind_eq_some_iff.mp H
              obtain ⟨⟨t118, t119, t120⟩, A1200, H⟩ := H
              replace H : (if t119 > 0 then (if t101 = true then (if t120 = true then ((curve_At.f l0 (wrap64 (a3 + a4))).bind fun t121 => ((curve_At.f l0 a3).bind fun t122 => (some (decide ((wrap64 (t121 - t122)) ≤ (wrap64 (t118 + 1))))))) else (some true)) else (some false)) else (if t101 = true then (if t120 = true then ((curve_At.f l0 (wrap64 (a3 + a4))).bind fun t123 => ((curve_At.f l0 a3).bind fun t124 => (some (decide ((wrap64 (t123 - t124)) ≤ t118))))) else (some true)) else (some false))) = some r := H
              have A120 := Aside0.mk A1200
              clear A1200
              by_cases c121 : t119 > 0
              ·rw [if_pos c121] at H
               have c121b0 : decide (0 < t119) = true := decide_eq_true c121
               clear c121
               by_cases c122 : t101 = true
               ·subst c122
                have H1 : (if t120 = true then ((curve_At.f l0 (wrap64 (a3 + a4))).bind fun t121 => ((curve_At.f l0 a3).bind fun t122 => (some (decide ((wrap64 (t121 - t122)) ≤ (wrap64 (t118 + 1))))))) else (some true)) = some r := by rw [if_pos rfl] at H; exact H
                clear H
                have H := H1
                clear H1
                by_cases c123 : t120 = true
                ·subst c123
                 have H1 : ((curve_At.f l0 (wrap64 (a3 + a4))).bind fun t121 => ((curve_At.f l0 a3).bind fun t122 => (some (decide ((wrap64 (t121 - t122)) ≤ (wrap64 (t118 + 1))))))) = some r := by rw [if_pos rfl] at H; exact H
                 clear H
                 have H := H1
                 clear H1
                 replace H := Option.bind_eq_some_iff.mp H
                 obtain ⟨t121, A1240, H⟩ := H
                 replace H : ((curve_At.f l0 a3).bind fun t122 => (some (decide ((wrap64 (t121 - t122)) ≤ (wrap64 (t118 + 1)))))) = some r := H
                 have A124 := Aside0.mk A1240
                 clear A1240
                 replace H := Option.bind_eq_some_iff.mp H
                 obtain ⟨t122, A1250, H⟩ := H
                 replace H : (some (decide ((wrap64 (t121 - t122)) ≤ (wrap64 (t118 + 1))))) = some r := H
                 have A125 := Aside0.mk A1250
                 clear A1250
                 obtain rfl := Option.some.inj H
                 go_wp2_with (first | ((with_reducible refine gate_callee (f := 21) rfl ?_); refine goesL_ (some 102) rfl rfl Try.func21 (by kernel_rfl) rfl #[.int .i64 a4, .int .i64 a1, .int .i64 a2] rfl (by first | done | rfl) ?_; (with_reducible refine (exact_Scale.calls a4 a1 a2 t118 t119 true _ A120.out).mono ?_); rintro e w' ⟨rfl, ⟨nd, rfl⟩⟩; refine ⟨_, rfl, ?_⟩) | (go_at_call 21; (with_reducible refine (exact_Scale.calls a4 a1 a2 t118 t119 true _ A120.out).mono ?_); rintro e w' ⟨rfl, ⟨nd, rfl⟩⟩) | (go_at_call 13; (with_reducible refine (curve_At.calls _ _ l0 (wrap64 (a3 + a4)) t121 _ ?side1 ?side2 A124.out).mono ?_); (case side1 => repeat (first | exact (Kd.C_below HR0.out ahx) | (with_reducible refine Kd.C_alloc ?_ _) | (with_reducible refine Kd.C_drewN ?_ _) | (with_reducible refine Kd.C_drew ?_))); (case side2 => exact HC0.out); rintro e w126 ⟨rfl, hb⟩; have n0_ := Aside0.mk (below_step ahx hb); clear HB; have HB := n0_; clear n0_; (try clear hb); (try clear hb2); (try clear hk); (try clear hi)) | (go_at_call 13; (with_reducible refine (curve_At.calls _ _ l0 a3 t122 _ ?side1 ?side2 A125.out).mono ?_); (case side1 => repeat (first | exact (Kd.C_below HR0.out HB.out) | (with_reducible refine Kd.C_alloc ?_ _) | (with_reducible refine Kd.C_drewN ?_ _) | (with_reducible refine Kd.C_drew ?_))); (case side2 => exact HC0.out); rintro e w127 ⟨rfl, hb⟩; have n0_ := Aside0.mk (below_step ahx hb); clear HB; have HB := n0_; clear n0_; (try clear hb); (try clear hb2); (try clear hk); (try clear hi)))
                 go_ret
                 exact ⟨by first | rfl | (simp [errW_none, errW_some] <;> rfl) | (simp [*, errW_none, errW_some] <;> rfl), ahx⟩
                ·replace c123 := Bool.eq_false_iff.mpr c123
                 subst c123
                 have H1 : (some true) = some r := by rw [if_neg (show ¬ (false = true) by decide)] at H; exact H
                 clear H
                 have H := H1
                 clear H1
                 obtain rfl := Option.some.inj H
                 go_wp2_with (first | ((with_reducible refine gate_callee (f := 21) rfl ?_); refine goesL_ (some 102) rfl rfl Try.func21 (by kernel_rfl) rfl #[.int .i64 a4, .int .i64 a1, .int .i64 a2] rfl (by first | done | rfl) ?_; (with_reducible refine (exact_Scale.calls a4 a1 a2 t118 t119 false _ A120.out).mono ?_); rintro e w' ⟨rfl, ⟨nd, rfl⟩⟩; refine ⟨_, rfl, ?_⟩) | (go_at_call 21; (with_reducible refine (exact_Scale.calls a4 a1 a2 t118 t119 false _ A120.out).mono ?_); rintro e w' ⟨rfl, ⟨nd, rfl⟩⟩))
                 go_ret
                 exact ⟨by first | rfl | (simp [errW_none, errW_some] <;> rfl) | (simp [*, errW_none, errW_some] <;> rfl), ahx⟩
               ·replace c122 := Bool.eq_false_iff.mpr c122
                subst c122
                have H1 : (some false) = some r := by rw [if_neg (show ¬ (false = true) by decide)] at H; exact H
                clear H
                have H := H1
                clear H1
                exact NF.go H hr.out (by repeat' first | exact NF.none | exact NF.ff | refine NF.ite ?_ ?_ | refine NF.bind (fun _ => ?_))
              ·rw [if_neg c121] at H
               have c121b0 : decide (0 < t119) = false := decide_eq_false c121
               clear c121
               by_cases c128 : t101 = true
               ·subst c128
                have H1 : (if t120 = true then ((curve_At.f l0 (wrap64 (a3 + a4))).bind fun t123 => ((curve_At.f l0 a3).bind fun t124 => (some (decide ((wrap64 (t123 - t124)) ≤ t118))))) else (some true)) = some r := by rw [if_pos rfl] at H; exact H
                clear H
                have H := H1
                clear H1
                by_cases c129 : t120 = true
                ·subst c129
                 have H1 : ((curve_At.f l0 (wrap64 (a3 + a4))).bind fun t123 => ((curve_At.f l0 a3).bind fun t124 => (some (decide ((wrap64 (t123 - t124)) ≤ t118))))) = some r := by rw [if_pos rfl] at H; exact H
                 clear H
                 have H := H1
                 clear H1
                 replace H := Option.bind_eq_some_iff.mp H
                 obtain ⟨t123, A1300, H⟩ := H
                 replace H : ((curve_At.f l0 a3).bind fun t124 => (some (decide ((wrap64 (t123 - t124)) ≤ t118)))) = some r := H
                 have A130 := Aside0.mk A1300
                 clear A1300
                 replace H := Option.bind_eq_some_iff.mp H
                 obtain ⟨t124, A1310, H⟩ := H
                 replace H : (some (decide ((wrap64 (t123 - t124)) ≤ t118))) = some r := H
                 have A131 := Aside0.mk A1310
                 clear A1310
                 obtain rfl := Option.some.inj H
                 go_wp2_with (first | ((with_reducible refine gate_callee (f := 21) rfl ?_); refine goesL_ (some 102) rfl rfl Try.func21 (by kernel_rfl) rfl #[.int .i64 a4, .int .i64 a1, .int .i64 a2] rfl (by first | done | rfl) ?_; (with_reducible refine (exact_Scale.calls a4 a1 a2 t118 t119 true _ A120.out).mono ?_); rintro e w' ⟨rfl, ⟨nd, rfl⟩⟩; refine ⟨_, rfl, ?_⟩) | (go_at_call 21; (with_reducible refine (exact_Scale.calls a4 a1 a2 t118 t119 true _ A120.out).mono ?_); rintro e w' ⟨rfl, ⟨nd, rfl⟩⟩) | (go_at_call 13; (with_reducible refine (curve_At.calls _ _ l0 (wrap64 (a3 + a4)) t123 _ ?side1 ?side2 A130.out).mono ?_); (case side1 => repeat (first | exact (Kd.C_below HR0.out ahx) | (with_reducible refine Kd.C_alloc ?_ _) | (with_reducible refine Kd.C_drewN ?_ _) | (with_reducible refine Kd.C_drew ?_))); (case side2 => exact HC0.out); rintro e w132 ⟨rfl, hb⟩; have n0_ := Aside0.mk (below_step ahx hb); clear HB; have HB := n0_; clear n0_; (try clear hb); (try clear hb2); (try clear hk); (try clear hi)) | (go_at_call 13; (with_reducible refine (curve_At.calls _ _ l0 a3 t124 _ ?side1 ?side2 A131.out).mono ?_); (case side1 => repeat (first | exact (Kd.C_below HR0.out HB.out) | (with_reducible refine Kd.C_alloc ?_ _) | (with_reducible refine Kd.C_drewN ?_ _) | (with_reducible refine Kd.C_drew ?_))); (case side2 => exact HC0.out); rintro e w133 ⟨rfl, hb⟩; have n0_ := Aside0.mk (below_step ahx hb); clear HB; have HB := n0_; clear n0_; (try clear hb); (try clear hb2); (try clear hk); (try clear hi)))
                 go_ret
                 exact ⟨by first | rfl | (simp [errW_none, errW_some] <;> rfl) | (simp [*, errW_none, errW_some] <;> rfl), ahx⟩
                ·replace c129 := Bool.eq_false_iff.mpr c129
                 subst c129
                 have H1 : (some true) = some r := by rw [if_neg (show ¬ (false = true) by decide)] at H; exact H
                 clear H
                 have H := H1
                 clear H1
                 obtain rfl := Option.some.inj H
                 go_wp2_with (first | ((with_reducible refine gate_callee (f := 21) rfl ?_); refine goesL_ (some 102) rfl rfl Try.func21 (by kernel_rfl) rfl #[.int .i64 a4, .int .i64 a1, .int .i64 a2] rfl (by first | done | rfl) ?_; (with_reducible refine (exact_Scale.calls a4 a1 a2 t118 t119 false _ A120.out).mono ?_); rintro e w' ⟨rfl, ⟨nd, rfl⟩⟩; refine ⟨_, rfl, ?_⟩) | (go_at_call 21; (with_reducible refine (exact_Scale.calls a4 a1 a2 t118 t119 false _ A120.out).mono ?_); rintro e w' ⟨rfl, ⟨nd, rfl⟩⟩))
                 go_ret
                 exact ⟨by first | rfl | (simp [errW_none, errW_some] <;> rfl) | (simp [*, errW_none, errW_some] <;> rfl), ahx⟩
               ·replace c128 := Bool.eq_false_iff.mpr c128
                subst c128
                have H1 : (some false) = some r := by rw [if_neg (show ¬ (false = true) by decide)] at H; exact H
                clear H
                have H := H1
                clear H1
                exact NF.go H hr.out (by repeat' first | exact NF.none | exact NF.ff | refine NF.ite ?_ ?_ | refine NF.bind (fun _ => ?_))
             ·exact absurd rfl c119
        ·replace c21 := Bool.eq_false_iff.mpr c21
         subst c21
         have H1 : (some false) = some r := by rw [if_neg (show ¬ (false = true) by decide)] at H; exact H
         clear H
         have H := H1
         clear H1
         exact NF.go H hr.out (by repeat' first | exact NF.none | exact NF.ff | refine NF.ite ?_ ?_ | refine NF.bind (fun _ => ?_))
       ·rw [if_neg c19] at H
        have c19b0 : decide (a1 < 1125899906842624) = false := decide_eq_false c19
        clear c19
        by_cases c134 : a2 > 1
        ·rw [if_pos c134] at H
         have c134b0 : decide (1 < a2) = true := decide_eq_true c134
         clear c134
         replace H := Option.bind_eq_some_iff.mp H
         obtain ⟨t125, A1350, H⟩ := H
         replace H : (if t125 = true then (bournelaw10_CurveSlopes.l0 k l0 a1 a2 a3 a4 t101 true 1) else (some false)) = some r := H
         have A135 := Aside0.mk A1350
         clear A1350
         by_cases c136 : t125 = true
         ·subst c136
          have H1 : (bournelaw10_CurveSlopes.l0 k l0 a1 a2 a3 a4 t101 true 1) = some r := by rw [if_pos rfl] at H; exact H
          clear H
          have H := H1
          clear H1
          have H' := Aside0.mk H
          clear H
          go_enter Try.func5, Try.ntmps5
          go_wp2_with (first | ((with_reducible refine gate_callee (f := 8) rfl ?_); refine goesL_ (some 18) rfl rfl Try.func8 (by kernel_rfl) rfl #[] rfl (by first | done | rfl) ?_; (with_reducible refine (bournelaw10_small.calls  t101 _ A6.out).mono ?_); rintro e w137 ⟨rfl, hb⟩; refine ⟨_, rfl, ?_⟩; have n0_ := Aside0.mk (below_step ahx hb); clear HB; have HB := n0_; clear n0_; (try clear hb); (try clear hb2); (try clear hk); (try clear hi)) | (go_at_call 8; (with_reducible refine (bournelaw10_small.calls  t101 _ A6.out).mono ?_); rintro e w137 ⟨rfl, hb⟩; have n0_ := Aside0.mk (below_step ahx hb); clear HB; have HB := n0_; clear n0_; (try clear hb); (try clear hb2); (try clear hk); (try clear hi)) | ((with_reducible refine gate_callee (f := 15) rfl ?_); refine goesL_ (some 42) rfl rfl Try.func15 (by kernel_rfl) rfl #[.slice A0 l0.length c0, .int .i64 a1, .int .i64 a2] rfl (by first | done | rfl) ?_; (with_reducible refine (curve_Slope.calls _ _ l0 a1 a2 true _ ?side1 ?side2 A17.out).mono ?_); (case side1 => repeat (first | exact (Kd.C_below HR0.out HB.out) | (with_reducible refine Kd.C_alloc ?_ _) | (with_reducible refine Kd.C_drewN ?_ _) | (with_reducible refine Kd.C_drew ?_))); (case side2 => exact HC0.out); rintro e w138 ⟨rfl, hb⟩; refine ⟨_, rfl, ?_⟩; have n0_ := Aside0.mk (below_step ahx hb); clear HB; have HB := n0_; clear n0_; (try clear hb); (try clear hb2); (try clear hk); (try clear hi)) | (go_at_call 15; (with_reducible refine (curve_Slope.calls _ _ l0 a1 a2 true _ ?side1 ?side2 A17.out).mono ?_); (case side1 => repeat (first | exact (Kd.C_below HR0.out HB.out) | (with_reducible refine Kd.C_alloc ?_ _) | (with_reducible refine Kd.C_drewN ?_ _) | (with_reducible refine Kd.C_drew ?_))); (case side2 => exact HC0.out); rintro e w138 ⟨rfl, hb⟩; have n0_ := Aside0.mk (below_step ahx hb); clear HB; have HB := n0_; clear n0_; (try clear hb); (try clear hb2); (try clear hk); (try clear hi)) | (go_at_call 15; (with_reducible refine (curve_Slope.calls _ _ l0 a1 (wrap64 (a2 - 1)) true _ ?side1 ?side2 A135.out).mono ?_); (case side1 => repeat (first | exact (Kd.C_below HR0.out HB.out) | (with_reducible refine Kd.C_alloc ?_ _) | (with_reducible refine Kd.C_drewN ?_ _) | (with_reducible refine Kd.C_drew ?_))); (case side2 => exact HC0.out); rintro e w139 ⟨rfl, hb⟩; have n0_ := Aside0.mk (below_step ahx hb); clear HB; have HB := n0_; clear n0_; (try clear hb); (try clear hb2); (try clear hk); (try clear hi)))
          go_loopg [13] k (fun kq v13 w' => ∃ (x13_1 : Int), v13 = .int .i64 x13_1 ∧ Aside0 (bournelaw10_CurveSlopes.l0 kq l0 a1 a2 a3 a4 t101 true x13_1 = some r) ∧ Aside0 (kq ≤ k) ∧ Aside0 (Below w.heap.size w w'))
          case atStart => exact ⟨(1), (by first | rfl | (simp; done) | (simp [*]; done)), H', ⟨Nat.le_refl _⟩, ⟨ahx⟩⟩
          case round =>
           clear H'
           try clear c1
           try clear c2
           try clear p2
           try clear c3
           try clear c4
           try clear q4
           try clear c5
           try clear c6
           try clear p6
           try clear c7
           try clear c7b0
           try clear c7b1
           try clear c8
           try clear c9
           try clear c9b0
           try clear q9
           try clear c10
           try clear c11
           try clear c11b0
           try clear c12
           try clear c13
           try clear c13b0
           try clear c15
           try clear c15b0
           try clear c18
           try clear c19
           try clear c19b0
           try clear c21
           try clear c22
           try clear c22b0
           try clear c24
           try clear c29
           try clear c29b0
           try clear c31
           try clear c33
           try clear c33b0
           try clear c33b1
           try clear c34
           try clear c34b0
           try clear c34b1
           try clear c35
           try clear c35b0
           try clear c35b1
           try clear c37
           try clear c38
           try clear c40
           try clear q40
           try clear c43
           try clear q43
           try clear c45
           try clear c47
           try clear c47b0
           try clear c48
           try clear c49
           try clear c56
           try clear c57
           try clear p64
           try clear c65
           try clear c67
           try clear c67b0
           try clear c68
           try clear c69
           try clear c74
           try clear c75
           try clear c83
           try clear c83b0
           try clear c85
           try clear c87
           try clear c87b0
           try clear c87b1
           try clear c88
           try clear c88b0
           try clear c88b1
           try clear c89
           try clear c89b0
           try clear c89b1
           try clear c91
           try clear c92
           try clear c94
           try clear q94
           try clear c97
           try clear q97
           try clear c99
           try clear c101
           try clear c101b0
           try clear c102
           try clear c103
           try clear c110
           try clear c111
           try clear c119
           try clear c121
           try clear c121b0
           try clear c122
           try clear c123
           try clear c128
           try clear c129
           try clear c134
           try clear c134b0
           try clear c136
           try clear p2
           try clear p6
           try clear p64
           try clear q040
           try clear q043
           try clear q094
           try clear q097
           try clear q4
           try clear q40
           try clear q43
           try clear q94
           try clear q97
           obtain ⟨x13_1, rfl, HA, HK1, HB⟩ := hrel
           cases gk with
           | zero => exact absurd HA.out (by simp [bournelaw10_CurveSlopes.l0])
           | succ k1 =>
            have H := HA.out
            clear HA
            simp only [bournelaw10_CurveSlopes.l0] at H
            by_cases c140 : x13_1 < (l0.length : Int)
            ·rw [if_pos c140] at H
             have c140b0 : decide (x13_1 < (l0.length : Int)) = true := decide_eq_true c140
             clear c140
             replace H := Option.bind_eq_some_iff.mp H
             obtain ⟨t105, A1410, H⟩ := H
             replace H : (if t105 = true then (if 0 ≤ (wrap64 (x13_1 - 1)) then (if (wrap64 (x13_1 - 1)) ≤ (wrap64 (x13_1 + 1)) then (if (wrap64 (x13_1 + 1)) ≤ (l0.length : Int) then ((curve_Slope.f ((l0.take ((wrap64 (x13_1 + 1)) : Int).toNat).drop ((wrap64 (x13_1 - 1)) : Int).toNat) a1 a2).bind fun t110 => (if true = true then (if t110 = true then (bournelaw10_CurveSlopes.l0 k1 l0 a1 a2 a3 a4 t101 true (wrap64 (x13_1 + 1))) else (some false)) else (bournelaw10_CurveSlopes.l0 k1 l0 a1 a2 a3 a4 t101 true (wrap64 (x13_1 + 1))))) else (none)) else (none)) else (none)) else (if true = true then ((exact_Scale.f a4 a1 a2).bind fun bt111 => (if bt111.2.1 > 0 then (if t101 = true then (if bt111.2.2 = true then ((curve_At.f l0 (wrap64 (a3 + a4))).bind fun t114 => ((curve_At.f l0 a3).bind fun t115 => (some (decide ((wrap64 (t114 - t115)) ≤ (wrap64 (bt111.1 + 1))))))) else (some true)) else (some false)) else (if t101 = true then (if bt111.2.2 = true then ((curve_At.f l0 (wrap64 (a3 + a4))).bind fun t116 => ((curve_At.f l0 a3).bind fun t117 => (some (decide ((wrap64 (t116 - t117)) ≤ bt111.1))))) else (some true)) else (some false)))) else (some t101))) = some r := H
             have A141 := Aside0.mk A1410
             clear A1410
             by_cases c142 : t105 = true
             ·subst c142
              have H1 : (if 0 ≤ (wrap64 (x13_1 - 1)) then (if (wrap64 (x13_1 - 1)) ≤ (wrap64 (x13_1 + 1)) then (if (wrap64 (x13_1 + 1)) ≤ (l0.length : Int) then ((curve_Slope.f ((l0.take ((wrap64 (x13_1 + 1)) : Int).toNat).drop ((wrap64 (x13_1 - 1)) : Int).toNat) a1 a2).bind fun t110 => (if true = true then (if t110 = true then (bournelaw10_CurveSlopes.l0 k1 l0 a1 a2 a3 a4 t101 true (wrap64 (x13_1 + 1))) else (some false)) else (bournelaw10_CurveSlopes.l0 k1 l0 a1 a2 a3 a4 t101 true (wrap64 (x13_1 + 1))))) else (none)) else (none)) else (none)) = some r := by rw [if_pos rfl] at H; exact H
              clear H
              have H := H1
              clear H1
              obtain ⟨ji143, hji143⟩ : ∃ j_ : Int, (wrap64 (x13_1 - 1)) = j_ := ⟨_, rfl⟩
              replace H : (if 0 ≤ (ji143) then (if (ji143) ≤ (wrap64 (x13_1 + 1)) then (if (wrap64 (x13_1 + 1)) ≤ (l0.length : Int) then ((curve_Slope.f ((l0.take ((wrap64 (x13_1 + 1)) : Int).toNat).drop ((ji143) : Int).toNat) a1 a2).bind fun t110 => (if true = true then (if t110 = true then (bournelaw10_CurveSlopes.l0 k1 l0 a1 a2 a3 a4 t101 true (wrap64 (x13_1 + 1))) else (some false)) else (bournelaw10_CurveSlopes.l0 k1 l0 a1 a2 a3 a4 t101 true (wrap64 (x13_1 + 1))))) else (none)) else (none)) else (none)) = some r := by first | (rw [hji143] at H; exact H) | (simp only [hji143] at H ⊢; exact H)
              (try rw [hji143] at A141)
              have hji143w : (IntKind.i64.wrap (x13_1 - 1)) = ji143 := (i64_w _).trans hji143
              by_cases c144 : 0 ≤ (ji143)
              ·rw [if_pos c144] at H
               have c144b0 := eq_true c144
               have c144b1 : decide (0 ≤ (ji143)) = true := decide_eq_true c144
               clear c144
               by_cases c145 : (ji143) ≤ (wrap64 (x13_1 + 1))
               ·rw [if_pos c145] at H
                have c145b0 := eq_true c145
                have c145b1 : decide ((ji143) ≤ (wrap64 (x13_1 + 1))) = true := decide_eq_true c145
                by_cases c146 : (wrap64 (x13_1 + 1)) ≤ (l0.length : Int)
                ·rw [if_pos c146] at H
                 have c146b0 := eq_true c146
                 have c146b1 : decide ((wrap64 (x13_1 + 1)) ≤ (l0.length : Int)) = true := decide_eq_true c146
                 obtain ⟨y106, hy106⟩ : ∃ y_ : List (S37), y_ = ((l0.take ((wrap64 (x13_1 + 1)) : Int).toNat).drop ((ji143) : Int).toNat) := ⟨_, rfl⟩
                 replace H : ((curve_Slope.f y106 a1 a2).bind fun t110 => (if true = true then (if t110 = true then (bournelaw10_CurveSlopes.l0 k1 l0 a1 a2 a3 a4 t101 true (wrap64 (x13_1 + 1))) else (some false)) else (bournelaw10_CurveSlopes.l0 k1 l0 a1 a2 a3 a4 t101 true (wrap64 (x13_1 + 1))))) = some r := by first | (rw [hy106]; with_reducible exact H) | (have H2_ := (Option.bind_some _ _).symm.trans H; rw [hy106]; with_reducible exact H2_) | (have H2_ := (Option.bind_some _ _).symm.trans H; with_reducible exact H2_) | with_reducible exact H | (rw [hy106]; exact H) | exact H
                 have Ny106 := Aside0.mk hy106
                 clear hy106
                 replace H := Option.bind_eq_some_iff.mp H
                 obtain ⟨t110, A1470, H⟩ := H
                 replace H : (if true = true then (if t110 = true then (bournelaw10_CurveSlopes.l0 k1 l0 a1 a2 a3 a4 t101 true (wrap64 (x13_1 + 1))) else (some false)) else (bournelaw10_CurveSlopes.l0 k1 l0 a1 a2 a3 a4 t101 true (wrap64 (x13_1 + 1)))) = some r := H
                 have A147 := Aside0.mk A1470
                 clear A1470
                 by_cases c148 : true = true
                 ·clear c148
                  have H1 : (if t110 = true then (bournelaw10_CurveSlopes.l0 k1 l0 a1 a2 a3 a4 t101 true (wrap64 (x13_1 + 1))) else (some false)) = some r := by first | (rw [if_pos rfl] at H; exact H) | (rw [if_pos trivial] at H; exact H)
                  clear H
                  have H := H1
                  clear H1
                  by_cases c149 : t110 = true
                  ·subst c149
                   have H1 : (bournelaw10_CurveSlopes.l0 k1 l0 a1 a2 a3 a4 t101 true (wrap64 (x13_1 + 1))) = some r := by rw [if_pos rfl] at H; exact H
                   clear H
                   have H := H1
                   clear H1
                   have H' := Aside0.mk H
                   clear H
                   go_wp2_with (first | (go_at_call 11; (with_reducible refine (curve_Right.calls _ _ l0 true _ ?side1 ?side2 A141.out).mono ?_); (case side1 => repeat (first | exact (Kd.C_below HR0.out HB.out) | (with_reducible refine Kd.C_alloc ?_ _) | (with_reducible refine Kd.C_drewN ?_ _) | (with_reducible refine Kd.C_drew ?_))); (case side2 => exact HC0.out); rintro e w150 ⟨rfl, hb⟩; have n0_ := Aside0.mk (below_step ahx hb); clear HB; have HB := n0_; clear n0_; (try clear hb); (try clear hb2); (try clear hk); (try clear hi); have q151 : ((wrap64 (x13_1 + 1)) : Int) ≤ ((l0.length : Int) : Int) := of_decide_eq_true (by first | (with_reducible assumption) | assumption); obtain ⟨i0151, hi0151, _, hsz151, _⟩ := info_parts info37; have hroom151 : l0.length ≤ c0 := HC0.out; have hC151 : Kd.C k37 _ A0 l0.length l0 := HR0.out; have ql151 : ((ji143) : Int) ≤ ((wrap64 (x13_1 + 1)) : Int) := of_decide_eq_true (by first | (with_reducible assumption) | assumption); have q0151 : (0 : Int) ≤ ((ji143) : Int) := of_decide_eq_true (by first | (with_reducible assumption) | assumption); have hcut151 := cut_mid (P := Try.prog) 22 37 .i64 .i64 Try.underlying22 hi0151 2 hsz151 A0 l0.length c0 (ji143) (wrap64 (x13_1 + 1)) q0151 ql151 q151 hroom151; have hr151 := Kd.C_mid (lo := ((ji143) : Int).toNat) (hi := ((wrap64 (x13_1 + 1)) : Int).toNat) (c := c0) hC151 (by omega) (by omega) hroom151; obtain ⟨A151, hA151⟩ : ∃ A1, A1 = (if c0 = ((ji143) : Int).toNat then A0 else (A0 : Option Addr).map (·.add (((ji143) : Int).toNat * 2))) := ⟨_, rfl⟩; obtain ⟨c151, hc151⟩ : ∃ c1, c1 = c0 - ((ji143) : Int).toNat := ⟨_, rfl⟩; have hy151 : y106.length = ((wrap64 (x13_1 + 1)) : Int).toNat - ((ji143) : Int).toNat := (by rw [Ny106.out, List.length_drop, List.length_take] <;> omega); rw [show ((l0).take ((wrap64 (x13_1 + 1)) : Int).toNat).drop ((ji143) : Int).toNat = y106 from Ny106.out.symm] at hr151; replace hr151 : Kd.C k37 _ A151 y106.length y106 := (by rw [hA151]; exact hr151); rw [← hy151, ← hA151, ← hc151] at hcut151; have HR109 := Aside0.mk hr151; have HC109 := Aside0.mk (show y106.length ≤ c151 from by rw [hy151, hc151]; exact Nat.sub_le_sub_right (Nat.le_trans (by omega) hroom151) _); clear hr151 hC151 hroom151 hi0151 hsz151 hc151; have KY151 := Aside0.mk hy151; have KA151 := Aside0.mk hA151; clear hy151 hA151; replace q151 := eq_true q151) | ((with_reducible refine gate_callee (f := 15) rfl ?_); refine goesL_ (some 89) rfl rfl Try.func15 (by kernel_rfl) rfl #[.slice A151 y106.length c151, .int .i64 a1, .int .i64 a2] rfl (by first | done | rfl) ?_; (with_reducible refine (curve_Slope.calls _ _ y106 a1 a2 true _ ?side1 ?side2 A147.out).mono ?_); (case side1 => repeat (first | exact (Kd.C_below HR109.out HB.out) | (with_reducible refine Kd.C_alloc ?_ _) | (with_reducible refine Kd.C_drewN ?_ _) | (with_reducible refine Kd.C_drew ?_))); (case side2 => exact HC109.out); rintro e w152 ⟨rfl, hb⟩; refine ⟨_, rfl, ?_⟩; have n0_ := Aside0.mk (below_step ahx hb); clear HB; have HB := n0_; clear n0_; (try clear hb); (try clear hb2); (try clear hk); (try clear hi)) | (go_at_call 15; (with_reducible refine (curve_Slope.calls _ _ y106 a1 a2 true _ ?side1 ?side2 A147.out).mono ?_); (case side1 => repeat (first | exact (Kd.C_below HR109.out HB.out) | (with_reducible refine Kd.C_alloc ?_ _) | (with_reducible refine Kd.C_drewN ?_ _) | (with_reducible refine Kd.C_drew ?_))); (case side2 => exact HC109.out); rintro e w152 ⟨rfl, hb⟩; have n0_ := Aside0.mk (below_step ahx hb); clear HB; have HB := n0_; clear n0_; (try clear hb); (try clear hb2); (try clear hk); (try clear hi)))
                   go_roundg k1
                   case measure => have := HK1.out; omega
                   case rel => exact ⟨(wrap64 (x13_1 + 1)), (by first | rfl | (simp; done) | (simp [*]; done)), H', ⟨by have := HK1.out; omega⟩, ⟨ahx⟩⟩
                  ·replace c149 := Bool.eq_false_iff.mpr c149
                   subst c149
                   have H1 : (some false) = some r := by rw [if_neg (show ¬ (false = true) by decide)] at H; exact H
                   clear H
                   have H := H1
                   clear H1
                   exact NF.go H hr.out (by repeat' first | exact NF.none | exact NF.ff | refine NF.ite ?_ ?_ | refine NF.bind (fun _ => ?_))
                 ·exact absurd rfl c148
                ·rw [if_neg c146] at H
                 exact NF.go H hr.out (by repeat' first | exact NF.none | exact NF.ff | refine NF.ite ?_ ?_ | refine NF.bind (fun _ => ?_))
               ·rw [if_neg c145] at H
                exact NF.go H hr.out (by repeat' first | exact NF.none | exact NF.ff | refine NF.ite ?_ ?_ | refine NF.bind (fun _ => ?_))
              ·rw [if_neg c144] at H
               exact NF.go H hr.out (by repeat' first | exact NF.none | exact NF.ff | refine NF.ite ?_ ?_ | refine NF.bind (fun _ => ?_))
             ·replace c142 := Bool.eq_false_iff.mpr c142
              subst c142
              have H1 : (if true = true then ((exact_Scale.f a4 a1 a2).bind fun bt111 => (if bt111.2.1 > 0 then (if t101 = true then (if bt111.2.2 = true then ((curve_At.f l0 (wrap64 (a3 + a4))).bind fun t114 => ((curve_At.f l0 a3).bind fun t115 => (some (decide ((wrap64 (t114 - t115)) ≤ (wrap64 (bt111.1 + 1))))))) else (some true)) else (some false)) else (if t101 = true then (if bt111.2.2 = true then ((curve_At.f l0 (wrap64 (a3 + a4))).bind fun t116 => ((curve_At.f l0 a3).bind fun t117 => (some (decide ((wrap64 (t116 - t117)) ≤ bt111.1))))) else (some true)) else (some false)))) else (some t101)) = some r := by rw [if_neg (show ¬ (false = true) by decide)] at H; exact H
              clear H
              have H := H1
              clear H1
              by_cases c156 : true = true
              ·clear c156
               have H1 : ((exact_Scale.f a4 a1 a2).bind fun bt111 => (if bt111.2.1 > 0 then (if t101 = true then (if bt111.2.2 = true then ((curve_At.f l0 (wrap64 (a3 + a4))).bind fun t114 => ((curve_At.f l0 a3).bind fun t115 => (some (decide ((wrap64 (t114 - t115)) ≤ (wrap64 (bt111.1 + 1))))))) else (some true)) else (some false)) else (if t101 = true then (if bt111.2.2 = true then ((curve_At.f l0 (wrap64 (a3 + a4))).bind fun t116 => ((curve_At.f l0 a3).bind fun t117 => (some (decide ((wrap64 (t116 - t117)) ≤ bt111.1))))) else (some true)) else (some false)))) = some r := by first | (rw [if_pos rfl] at H; exact H) | (rw [if_pos trivial] at H; exact H)
               clear H
               have H := H1
               clear H1
               replace H := Option.bind_eq_some_iff.mp H
               obtain ⟨⟨t111, t112, t113⟩, A1570, H⟩ := H
               replace H : (if t112 > 0 then (if t101 = true then (if t113 = true then ((curve_At.f l0 (wrap64 (a3 + a4))).bind fun t114 => ((curve_At.f l0 a3).bind fun t115 => (some (decide ((wrap64 (t114 - t115)) ≤ (wrap64 (t111 + 1))))))) else (some true)) else (some false)) else (if t101 = true then (if t113 = true then ((curve_At.f l0 (wrap64 (a3 + a4))).bind fun t116 => ((curve_At.f l0 a3).bind fun t117 => (some (decide ((wrap64 (t116 - t117)) ≤ t111))))) else (some true)) else (some false))) = some r := H
               have A157 := Aside0.mk A1570
               clear A1570
               by_cases c158 : t112 > 0
               ·rw [if_pos c158] at H
                have c158b0 : decide (0 < t112) = true := decide_eq_true c158
                clear c158
                by_cases c159 : t101 = true
                ·subst c159
                 have H1 : (if t113 = true then ((curve_At.f l0 (wrap64 (a3 + a4))).bind fun t114 => ((curve_At.f l0 a3).bind fun t115 => (some (decide ((wrap64 (t114 - t115)) ≤ (wrap64 (t111 + 1))))))) else (some true)) = some r := by rw [if_pos rfl] at H; exact H
                 clear H
                 have H := H1
                 clear H1
                 by_cases c160 : t113 = true
                 ·subst c160
                  have H1 : ((curve_At.f l0 (wrap64 (a3 + a4))).bind fun t114 => ((curve_At.f l0 a3).bind fun t115 => (some (decide ((wrap64 (t114 - t115)) ≤ (wrap64 (t111 + 1))))))) = some r := by rw [if_pos rfl] at H; exact H
                  clear H
                  have H := H1
                  clear H1
                  replace H := Option.bind_eq_some_iff.mp H
                  obtain ⟨t114, A1610, H⟩ := H
                  replace H : ((curve_At.f l0 a3).bind fun t115 => (some (decide ((wrap64 (t114 - t115)) ≤ (wrap64 (t111 + 1)))))) = some r := H
                  have A161 := Aside0.mk A1610
                  clear A1610
                  replace H := Option.bind_eq_some_iff.mp H
                  obtain ⟨t115, A1620, H⟩ := H
                  replace H : (some (decide ((wrap64 (t114 - t115)) ≤ (wrap64 (t111 + 1))))) = some r := H
                  have A162 := Aside0.mk A1620
                  clear A1620
                  obtain rfl := Option.some.inj H
                  go_wp2_with (first | (go_at_call 11; (with_reducible refine (curve_Right.calls _ _ l0 false _ ?side1 ?side2 A141.out).mono ?_); (case side1 => repeat (first | exact (Kd.C_below HR0.out HB.out) | (with_reducible refine Kd.C_alloc ?_ _) | (with_reducible refine Kd.C_drewN ?_ _) | (with_reducible refine Kd.C_drew ?_))); (case side2 => exact HC0.out); rintro e w163 ⟨rfl, hb⟩; have n0_ := Aside0.mk (below_step ahx hb); clear HB; have HB := n0_; clear n0_; (try clear hb); (try clear hb2); (try clear hk); (try clear hi)) | ((with_reducible refine gate_callee (f := 21) rfl ?_); refine goesL_ (some 102) rfl rfl Try.func21 (by kernel_rfl) rfl #[.int .i64 a4, .int .i64 a1, .int .i64 a2] rfl (by first | done | rfl) ?_; (with_reducible refine (exact_Scale.calls a4 a1 a2 t111 t112 true _ A157.out).mono ?_); rintro e w' ⟨rfl, ⟨nd, rfl⟩⟩; refine ⟨_, rfl, ?_⟩) | (go_at_call 21; (with_reducible refine (exact_Scale.calls a4 a1 a2 t111 t112 true _ A157.out).mono ?_); rintro e w' ⟨rfl, ⟨nd, rfl⟩⟩) | (go_at_call 13; (with_reducible refine (curve_At.calls _ _ l0 (wrap64 (a3 + a4)) t114 _ ?side1 ?side2 A161.out).mono ?_); (case side1 => repeat (first | exact (Kd.C_below HR0.out ahx) | (with_reducible refine Kd.C_alloc ?_ _) | (with_reducible refine Kd.C_drewN ?_ _) | (with_reducible refine Kd.C_drew ?_))); (case side2 => exact HC0.out); rintro e w164 ⟨rfl, hb⟩; have n0_ := Aside0.mk (below_step ahx hb); clear HB; have HB := n0_; clear n0_; (try clear hb); (try clear hb2); (try clear hk); (try clear hi)) | (go_at_call 13; (with_reducible refine (curve_At.calls _ _ l0 a3 t115 _ ?side1 ?side2 A162.out).mono ?_); (case side1 => repeat (first | exact (Kd.C_below HR0.out HB.out) | (with_reducible refine Kd.C_alloc ?_ _) | (with_reducible refine Kd.C_drewN ?_ _) | (with_reducible refine Kd.C_drew ?_))); (case side2 => exact HC0.out); rintro e w165 ⟨rfl, hb⟩; have n0_ := Aside0.mk (below_step ahx hb); clear HB; have HB := n0_; clear n0_; (try clear hb); (try clear hb2); (try clear hk); (try clear hi)))
                  go_ret
                  exact ⟨by first | rfl | (simp [errW_none, errW_some] <;> rfl) | (simp [*, errW_none, errW_some] <;> rfl), ahx⟩
                 ·replace c160 := Bool.eq_false_iff.mpr c160
                  subst c160
                  have H1 : (some true) = some r := by rw [if_neg (show ¬ (false = true) by decide)] at H; exact H
                  clear H
                  have H := H1
                  clear H1
                  obtain rfl := Option.some.inj H
                  go_wp2_with (first | (go_at_call 11; (with_reducible refine (curve_Right.calls _ _ l0 false _ ?side1 ?side2 A141.out).mono ?_); (case side1 => repeat (first | exact (Kd.C_below HR0.out HB.out) | (with_reducible refine Kd.C_alloc ?_ _) | (with_reducible refine Kd.C_drewN ?_ _) | (with_reducible refine Kd.C_drew ?_))); (case side2 => exact HC0.out); rintro e w166 ⟨rfl, hb⟩; have n0_ := Aside0.mk (below_step ahx hb); clear HB; have HB := n0_; clear n0_; (try clear hb); (try clear hb2); (try clear hk); (try clear hi)) | ((with_reducible refine gate_callee (f := 21) rfl ?_); refine goesL_ (some 102) rfl rfl Try.func21 (by kernel_rfl) rfl #[.int .i64 a4, .int .i64 a1, .int .i64 a2] rfl (by first | done | rfl) ?_; (with_reducible refine (exact_Scale.calls a4 a1 a2 t111 t112 false _ A157.out).mono ?_); rintro e w' ⟨rfl, ⟨nd, rfl⟩⟩; refine ⟨_, rfl, ?_⟩) | (go_at_call 21; (with_reducible refine (exact_Scale.calls a4 a1 a2 t111 t112 false _ A157.out).mono ?_); rintro e w' ⟨rfl, ⟨nd, rfl⟩⟩))
                  go_ret
                  exact ⟨by first | rfl | (simp [errW_none, errW_some] <;> rfl) | (simp [*, errW_none, errW_some] <;> rfl), ahx⟩
                ·replace c159 := Bool.eq_false_iff.mpr c159
                 subst c159
                 have H1 : (some false) = some r := by rw [if_neg (show ¬ (false = true) by decide)] at H; exact H
                 clear H
                 have H := H1
                 clear H1
                 exact NF.go H hr.out (by repeat' first | exact NF.none | exact NF.ff | refine NF.ite ?_ ?_ | refine NF.bind (fun _ => ?_))
               ·rw [if_neg c158] at H
                have c158b0 : decide (0 < t112) = false := decide_eq_false c158
                clear c158
                by_cases c167 : t101 = true
                ·subst c167
                 have H1 : (if t113 = true then ((curve_At.f l0 (wrap64 (a3 + a4))).bind fun t116 => ((curve_At.f l0 a3).bind fun t117 => (some (decide ((wrap64 (t116 - t117)) ≤ t111))))) else (some true)) = some r := by rw [if_pos rfl] at H; exact H
                 clear H
                 have H := H1
                 clear H1
                 by_cases c168 : t113 = true
                 ·subst c168
                  have H1 : ((curve_At.f l0 (wrap64 (a3 + a4))).bind fun t116 => ((curve_At.f l0 a3).bind fun t117 => (some (decide ((wrap64 (t116 - t117)) ≤ t111))))) = some r := by rw [if_pos rfl] at H; exact H
                  clear H
                  have H := H1
                  clear H1
                  replace H := Option.bind_eq_some_iff.mp H
                  obtain ⟨t116, A1690, H⟩ := H
                  replace H : ((curve_At.f l0 a3).bind fun t117 => (some (decide ((wrap64 (t116 - t117)) ≤ t111)))) = some r := H
                  have A169 := Aside0.mk A1690
                  clear A1690
                  replace H := Option.bind_eq_some_iff.mp H
                  obtain ⟨t117, A1700, H⟩ := H
                  replace H : (some (decide ((wrap64 (t116 - t117)) ≤ t111))) = some r := H
                  have A170 := Aside0.mk A1700
                  clear A1700
                  obtain rfl := Option.some.inj H
                  go_wp2_with (first | (go_at_call 11; (with_reducible refine (curve_Right.calls _ _ l0 false _ ?side1 ?side2 A141.out).mono ?_); (case side1 => repeat (first | exact (Kd.C_below HR0.out HB.out) | (with_reducible refine Kd.C_alloc ?_ _) | (with_reducible refine Kd.C_drewN ?_ _) | (with_reducible refine Kd.C_drew ?_))); (case side2 => exact HC0.out); rintro e w171 ⟨rfl, hb⟩; have n0_ := Aside0.mk (below_step ahx hb); clear HB; have HB := n0_; clear n0_; (try clear hb); (try clear hb2); (try clear hk); (try clear hi)) | ((with_reducible refine gate_callee (f := 21) rfl ?_); refine goesL_ (some 102) rfl rfl Try.func21 (by kernel_rfl) rfl #[.int .i64 a4, .int .i64 a1, .int .i64 a2] rfl (by first | done | rfl) ?_; (with_reducible refine (exact_Scale.calls a4 a1 a2 t111 t112 true _ A157.out).mono ?_); rintro e w' ⟨rfl, ⟨nd, rfl⟩⟩; refine ⟨_, rfl, ?_⟩) | (go_at_call 21; (with_reducible refine (exact_Scale.calls a4 a1 a2 t111 t112 true _ A157.out).mono ?_); rintro e w' ⟨rfl, ⟨nd, rfl⟩⟩) | (go_at_call 13; (with_reducible refine (curve_At.calls _ _ l0 (wrap64 (a3 + a4)) t116 _ ?side1 ?side2 A169.out).mono ?_); (case side1 => repeat (first | exact (Kd.C_below HR0.out ahx) | (with_reducible refine Kd.C_alloc ?_ _) | (with_reducible refine Kd.C_drewN ?_ _) | (with_reducible refine Kd.C_drew ?_))); (case side2 => exact HC0.out); rintro e w172 ⟨rfl, hb⟩; have n0_ := Aside0.mk (below_step ahx hb); clear HB; have HB := n0_; clear n0_; (try clear hb); (try clear hb2); (try clear hk); (try clear hi)) | (go_at_call 13; (with_reducible refine (curve_At.calls _ _ l0 a3 t117 _ ?side1 ?side2 A170.out).mono ?_); (case side1 => repeat (first | exact (Kd.C_below HR0.out HB.out) | (with_reducible refine Kd.C_alloc ?_ _) | (with_reducible refine Kd.C_drewN ?_ _) | (with_reducible refine Kd.C_drew ?_))); (case side2 => exact HC0.out); rintro e w173 ⟨rfl, hb⟩; have n0_ := Aside0.mk (below_step ahx hb); clear HB; have HB := n0_; clear n0_; (try clear hb); (try clear hb2); (try clear hk); (try clear hi)))
                  go_ret
                  exact ⟨by first | rfl | (simp [errW_none, errW_some] <;> rfl) | (simp [*, errW_none, errW_some] <;> rfl), ahx⟩
                 ·replace c168 := Bool.eq_false_iff.mpr c168
                  subst c168
                  have H1 : (some true) = some r := by rw [if_neg (show ¬ (false = true) by decide)] at H; exact H
                  clear H
                  have H := H1
                  clear H1
                  obtain rfl := Option.some.inj H
                  go_wp2_with (first | (go_at_call 11; (with_reducible refine (curve_Right.calls _ _ l0 false _ ?side1 ?side2 A141.out).mono ?_); (case side1 => repeat (first | exact (Kd.C_below HR0.out HB.out) | (with_reducible refine Kd.C_alloc ?_ _) | (with_reducible refine Kd.C_drewN ?_ _) | (with_reducible refine Kd.C_drew ?_))); (case side2 => exact HC0.out); rintro e w174 ⟨rfl, hb⟩; have n0_ := Aside0.mk (below_step ahx hb); clear HB; have HB := n0_; clear n0_; (try clear hb); (try clear hb2); (try clear hk); (try clear hi)) | ((with_reducible refine gate_callee (f := 21) rfl ?_); refine goesL_ (some 102) rfl rfl Try.func21 (by kernel_rfl) rfl #[.int .i64 a4, .int .i64 a1, .int .i64 a2] rfl (by first | done | rfl) ?_; (with_reducible refine (exact_Scale.calls a4 a1 a2 t111 t112 false _ A157.out).mono ?_); rintro e w' ⟨rfl, ⟨nd, rfl⟩⟩; refine ⟨_, rfl, ?_⟩) | (go_at_call 21; (with_reducible refine (exact_Scale.calls a4 a1 a2 t111 t112 false _ A157.out).mono ?_); rintro e w' ⟨rfl, ⟨nd, rfl⟩⟩))
                  go_ret
                  exact ⟨by first | rfl | (simp [errW_none, errW_some] <;> rfl) | (simp [*, errW_none, errW_some] <;> rfl), ahx⟩
                ·replace c167 := Bool.eq_false_iff.mpr c167
                 subst c167
                 have H1 : (some false) = some r := by rw [if_neg (show ¬ (false = true) by decide)] at H; exact H
                 clear H
                 have H := H1
                 clear H1
                 exact NF.go H hr.out (by repeat' first | exact NF.none | exact NF.ff | refine NF.ite ?_ ?_ | refine NF.bind (fun _ => ?_))
              ·exact absurd rfl c156
            ·rw [if_neg c140] at H
             have c140b0 : decide (x13_1 < (l0.length : Int)) = false := decide_eq_false c140
             clear c140
             by_cases c176 : true = true
             ·clear c176
              have H1 : ((exact_Scale.f a4 a1 a2).bind fun bt118 => (if bt118.2.1 > 0 then (if t101 = true then (if bt118.2.2 = true then ((curve_At.f l0 (wrap64 (a3 + a4))).bind fun t121 => ((curve_At.f l0 a3).bind fun t122 => (some (decide ((wrap64 (t121 - t122)) ≤ (wrap64 (bt118.1 + 1))))))) else (some true)) else (some false)) else (if t101 = true then (if bt118.2.2 = true then ((curve_At.f l0 (wrap64 (a3 + a4))).bind fun t123 => ((curve_At.f l0 a3).bind fun t124 => (some (decide ((wrap64 (t123 - t124)) ≤ bt118.1))))) else (some true)) else (some false)))) = some r := by first | (rw [if_pos rfl] at H; exact H) | (rw [if_pos trivial] at H; exact H)
              clear H
              have H := H1
              clear H1
              replace H := Option.bind_eq_some_iff.mp H
              obtain ⟨⟨t118, t119, t120⟩, A1770, H⟩ := H
              replace H : (if t119 > 0 then (if t101 = true then (if t120 = true then ((curve_At.f l0 (wrap64 (a3 + a4))).bind fun t121 => ((curve_At.f l0 a3).bind fun t122 => (some (decide ((wrap64 (t121 - t122)) ≤ (wrap64 (t118 + 1))))))) else (some true)) else (some false)) else (if t101 = true then (if t120 = true then ((curve_At.f l0 (wrap64 (a3 + a4))).bind fun t123 => ((curve_At.f l0 a3).bind fun t124 => (some (decide ((wrap64 (t123 - t124)) ≤ t118))))) else (some true)) else (some false))) = some r := H
              have A177 := Aside0.mk A1770
              clear A1770
              by_cases c178 : t119 > 0
              ·rw [if_pos c178] at H
               have c178b0 : decide (0 < t119) = true := decide_eq_true c178
               clear c178
               by_cases c179 : t101 = true
               ·subst c179
                have H1 : (if t120 = true then ((curve_At.f l0 (wrap64 (a3 + a4))).bind fun t121 => ((curve_At.f l0 a3).bind fun t122 => (some (decide ((wrap64 (t121 - t122)) ≤ (wrap64 (t118 + 1))))))) else (some true)) = some r := by rw [if_pos rfl] at H; exact H
                clear H
                have H := H1
                clear H1
                by_cases c180 : t120 = true
                ·subst c180
                 have H1 : ((curve_At.f l0 (wrap64 (a3 + a4))).bind fun t121 => ((curve_At.f l0 a3).bind fun t122 => (some (decide ((wrap64 (t121 - t122)) ≤ (wrap64 (t118 + 1))))))) = some r := by rw [if_pos rfl] at H; exact H
                 clear H
                 have H := H1
                 clear H1
                 replace H := Option.bind_eq_some_iff.mp H
                 obtain ⟨t121, A1810, H⟩ := H
                 replace H : ((curve_At.f l0 a3).bind fun t122 => (some (decide ((wrap64 (t121 - t122)) ≤ (wrap64 (t118 + 1)))))) = some r := H
                 have A181 := Aside0.mk A1810
                 clear A1810
                 replace H := Option.bind_eq_some_iff.mp H
                 obtain ⟨t122, A1820, H⟩ := H
                 replace H : (some (decide ((wrap64 (t121 - t122)) ≤ (wrap64 (t118 + 1))))) = some r := H
                 have A182 := Aside0.mk A1820
                 clear A1820
                 obtain rfl := Option.some.inj H
                 go_wp2_with (first | ((with_reducible refine gate_callee (f := 21) rfl ?_); refine goesL_ (some 102) rfl rfl Try.func21 (by kernel_rfl) rfl #[.int .i64 a4, .int .i64 a1, .int .i64 a2] rfl (by first | done | rfl) ?_; (with_reducible refine (exact_Scale.calls a4 a1 a2 t118 t119 true _ A177.out).mono ?_); rintro e w' ⟨rfl, ⟨nd, rfl⟩⟩; refine ⟨_, rfl, ?_⟩) | (go_at_call 21; (with_reducible refine (exact_Scale.calls a4 a1 a2 t118 t119 true _ A177.out).mono ?_); rintro e w' ⟨rfl, ⟨nd, rfl⟩⟩) | (go_at_call 13; (with_reducible refine (curve_At.calls _ _ l0 (wrap64 (a3 + a4)) t121 _ ?side1 ?side2 A181.out).mono ?_); (case side1 => repeat (first | exact (Kd.C_below HR0.out ahx) | (with_reducible refine Kd.C_alloc ?_ _) | (with_reducible refine Kd.C_drewN ?_ _) | (with_reducible refine Kd.C_drew ?_))); (case side2 => exact HC0.out); rintro e w183 ⟨rfl, hb⟩; have n0_ := Aside0.mk (below_step ahx hb); clear HB; have HB := n0_; clear n0_; (try clear hb); (try clear hb2); (try clear hk); (try clear hi)) | (go_at_call 13; (with_reducible refine (curve_At.calls _ _ l0 a3 t122 _ ?side1 ?side2 A182.out).mono ?_); (case side1 => repeat (first | exact (Kd.C_below HR0.out HB.out) | (with_reducible refine Kd.C_alloc ?_ _) | (with_reducible refine Kd.C_drewN ?_ _) | (with_reducible refine Kd.C_drew ?_))); (case side2 => exact HC0.out); rintro e w184 ⟨rfl, hb⟩; have n0_ := Aside0.mk (below_step ahx hb); clear HB; have HB := n0_; clear n0_; (try clear hb); (try clear hb2); (try clear hk); (try clear hi)))
                 go_ret
                 exact ⟨by first | rfl | (simp [errW_none, errW_some] <;> rfl) | (simp [*, errW_none, errW_some] <;> rfl), ahx⟩
                ·replace c180 := Bool.eq_false_iff.mpr c180
                 subst c180
                 have H1 : (some true) = some r := by rw [if_neg (show ¬ (false = true) by decide)] at H; exact H
                 clear H
                 have H := H1
                 clear H1
                 obtain rfl := Option.some.inj H
                 go_wp2_with (first | ((with_reducible refine gate_callee (f := 21) rfl ?_); refine goesL_ (some 102) rfl rfl Try.func21 (by kernel_rfl) rfl #[.int .i64 a4, .int .i64 a1, .int .i64 a2] rfl (by first | done | rfl) ?_; (with_reducible refine (exact_Scale.calls a4 a1 a2 t118 t119 false _ A177.out).mono ?_); rintro e w' ⟨rfl, ⟨nd, rfl⟩⟩; refine ⟨_, rfl, ?_⟩) | (go_at_call 21; (with_reducible refine (exact_Scale.calls a4 a1 a2 t118 t119 false _ A177.out).mono ?_); rintro e w' ⟨rfl, ⟨nd, rfl⟩⟩))
                 go_ret
                 exact ⟨by first | rfl | (simp [errW_none, errW_some] <;> rfl) | (simp [*, errW_none, errW_some] <;> rfl), ahx⟩
               ·replace c179 := Bool.eq_false_iff.mpr c179
                subst c179
                have H1 : (some false) = some r := by rw [if_neg (show ¬ (false = true) by decide)] at H; exact H
                clear H
                have H := H1
                clear H1
                exact NF.go H hr.out (by repeat' first | exact NF.none | exact NF.ff | refine NF.ite ?_ ?_ | refine NF.bind (fun _ => ?_))
              ·rw [if_neg c178] at H
               have c178b0 : decide (0 < t119) = false := decide_eq_false c178
               clear c178
               by_cases c185 : t101 = true
               ·subst c185
                have H1 : (if t120 = true then ((curve_At.f l0 (wrap64 (a3 + a4))).bind fun t123 => ((curve_At.f l0 a3).bind fun t124 => (some (decide ((wrap64 (t123 - t124)) ≤ t118))))) else (some true)) = some r := by rw [if_pos rfl] at H; exact H
                clear H
                have H := H1
                clear H1
                by_cases c186 : t120 = true
                ·subst c186
                 have H1 : ((curve_At.f l0 (wrap64 (a3 + a4))).bind fun t123 => ((curve_At.f l0 a3).bind fun t124 => (some (decide ((wrap64 (t123 - t124)) ≤ t118))))) = some r := by rw [if_pos rfl] at H; exact H
                 clear H
                 have H := H1
                 clear H1
                 replace H := Option.bind_eq_some_iff.mp H
                 obtain ⟨t123, A1870, H⟩ := H
                 replace H : ((curve_At.f l0 a3).bind fun t124 => (some (decide ((wrap64 (t123 - t124)) ≤ t118)))) = some r := H
                 have A187 := Aside0.mk A1870
                 clear A1870
                 replace H := Option.bind_eq_some_iff.mp H
                 obtain ⟨t124, A1880, H⟩ := H
                 replace H : (some (decide ((wrap64 (t123 - t124)) ≤ t118))) = some r := H
                 have A188 := Aside0.mk A1880
                 clear A1880
                 obtain rfl := Option.some.inj H
                 go_wp2_with (first | ((with_reducible refine gate_callee (f := 21) rfl ?_); refine goesL_ (some 102) rfl rfl Try.func21 (by kernel_rfl) rfl #[.int .i64 a4, .int .i64 a1, .int .i64 a2] rfl (by first | done | rfl) ?_; (with_reducible refine (exact_Scale.calls a4 a1 a2 t118 t119 true _ A177.out).mono ?_); rintro e w' ⟨rfl, ⟨nd, rfl⟩⟩; refine ⟨_, rfl, ?_⟩) | (go_at_call 21; (with_reducible refine (exact_Scale.calls a4 a1 a2 t118 t119 true _ A177.out).mono ?_); rintro e w' ⟨rfl, ⟨nd, rfl⟩⟩) | (go_at_call 13; (with_reducible refine (curve_At.calls _ _ l0 (wrap64 (a3 + a4)) t123 _ ?side1 ?side2 A187.out).mono ?_); (case side1 => repeat (first | exact (Kd.C_below HR0.out ahx) | (with_reducible refine Kd.C_alloc ?_ _) | (with_reducible refine Kd.C_drewN ?_ _) | (with_reducible refine Kd.C_drew ?_))); (case side2 => exact HC0.out); rintro e w189 ⟨rfl, hb⟩; have n0_ := Aside0.mk (below_step ahx hb); clear HB; have HB := n0_; clear n0_; (try clear hb); (try clear hb2); (try clear hk); (try clear hi)) | (go_at_call 13; (with_reducible refine (curve_At.calls _ _ l0 a3 t124 _ ?side1 ?side2 A188.out).mono ?_); (case side1 => repeat (first | exact (Kd.C_below HR0.out HB.out) | (with_reducible refine Kd.C_alloc ?_ _) | (with_reducible refine Kd.C_drewN ?_ _) | (with_reducible refine Kd.C_drew ?_))); (case side2 => exact HC0.out); rintro e w190 ⟨rfl, hb⟩; have n0_ := Aside0.mk (below_step ahx hb); clear HB; have HB := n0_; clear n0_; (try clear hb); (try clear hb2); (try clear hk); (try clear hi)))
                 go_ret
                 exact ⟨by first | rfl | (simp [errW_none, errW_some] <;> rfl) | (simp [*, errW_none, errW_some] <;> rfl), ahx⟩
                ·replace c186 := Bool.eq_false_iff.mpr c186
                 subst c186
                 have H1 : (some true) = some r := by rw [if_neg (show ¬ (false = true) by decide)] at H; exact H
                 clear H
                 have H := H1
                 clear H1
                 obtain rfl := Option.some.inj H
                 go_wp2_with (first | ((with_reducible refine gate_callee (f := 21) rfl ?_); refine goesL_ (some 102) rfl rfl Try.func21 (by kernel_rfl) rfl #[.int .i64 a4, .int .i64 a1, .int .i64 a2] rfl (by first | done | rfl) ?_; (with_reducible refine (exact_Scale.calls a4 a1 a2 t118 t119 false _ A177.out).mono ?_); rintro e w' ⟨rfl, ⟨nd, rfl⟩⟩; refine ⟨_, rfl, ?_⟩) | (go_at_call 21; (with_reducible refine (exact_Scale.calls a4 a1 a2 t118 t119 false _ A177.out).mono ?_); rintro e w' ⟨rfl, ⟨nd, rfl⟩⟩))
                 go_ret
                 exact ⟨by first | rfl | (simp [errW_none, errW_some] <;> rfl) | (simp [*, errW_none, errW_some] <;> rfl), ahx⟩
               ·replace c185 := Bool.eq_false_iff.mpr c185
                subst c185
                have H1 : (some false) = some r := by rw [if_neg (show ¬ (false = true) by decide)] at H; exact H
                clear H
                have H := H1
                clear H1
                exact NF.go H hr.out (by repeat' first | exact NF.none | exact NF.ff | refine NF.ite ?_ ?_ | refine NF.bind (fun _ => ?_))
             ·exact absurd rfl c176
         ·replace c136 := Bool.eq_false_iff.mpr c136
          subst c136
          have H1 : (some false) = some r := by rw [if_neg (show ¬ (false = true) by decide)] at H; exact H
          clear H
          have H := H1
          clear H1
          exact NF.go H hr.out (by repeat' first | exact NF.none | exact NF.ff | refine NF.ite ?_ ?_ | refine NF.bind (fun _ => ?_))
        ·rw [if_neg c134] at H
         have c134b0 : decide (1 < a2) = false := decide_eq_false c134
         clear c134
         have H' := Aside0.mk H
         clear H
         go_enter Try.func5, Try.ntmps5
         go_wp2_with (first | ((with_reducible refine gate_callee (f := 8) rfl ?_); refine goesL_ (some 18) rfl rfl Try.func8 (by kernel_rfl) rfl #[] rfl (by first | done | rfl) ?_; (with_reducible refine (bournelaw10_small.calls  t101 _ A6.out).mono ?_); rintro e w191 ⟨rfl, hb⟩; refine ⟨_, rfl, ?_⟩; have n0_ := Aside0.mk (below_step ahx hb); clear HB; have HB := n0_; clear n0_; (try clear hb); (try clear hb2); (try clear hk); (try clear hi)) | (go_at_call 8; (with_reducible refine (bournelaw10_small.calls  t101 _ A6.out).mono ?_); rintro e w191 ⟨rfl, hb⟩; have n0_ := Aside0.mk (below_step ahx hb); clear HB; have HB := n0_; clear n0_; (try clear hb); (try clear hb2); (try clear hk); (try clear hi)) | ((with_reducible refine gate_callee (f := 15) rfl ?_); refine goesL_ (some 42) rfl rfl Try.func15 (by kernel_rfl) rfl #[.slice A0 l0.length c0, .int .i64 a1, .int .i64 a2] rfl (by first | done | rfl) ?_; (with_reducible refine (curve_Slope.calls _ _ l0 a1 a2 true _ ?side1 ?side2 A17.out).mono ?_); (case side1 => repeat (first | exact (Kd.C_below HR0.out HB.out) | (with_reducible refine Kd.C_alloc ?_ _) | (with_reducible refine Kd.C_drewN ?_ _) | (with_reducible refine Kd.C_drew ?_))); (case side2 => exact HC0.out); rintro e w192 ⟨rfl, hb⟩; refine ⟨_, rfl, ?_⟩; have n0_ := Aside0.mk (below_step ahx hb); clear HB; have HB := n0_; clear n0_; (try clear hb); (try clear hb2); (try clear hk); (try clear hi)) | (go_at_call 15; (with_reducible refine (curve_Slope.calls _ _ l0 a1 a2 true _ ?side1 ?side2 A17.out).mono ?_); (case side1 => repeat (first | exact (Kd.C_below HR0.out HB.out) | (with_reducible refine Kd.C_alloc ?_ _) | (with_reducible refine Kd.C_drewN ?_ _) | (with_reducible refine Kd.C_drew ?_))); (case side2 => exact HC0.out); rintro e w192 ⟨rfl, hb⟩; have n0_ := Aside0.mk (below_step ahx hb); clear HB; have HB := n0_; clear n0_; (try clear hb); (try clear hb2); (try clear hk); (try clear hi)))
         go_loopg [13] k (fun kq v13 w' => ∃ (x13_1 : Int), v13 = .int .i64 x13_1 ∧ Aside0 (bournelaw10_CurveSlopes.l0 kq l0 a1 a2 a3 a4 t101 true x13_1 = some r) ∧ Aside0 (kq ≤ k) ∧ Aside0 (Below w.heap.size w w'))
         case atStart => exact ⟨(1), (by first | rfl | (simp; done) | (simp [*]; done)), H', ⟨Nat.le_refl _⟩, ⟨ahx⟩⟩
         case round =>
          clear H'
          try clear c1
          try clear q1
          try clear c2
          try clear p2
          try clear c3
          try clear c4
          try clear q4
          try clear c5
          try clear c6
          try clear p6
          try clear c7
          try clear c7b0
          try clear c7b1
          try clear c8
          try clear c9
          try clear c9b0
          try clear q9
          try clear c10
          try clear c11
          try clear c11b0
          try clear c12
          try clear c13
          try clear c13b0
          try clear c14
          try clear c15
          try clear c15b0
          try clear q15
          try clear c16
          try clear c17
          try clear c18
          try clear c19
          try clear c19b0
          try clear c21
          try clear c22
          try clear c22b0
          try clear c24
          try clear c29
          try clear c29b0
          try clear c31
          try clear c33
          try clear c33b0
          try clear c33b1
          try clear c34
          try clear c34b0
          try clear c34b1
          try clear c35
          try clear c35b0
          try clear c35b1
          try clear c37
          try clear c38
          try clear c40
          try clear q40
          try clear c43
          try clear q43
          try clear c45
          try clear c47
          try clear c47b0
          try clear c48
          try clear c49
          try clear c56
          try clear c57
          try clear p64
          try clear c65
          try clear c67
          try clear c67b0
          try clear c68
          try clear c69
          try clear c74
          try clear c75
          try clear c83
          try clear c83b0
          try clear c85
          try clear c87
          try clear c87b0
          try clear c87b1
          try clear c88
          try clear c88b0
          try clear c88b1
          try clear c89
          try clear c89b0
          try clear c89b1
          try clear c91
          try clear c92
          try clear c94
          try clear q94
          try clear c97
          try clear q97
          try clear c99
          try clear c101
          try clear c101b0
          try clear c102
          try clear c103
          try clear c110
          try clear c111
          try clear c119
          try clear c121
          try clear c121b0
          try clear c122
          try clear c123
          try clear c128
          try clear c129
          try clear c134
          try clear c134b0
          try clear c136
          try clear c140
          try clear c140b0
          try clear c142
          try clear c144
          try clear c144b0
          try clear c144b1
          try clear c145
          try clear c145b0
          try clear c145b1
          try clear c146
          try clear c146b0
          try clear c146b1
          try clear c148
          try clear c149
          try clear c151
          try clear q151
          try clear c154
          try clear q154
          try clear c156
          try clear c158
          try clear c158b0
          try clear c159
          try clear c160
          try clear c167
          try clear c168
          try clear c176
          try clear c178
          try clear c178b0
          try clear c179
          try clear c180
          try clear c185
          try clear c186
          try clear p2
          try clear p6
          try clear p64
          try clear q0151
          try clear q0154
          try clear q040
          try clear q043
          try clear q094
          try clear q097
          try clear q151
          try clear q154
          try clear q4
          try clear q40
          try clear q43
          try clear q9
          try clear q94
          try clear q97
          obtain ⟨x13_1, rfl, HA, HK1, HB⟩ := hrel
          cases gk with
          | zero => exact absurd HA.out (by simp [bournelaw10_CurveSlopes.l0])
          | succ k1 =>
           have H := HA.out
           clear HA
           simp only [bournelaw10_CurveSlopes.l0] at H
           by_cases c193 : x13_1 < (l0.length : Int)
           ·rw [if_pos c193] at H
            have c193b0 : decide (x13_1 < (l0.length : Int)) = true := decide_eq_true c193
            clear c193
            replace H := Option.bind_eq_some_iff.mp H
            obtain ⟨t105, A1940, H⟩ := H
            replace H : (if t105 = true then (if 0 ≤ (wrap64 (x13_1 - 1)) then (if (wrap64 (x13_1 - 1)) ≤ (wrap64 (x13_1 + 1)) then (if (wrap64 (x13_1 + 1)) ≤ (l0.length : Int) then ((curve_Slope.f ((l0.take ((wrap64 (x13_1 + 1)) : Int).toNat).drop ((wrap64 (x13_1 - 1)) : Int).toNat) a1 a2).bind fun t110 => (if true = true then (if t110 = true then (bournelaw10_CurveSlopes.l0 k1 l0 a1 a2 a3 a4 t101 true (wrap64 (x13_1 + 1))) else (some false)) else (bournelaw10_CurveSlopes.l0 k1 l0 a1 a2 a3 a4 t101 true (wrap64 (x13_1 + 1))))) else (none)) else (none)) else (none)) else (if true = true then ((exact_Scale.f a4 a1 a2).bind fun bt111 => (if bt111.2.1 > 0 then (if t101 = true then (if bt111.2.2 = true then ((curve_At.f l0 (wrap64 (a3 + a4))).bind fun t114 => ((curve_At.f l0 a3).bind fun t115 => (some (decide ((wrap64 (t114 - t115)) ≤ (wrap64 (bt111.1 + 1))))))) else (some true)) else (some false)) else (if t101 = true then (if bt111.2.2 = true then ((curve_At.f l0 (wrap64 (a3 + a4))).bind fun t116 => ((curve_At.f l0 a3).bind fun t117 => (some (decide ((wrap64 (t116 - t117)) ≤ bt111.1))))) else (some true)) else (some false)))) else (some t101))) = some r := H
            have A194 := Aside0.mk A1940
            clear A1940
            by_cases c195 : t105 = true
            ·subst c195
             have H1 : (if 0 ≤ (wrap64 (x13_1 - 1)) then (if (wrap64 (x13_1 - 1)) ≤ (wrap64 (x13_1 + 1)) then (if (wrap64 (x13_1 + 1)) ≤ (l0.length : Int) then ((curve_Slope.f ((l0.take ((wrap64 (x13_1 + 1)) : Int).toNat).drop ((wrap64 (x13_1 - 1)) : Int).toNat) a1 a2).bind fun t110 => (if true = true then (if t110 = true then (bournelaw10_CurveSlopes.l0 k1 l0 a1 a2 a3 a4 t101 true (wrap64 (x13_1 + 1))) else (some false)) else (bournelaw10_CurveSlopes.l0 k1 l0 a1 a2 a3 a4 t101 true (wrap64 (x13_1 + 1))))) else (none)) else (none)) else (none)) = some r := by rw [if_pos rfl] at H; exact H
             clear H
             have H := H1
             clear H1
             obtain ⟨ji196, hji196⟩ : ∃ j_ : Int, (wrap64 (x13_1 - 1)) = j_ := ⟨_, rfl⟩
             replace H : (if 0 ≤ (ji196) then (if (ji196) ≤ (wrap64 (x13_1 + 1)) then (if (wrap64 (x13_1 + 1)) ≤ (l0.length : Int) then ((curve_Slope.f ((l0.take ((wrap64 (x13_1 + 1)) : Int).toNat).drop ((ji196) : Int).toNat) a1 a2).bind fun t110 => (if true = true then (if t110 = true then (bournelaw10_CurveSlopes.l0 k1 l0 a1 a2 a3 a4 t101 true (wrap64 (x13_1 + 1))) else (some false)) else (bournelaw10_CurveSlopes.l0 k1 l0 a1 a2 a3 a4 t101 true (wrap64 (x13_1 + 1))))) else (none)) else (none)) else (none)) = some r := by first | (rw [hji196] at H; exact H) | (simp only [hji196] at H ⊢; exact H)
             (try rw [hji196] at A194)
             have hji196w : (IntKind.i64.wrap (x13_1 - 1)) = ji196 := (i64_w _).trans hji196
             by_cases c197 : 0 ≤ (ji196)
             ·rw [if_pos c197] at H
              have c197b0 := eq_true c197
              have c197b1 : decide (0 ≤ (ji196)) = true := decide_eq_true c197
              clear c197
              by_cases c198 : (ji196) ≤ (wrap64 (x13_1 + 1))
              ·rw [if_pos c198] at H
               have c198b0 := eq_true c198
               have c198b1 : decide ((ji196) ≤ (wrap64 (x13_1 + 1))) = true := decide_eq_true c198
               by_cases c199 : (wrap64 (x13_1 + 1)) ≤ (l0.length : Int)
               ·rw [if_pos c199] at H
                have c199b0 := eq_true c199
                have c199b1 : decide ((wrap64 (x13_1 + 1)) ≤ (l0.length : Int)) = true := decide_eq_true c199
                obtain ⟨y106, hy106⟩ : ∃ y_ : List (S37), y_ = ((l0.take ((wrap64 (x13_1 + 1)) : Int).toNat).drop ((ji196) : Int).toNat) := ⟨_, rfl⟩
                replace H : ((curve_Slope.f y106 a1 a2).bind fun t110 => (if true = true then (if t110 = true then (bournelaw10_CurveSlopes.l0 k1 l0 a1 a2 a3 a4 t101 true (wrap64 (x13_1 + 1))) else (some false)) else (bournelaw10_CurveSlopes.l0 k1 l0 a1 a2 a3 a4 t101 true (wrap64 (x13_1 + 1))))) = some r := by first | (rw [hy106]; with_reducible exact H) | (have H2_ := (Option.bind_some _ _).symm.trans H; rw [hy106]; with_reducible exact H2_) | (have H2_ := (Option.bind_some _ _).symm.trans H; with_reducible exact H2_) | with_reducible exact H | (rw [hy106]; exact H) | exact H
                have Ny106 := Aside0.mk hy106
                clear hy106
                replace H := Option.bind_eq_some_iff.mp H
                obtain ⟨t110, A2000, H⟩ := H
                replace H : (if true = true then (if t110 = true then (bournelaw10_CurveSlopes.l0 k1 l0 a1 a2 a3 a4 t101 true (wrap64 (x13_1 + 1))) else (some false)) else (bournelaw10_CurveSlopes.l0 k1 l0 a1 a2 a3 a4 t101 true (wrap64 (x13_1 + 1)))) = some r := H
                have A200 := Aside0.mk A2000
                clear A2000
                by_cases c201 : true = true
                ·clear c201
                 have H1 : (if t110 = true then (bournelaw10_CurveSlopes.l0 k1 l0 a1 a2 a3 a4 t101 true (wrap64 (x13_1 + 1))) else (some false)) = some r := by first | (rw [if_pos rfl] at H; exact H) | (rw [if_pos trivial] at H; exact H)
                 clear H
                 have H := H1
                 clear H1
                 by_cases c202 : t110 = true
                 ·subst c202
                  have H1 : (bournelaw10_CurveSlopes.l0 k1 l0 a1 a2 a3 a4 t101 true (wrap64 (x13_1 + 1))) = some r := by rw [if_pos rfl] at H; exact H
                  clear H
                  have H := H1
                  clear H1
                  have H' := Aside0.mk H
                  clear H
                  go_wp2_with (first | (go_at_call 11; (with_reducible refine (curve_Right.calls _ _ l0 true _ ?side1 ?side2 A194.out).mono ?_); (case side1 => repeat (first | exact (Kd.C_below HR0.out HB.out) | (with_reducible refine Kd.C_alloc ?_ _) | (with_reducible refine Kd.C_drewN ?_ _) | (with_reducible refine Kd.C_drew ?_))); (case side2 => exact HC0.out); rintro e w203 ⟨rfl, hb⟩; have n0_ := Aside0.mk (below_step ahx hb); clear HB; have HB := n0_; clear n0_; (try clear hb); (try clear hb2); (try clear hk); (try clear hi); have q204 : ((wrap64 (x13_1 + 1)) : Int) ≤ ((l0.length : Int) : Int) := of_decide_eq_true (by first | (with_reducible assumption) | assumption); obtain ⟨i0204, hi0204, _, hsz204, _⟩ := info_parts info37; have hroom204 : l0.length ≤ c0 := HC0.out; have hC204 : Kd.C k37 _ A0 l0.length l0 := HR0.out; have ql204 : ((ji196) : Int) ≤ ((wrap64 (x13_1 + 1)) : Int) := of_decide_eq_true (by first | (with_reducible assumption) | assumption); have q0204 : (0 : Int) ≤ ((ji196) : Int) := of_decide_eq_true (by first | (with_reducible assumption) | assumption); have hcut204 := cut_mid (P := Try.prog) 22 37 .i64 .i64 Try.underlying22 hi0204 2 hsz204 A0 l0.length c0 (ji196) (wrap64 (x13_1 + 1)) q0204 ql204 q204 hroom204; have hr204 := Kd.C_mid (lo := ((ji196) : Int).toNat) (hi := ((wrap64 (x13_1 + 1)) : Int).toNat) (c := c0) hC204 (by omega) (by omega) hroom204; obtain ⟨A204, hA204⟩ : ∃ A1, A1 = (if c0 = ((ji196) : Int).toNat then A0 else (A0 : Option Addr).map (·.add (((ji196) : Int).toNat * 2))) := ⟨_, rfl⟩; obtain ⟨c204, hc204⟩ : ∃ c1, c1 = c0 - ((ji196) : Int).toNat := ⟨_, rfl⟩; have hy204 : y106.length = ((wrap64 (x13_1 + 1)) : Int).toNat - ((ji196) : Int).toNat := (by rw [Ny106.out, List.length_drop, List.length_take] <;> omega); rw [show ((l0).take ((wrap64 (x13_1 + 1)) : Int).toNat).drop ((ji196) : Int).toNat = y106 from Ny106.out.symm] at hr204; replace hr204 : Kd.C k37 _ A204 y106.length y106 := (by rw [hA204]; exact hr204); rw [← hy204, ← hA204, ← hc204] at hcut204; have HR109 := Aside0.mk hr204; have HC109 := Aside0.mk (show y106.length ≤ c204 from by rw [hy204, hc204]; exact Nat.sub_le_sub_right (Nat.le_trans (by omega) hroom204) _); clear hr204 hC204 hroom204 hi0204 hsz204 hc204; have KY204 := Aside0.mk hy204; have KA204 := Aside0.mk hA204; clear hy204 hA204; replace q204 := eq_true q204) | ((with_reducible refine gate_callee (f := 15) rfl ?_); refine goesL_ (some 89) rfl rfl Try.func15 (by kernel_rfl) rfl #[.slice A204 y106.length c204, .int .i64 a1, .int .i64 a2] rfl (by first | done | rfl) ?_; (with_reducible refine (curve_Slope.calls _ _ y106 a1 a2 true _ ?side1 ?side2 A200.out).mono ?_); (case side1 => repeat (first | exact (Kd.C_below HR109.out HB.out) | (with_reducible refine Kd.C_alloc ?_ _) | (with_reducible refine Kd.C_drewN ?_ _) | (with_reducible refine Kd.C_drew ?_))); (case side2 => exact HC109.out); rintro e w205 ⟨rfl, hb⟩; refine ⟨_, rfl, ?_⟩; have n0_ := Aside0.mk (below_step ahx hb); clear HB; have HB := n0_; clear n0_; (try clear hb); (try clear hb2); (try clear hk); (try clear hi)) | (go_at_call 15; (with_reducible refine (curve_Slope.calls _ _ y106 a1 a2 true _ ?side1 ?side2 A200.out).mono ?_); (case side1 => repeat (first | exact (Kd.C_below HR109.out HB.out) | (with_reducible refine Kd.C_alloc ?_ _) | (with_reducible refine Kd.C_drewN ?_ _) | (with_reducible refine Kd.C_drew ?_))); (case side2 => exact HC109.out); rintro e w205 ⟨rfl, hb⟩; have n0_ := Aside0.mk (below_step ahx hb); clear HB; have HB := n0_; clear n0_; (try clear hb); (try clear hb2); (try clear hk); (try clear hi)))
                  go_roundg k1
                  case measure => have := HK1.out; omega
                  case rel => exact ⟨(wrap64 (x13_1 + 1)), (by first | rfl | (simp; done) | (simp [*]; done)), H', ⟨by have := HK1.out; omega⟩, ⟨ahx⟩⟩
                 ·replace c202 := Bool.eq_false_iff.mpr c202
                  subst c202
                  have H1 : (some false) = some r := by rw [if_neg (show ¬ (false = true) by decide)] at H; exact H
                  clear H
                  have H := H1
                  clear H1
                  exact NF.go H hr.out (by repeat' first | exact NF.none | exact NF.ff | refine NF.ite ?_ ?_ | refine NF.bind (fun _ => ?_))
                ·exact absurd rfl c201
               ·rw [if_neg c199] at H
                exact NF.go H hr.out (by repeat' first | exact NF.none | exact NF.ff | refine NF.ite ?_ ?_ | refine NF.bind (fun _ => ?_))
              ·rw [if_neg c198] at H
               exact NF.go H hr.out (by repeat' first | exact NF.none | exact NF.ff | refine NF.ite ?_ ?_ | refine NF.bind (fun _ => ?_))
             ·rw [if_neg c197] at H
              exact NF.go H hr.out (by repeat' first | exact NF.none | exact NF.ff | refine NF.ite ?_ ?_ | refine NF.bind (fun _ => ?_))
            ·replace c195 := Bool.eq_false_iff.mpr c195
             subst c195
             have H1 : (if true = true then ((exact_Scale.f a4 a1 a2).bind fun bt111 => (if bt111.2.1 > 0 then (if t101 = true then (if bt111.2.2 = true then ((curve_At.f l0 (wrap64 (a3 + a4))).bind fun t114 => ((curve_At.f l0 a3).bind fun t115 => (some (decide ((wrap64 (t114 - t115)) ≤ (wrap64 (bt111.1 + 1))))))) else (some true)) else (some false)) else (if t101 = true then (if bt111.2.2 = true then ((curve_At.f l0 (wrap64 (a3 + a4))).bind fun t116 => ((curve_At.f l0 a3).bind fun t117 => (some (decide ((wrap64 (t116 - t117)) ≤ bt111.1))))) else (some true)) else (some false)))) else (some t101)) = some r := by rw [if_neg (show ¬ (false = true) by decide)] at H; exact H
             clear H
             have H := H1
             clear H1
             by_cases c209 : true = true
             ·clear c209
              have H1 : ((exact_Scale.f a4 a1 a2).bind fun bt111 => (if bt111.2.1 > 0 then (if t101 = true then (if bt111.2.2 = true then ((curve_At.f l0 (wrap64 (a3 + a4))).bind fun t114 => ((curve_At.f l0 a3).bind fun t115 => (some (decide ((wrap64 (t114 - t115)) ≤ (wrap64 (bt111.1 + 1))))))) else (some true)) else (some false)) else (if t101 = true then (if bt111.2.2 = true then ((curve_At.f l0 (wrap64 (a3 + a4))).bind fun t116 => ((curve_At.f l0 a3).bind fun t117 => (some (decide ((wrap64 (t116 - t117)) ≤ bt111.1))))) else (some true)) else (some false)))) = some r := by first | (rw [if_pos rfl] at H; exact H) | (rw [if_pos trivial] at H; exact H)
              clear H
              have H := H1
              clear H1
              replace H := Option.bind_eq_some_iff.mp H
              obtain ⟨⟨t111, t112, t113⟩, A2100, H⟩ := H
              replace H : (if t112 > 0 then (if t101 = true then (if t113 = true then ((curve_At.f l0 (wrap64 (a3 + a4))).bind fun t114 => ((curve_At.f l0 a3).bind fun t115 => (some (decide ((wrap64 (t114 - t115)) ≤ (wrap64 (t111 + 1))))))) else (some true)) else (some false)) else (if t101 = true then (if t113 = true then ((curve_At.f l0 (wrap64 (a3 + a4))).bind fun t116 => ((curve_At.f l0 a3).bind fun t117 => (some (decide ((wrap64 (t116 - t117)) ≤ t111))))) else (some true)) else (some false))) = some r := H
              have A210 := Aside0.mk A2100
              clear A2100
              by_cases c211 : t112 > 0
              ·rw [if_pos c211] at H
               have c211b0 : decide (0 < t112) = true := decide_eq_true c211
               clear c211
               by_cases c212 : t101 = true
               ·subst c212
                have H1 : (if t113 = true then ((curve_At.f l0 (wrap64 (a3 + a4))).bind fun t114 => ((curve_At.f l0 a3).bind fun t115 => (some (decide ((wrap64 (t114 - t115)) ≤ (wrap64 (t111 + 1))))))) else (some true)) = some r := by rw [if_pos rfl] at H; exact H
                clear H
                have H := H1
                clear H1
                by_cases c213 : t113 = true
                ·subst c213
                 have H1 : ((curve_At.f l0 (wrap64 (a3 + a4))).bind fun t114 => ((curve_At.f l0 a3).bind fun t115 => (some (decide ((wrap64 (t114 - t115)) ≤ (wrap64 (t111 + 1))))))) = some r := by rw [if_pos rfl] at H; exact H
                 clear H
                 have H := H1
                 clear H1
                 replace H := Option.bind_eq_some_iff.mp H
                 obtain ⟨t114, A2140, H⟩ := H
                 replace H : ((curve_At.f l0 a3).bind fun t115 => (some (decide ((wrap64 (t114 - t115)) ≤ (wrap64 (t111 + 1)))))) = some r := H
                 have A214 := Aside0.mk A2140
                 clear A2140
                 replace H := Option.bind_eq_some_iff.mp H
                 obtain ⟨t115, A2150, H⟩ := H
                 replace H : (some (decide ((wrap64 (t114 - t115)) ≤ (wrap64 (t111 + 1))))) = some r := H
                 have A215 := Aside0.mk A2150
                 clear A2150
                 obtain rfl := Option.some.inj H
                 go_wp2_with (first | (go_at_call 11; (with_reducible refine (curve_Right.calls _ _ l0 false _ ?side1 ?side2 A194.out).mono ?_); (case side1 => repeat (first | exact (Kd.C_below HR0.out HB.out) | (with_reducible refine Kd.C_alloc ?_ _) | (with_reducible refine Kd.C_drewN ?_ _) | (with_reducible refine Kd.C_drew ?_))); (case side2 => exact HC0.out); rintro e w216 ⟨rfl, hb⟩; have n0_ := Aside0.mk (below_step ahx hb); clear HB; have HB := n0_; clear n0_; (try clear hb); (try clear hb2); (try clear hk); (try clear hi)) | ((with_reducible refine gate_callee (f := 21) rfl ?_); refine goesL_ (some 102) rfl rfl Try.func21 (by kernel_rfl) rfl #[.int .i64 a4, .int .i64 a1, .int .i64 a2] rfl (by first | done | rfl) ?_; (with_reducible refine (exact_Scale.calls a4 a1 a2 t111 t112 true _ A210.out).mono ?_); rintro e w' ⟨rfl, ⟨nd, rfl⟩⟩; refine ⟨_, rfl, ?_⟩) | (go_at_call 21; (with_reducible refine (exact_Scale.calls a4 a1 a2 t111 t112 true _ A210.out).mono ?_); rintro e w' ⟨rfl, ⟨nd, rfl⟩⟩) | (go_at_call 13; (with_reducible refine (curve_At.calls _ _ l0 (wrap64 (a3 + a4)) t114 _ ?side1 ?side2 A214.out).mono ?_); (case side1 => repeat (first | exact (Kd.C_below HR0.out ahx) | (with_reducible refine Kd.C_alloc ?_ _) | (with_reducible refine Kd.C_drewN ?_ _) | (with_reducible refine Kd.C_drew ?_))); (case side2 => exact HC0.out); rintro e w217 ⟨rfl, hb⟩; have n0_ := Aside0.mk (below_step ahx hb); clear HB; have HB := n0_; clear n0_; (try clear hb); (try clear hb2); (try clear hk); (try clear hi)) | (go_at_call 13; (with_reducible refine (curve_At.calls _ _ l0 a3 t115 _ ?side1 ?side2 A215.out).mono ?_); (case side1 => repeat (first | exact (Kd.C_below HR0.out HB.out) | (with_reducible refine Kd.C_alloc ?_ _) | (with_reducible refine Kd.C_drewN ?_ _) | (with_reducible refine Kd.C_drew ?_))); (case side2 => exact HC0.out); rintro e w218 ⟨rfl, hb⟩; have n0_ := Aside0.mk (below_step ahx hb); clear HB; have HB := n0_; clear n0_; (try clear hb); (try clear hb2); (try clear hk); (try clear hi)))
                 go_ret
                 exact ⟨by first | rfl | (simp [errW_none, errW_some] <;> rfl) | (simp [*, errW_none, errW_some] <;> rfl), ahx⟩
                ·replace c213 := Bool.eq_false_iff.mpr c213
                 subst c213
                 have H1 : (some true) = some r := by rw [if_neg (show ¬ (false = true) by decide)] at H; exact H
                 clear H
                 have H := H1
                 clear H1
                 obtain rfl := Option.some.inj H
                 go_wp2_with (first | (go_at_call 11; (with_reducible refine (curve_Right.calls _ _ l0 false _ ?side1 ?side2 A194.out).mono ?_); (case side1 => repeat (first | exact (Kd.C_below HR0.out HB.out) | (with_reducible refine Kd.C_alloc ?_ _) | (with_reducible refine Kd.C_drewN ?_ _) | (with_reducible refine Kd.C_drew ?_))); (case side2 => exact HC0.out); rintro e w219 ⟨rfl, hb⟩; have n0_ := Aside0.mk (below_step ahx hb); clear HB; have HB := n0_; clear n0_; (try clear hb); (try clear hb2); (try clear hk); (try clear hi)) | ((with_reducible refine gate_callee (f := 21) rfl ?_); refine goesL_ (some 102) rfl rfl Try.func21 (by kernel_rfl) rfl #[.int .i64 a4, .int .i64 a1, .int .i64 a2] rfl (by first | done | rfl) ?_; (with_reducible refine (exact_Scale.calls a4 a1 a2 t111 t112 false _ A210.out).mono ?_); rintro e w' ⟨rfl, ⟨nd, rfl⟩⟩; refine ⟨_, rfl, ?_⟩) | (go_at_call 21; (with_reducible refine (exact_Scale.calls a4 a1 a2 t111 t112 false _ A210.out).mono ?_); rintro e w' ⟨rfl, ⟨nd, rfl⟩⟩))
                 go_ret
                 exact ⟨by first | rfl | (simp [errW_none, errW_some] <;> rfl) | (simp [*, errW_none, errW_some] <;> rfl), ahx⟩
               ·replace c212 := Bool.eq_false_iff.mpr c212
                subst c212
                have H1 : (some false) = some r := by rw [if_neg (show ¬ (false = true) by decide)] at H; exact H
                clear H
                have H := H1
                clear H1
                exact NF.go H hr.out (by repeat' first | exact NF.none | exact NF.ff | refine NF.ite ?_ ?_ | refine NF.bind (fun _ => ?_))
              ·rw [if_neg c211] at H
               have c211b0 : decide (0 < t112) = false := decide_eq_false c211
               clear c211
               by_cases c220 : t101 = true
               ·subst c220
                have H1 : (if t113 = true then ((curve_At.f l0 (wrap64 (a3 + a4))).bind fun t116 => ((curve_At.f l0 a3).bind fun t117 => (some (decide ((wrap64 (t116 - t117)) ≤ t111))))) else (some true)) = some r := by rw [if_pos rfl] at H; exact H
                clear H
                have H := H1
                clear H1
                by_cases c221 : t113 = true
                ·subst c221
                 have H1 : ((curve_At.f l0 (wrap64 (a3 + a4))).bind fun t116 => ((curve_At.f l0 a3).bind fun t117 => (some (decide ((wrap64 (t116 - t117)) ≤ t111))))) = some r := by rw [if_pos rfl] at H; exact H
                 clear H
                 have H := H1
                 clear H1
                 replace H := Option.bind_eq_some_iff.mp H
                 obtain ⟨t116, A2220, H⟩ := H
                 replace H : ((curve_At.f l0 a3).bind fun t117 => (some (decide ((wrap64 (t116 - t117)) ≤ t111)))) = some r := H
                 have A222 := Aside0.mk A2220
                 clear A2220
                 replace H := Option.bind_eq_some_iff.mp H
                 obtain ⟨t117, A2230, H⟩ := H
                 replace H : (some (decide ((wrap64 (t116 - t117)) ≤ t111))) = some r := H
                 have A223 := Aside0.mk A2230
                 clear A2230
                 obtain rfl := Option.some.inj H
                 go_wp2_with (first | (go_at_call 11; (with_reducible refine (curve_Right.calls _ _ l0 false _ ?side1 ?side2 A194.out).mono ?_); (case side1 => repeat (first | exact (Kd.C_below HR0.out HB.out) | (with_reducible refine Kd.C_alloc ?_ _) | (with_reducible refine Kd.C_drewN ?_ _) | (with_reducible refine Kd.C_drew ?_))); (case side2 => exact HC0.out); rintro e w224 ⟨rfl, hb⟩; have n0_ := Aside0.mk (below_step ahx hb); clear HB; have HB := n0_; clear n0_; (try clear hb); (try clear hb2); (try clear hk); (try clear hi)) | ((with_reducible refine gate_callee (f := 21) rfl ?_); refine goesL_ (some 102) rfl rfl Try.func21 (by kernel_rfl) rfl #[.int .i64 a4, .int .i64 a1, .int .i64 a2] rfl (by first | done | rfl) ?_; (with_reducible refine (exact_Scale.calls a4 a1 a2 t111 t112 true _ A210.out).mono ?_); rintro e w' ⟨rfl, ⟨nd, rfl⟩⟩; refine ⟨_, rfl, ?_⟩) | (go_at_call 21; (with_reducible refine (exact_Scale.calls a4 a1 a2 t111 t112 true _ A210.out).mono ?_); rintro e w' ⟨rfl, ⟨nd, rfl⟩⟩) | (go_at_call 13; (with_reducible refine (curve_At.calls _ _ l0 (wrap64 (a3 + a4)) t116 _ ?side1 ?side2 A222.out).mono ?_); (case side1 => repeat (first | exact (Kd.C_below HR0.out ahx) | (with_reducible refine Kd.C_alloc ?_ _) | (with_reducible refine Kd.C_drewN ?_ _) | (with_reducible refine Kd.C_drew ?_))); (case side2 => exact HC0.out); rintro e w225 ⟨rfl, hb⟩; have n0_ := Aside0.mk (below_step ahx hb); clear HB; have HB := n0_; clear n0_; (try clear hb); (try clear hb2); (try clear hk); (try clear hi)) | (go_at_call 13; (with_reducible refine (curve_At.calls _ _ l0 a3 t117 _ ?side1 ?side2 A223.out).mono ?_); (case side1 => repeat (first | exact (Kd.C_below HR0.out HB.out) | (with_reducible refine Kd.C_alloc ?_ _) | (with_reducible refine Kd.C_drewN ?_ _) | (with_reducible refine Kd.C_drew ?_))); (case side2 => exact HC0.out); rintro e w226 ⟨rfl, hb⟩; have n0_ := Aside0.mk (below_step ahx hb); clear HB; have HB := n0_; clear n0_; (try clear hb); (try clear hb2); (try clear hk); (try clear hi)))
                 go_ret
                 exact ⟨by first | rfl | (simp [errW_none, errW_some] <;> rfl) | (simp [*, errW_none, errW_some] <;> rfl), ahx⟩
                ·replace c221 := Bool.eq_false_iff.mpr c221
                 subst c221
                 have H1 : (some true) = some r := by rw [if_neg (show ¬ (false = true) by decide)] at H; exact H
                 clear H
                 have H := H1
                 clear H1
                 obtain rfl := Option.some.inj H
                 go_wp2_with (first | (go_at_call 11; (with_reducible refine (curve_Right.calls _ _ l0 false _ ?side1 ?side2 A194.out).mono ?_); (case side1 => repeat (first | exact (Kd.C_below HR0.out HB.out) | (with_reducible refine Kd.C_alloc ?_ _) | (with_reducible refine Kd.C_drewN ?_ _) | (with_reducible refine Kd.C_drew ?_))); (case side2 => exact HC0.out); rintro e w227 ⟨rfl, hb⟩; have n0_ := Aside0.mk (below_step ahx hb); clear HB; have HB := n0_; clear n0_; (try clear hb); (try clear hb2); (try clear hk); (try clear hi)) | ((with_reducible refine gate_callee (f := 21) rfl ?_); refine goesL_ (some 102) rfl rfl Try.func21 (by kernel_rfl) rfl #[.int .i64 a4, .int .i64 a1, .int .i64 a2] rfl (by first | done | rfl) ?_; (with_reducible refine (exact_Scale.calls a4 a1 a2 t111 t112 false _ A210.out).mono ?_); rintro e w' ⟨rfl, ⟨nd, rfl⟩⟩; refine ⟨_, rfl, ?_⟩) | (go_at_call 21; (with_reducible refine (exact_Scale.calls a4 a1 a2 t111 t112 false _ A210.out).mono ?_); rintro e w' ⟨rfl, ⟨nd, rfl⟩⟩))
                 go_ret
                 exact ⟨by first | rfl | (simp [errW_none, errW_some] <;> rfl) | (simp [*, errW_none, errW_some] <;> rfl), ahx⟩
               ·replace c220 := Bool.eq_false_iff.mpr c220
                subst c220
                have H1 : (some false) = some r := by rw [if_neg (show ¬ (false = true) by decide)] at H; exact H
                clear H
                have H := H1
                clear H1
                exact NF.go H hr.out (by repeat' first | exact NF.none | exact NF.ff | refine NF.ite ?_ ?_ | refine NF.bind (fun _ => ?_))
             ·exact absurd rfl c209
           ·rw [if_neg c193] at H
            have c193b0 : decide (x13_1 < (l0.length : Int)) = false := decide_eq_false c193
            clear c193
            by_cases c229 : true = true
            ·clear c229
             have H1 : ((exact_Scale.f a4 a1 a2).bind fun bt118 => (if bt118.2.1 > 0 then (if t101 = true then (if bt118.2.2 = true then ((curve_At.f l0 (wrap64 (a3 + a4))).bind fun t121 => ((curve_At.f l0 a3).bind fun t122 => (some (decide ((wrap64 (t121 - t122)) ≤ (wrap64 (bt118.1 + 1))))))) else (some true)) else (some false)) else (if t101 = true then (if bt118.2.2 = true then ((curve_At.f l0 (wrap64 (a3 + a4))).bind fun t123 => ((curve_At.f l0 a3).bind fun t124 => (some (decide ((wrap64 (t123 - t124)) ≤ bt118.1))))) else (some true)) else (some false)))) = some r := by first | (rw [if_pos rfl] at H; exact H) | (rw [if_pos trivial] at H; exact H)
             clear H
             have H := H1
             clear H1
             replace H := Option.bind_eq_some_iff.mp H
             obtain ⟨⟨t118, t119, t120⟩, A2300, H⟩ := H
             replace H : (if t119 > 0 then (if t101 = true then (if t120 = true then ((curve_At.f l0 (wrap64 (a3 + a4))).bind fun t121 => ((curve_At.f l0 a3).bind fun t122 => (some (decide ((wrap64 (t121 - t122)) ≤ (wrap64 (t118 + 1))))))) else (some true)) else (some false)) else (if t101 = true then (if t120 = true then ((curve_At.f l0 (wrap64 (a3 + a4))).bind fun t123 => ((curve_At.f l0 a3).bind fun t124 => (some (decide ((wrap64 (t123 - t124)) ≤ t118))))) else (some true)) else (some false))) = some r := H
             have A230 := Aside0.mk A2300
             clear A2300
             by_cases c231 : t119 > 0
             ·rw [if_pos c231] at H
              have c231b0 : decide (0 < t119) = true := decide_eq_true c231
              clear c231
              by_cases c232 : t101 = true
              ·subst c232
               have H1 : (if t120 = true then ((curve_At.f l0 (wrap64 (a3 + a4))).bind fun t121 => ((curve_At.f l0 a3).bind fun t122 => (some (decide ((wrap64 (t121 - t122)) ≤ (wrap64 (t118 + 1))))))) else (some true)) = some r := by rw [if_pos rfl] at H; exact H
               clear H
               have H := H1
               clear H1
               by_cases c233 : t120 = true
               ·subst c233
                have H1 : ((curve_At.f l0 (wrap64 (a3 + a4))).bind fun t121 => ((curve_At.f l0 a3).bind fun t122 => (some (decide ((wrap64 (t121 - t122)) ≤ (wrap64 (t118 + 1))))))) = some r := by rw [if_pos rfl] at H; exact H
                clear H
                have H := H1
                clear H1
                replace H := Option.bind_eq_some_iff.mp H
                obtain ⟨t121, A2340, H⟩ := H
                replace H : ((curve_At.f l0 a3).bind fun t122 => (some (decide ((wrap64 (t121 - t122)) ≤ (wrap64 (t118 + 1)))))) = some r := H
                have A234 := Aside0.mk A2340
                clear A2340
                replace H := Option.bind_eq_some_iff.mp H
                obtain ⟨t122, A2350, H⟩ := H
                replace H : (some (decide ((wrap64 (t121 - t122)) ≤ (wrap64 (t118 + 1))))) = some r := H
                have A235 := Aside0.mk A2350
                clear A2350
                obtain rfl := Option.some.inj H
                go_wp2_with (first | ((with_reducible refine gate_callee (f := 21) rfl ?_); refine goesL_ (some 102) rfl rfl Try.func21 (by kernel_rfl) rfl #[.int .i64 a4, .int .i64 a1, .int .i64 a2] rfl (by first | done | rfl) ?_; (with_reducible refine (exact_Scale.calls a4 a1 a2 t118 t119 true _ A230.out).mono ?_); rintro e w' ⟨rfl, ⟨nd, rfl⟩⟩; refine ⟨_, rfl, ?_⟩) | (go_at_call 21; (with_reducible refine (exact_Scale.calls a4 a1 a2 t118 t119 true _ A230.out).mono ?_); rintro e w' ⟨rfl, ⟨nd, rfl⟩⟩) | (go_at_call 13; (with_reducible refine (curve_At.calls _ _ l0 (wrap64 (a3 + a4)) t121 _ ?side1 ?side2 A234.out).mono ?_); (case side1 => repeat (first | exact (Kd.C_below HR0.out ahx) | (with_reducible refine Kd.C_alloc ?_ _) | (with_reducible refine Kd.C_drewN ?_ _) | (with_reducible refine Kd.C_drew ?_))); (case side2 => exact HC0.out); rintro e w236 ⟨rfl, hb⟩; have n0_ := Aside0.mk (below_step ahx hb); clear HB; have HB := n0_; clear n0_; (try clear hb); (try clear hb2); (try clear hk); (try clear hi)) | (go_at_call 13; (with_reducible refine (curve_At.calls _ _ l0 a3 t122 _ ?side1 ?side2 A235.out).mono ?_); (case side1 => repeat (first | exact (Kd.C_below HR0.out HB.out) | (with_reducible refine Kd.C_alloc ?_ _) | (with_reducible refine Kd.C_drewN ?_ _) | (with_reducible refine Kd.C_drew ?_))); (case side2 => exact HC0.out); rintro e w237 ⟨rfl, hb⟩; have n0_ := Aside0.mk (below_step ahx hb); clear HB; have HB := n0_; clear n0_; (try clear hb); (try clear hb2); (try clear hk); (try clear hi)))
                go_ret
                exact ⟨by first | rfl | (simp [errW_none, errW_some] <;> rfl) | (simp [*, errW_none, errW_some] <;> rfl), ahx⟩
               ·replace c233 := Bool.eq_false_iff.mpr c233
                subst c233
                have H1 : (some true) = some r := by rw [if_neg (show ¬ (false = true) by decide)] at H; exact H
                clear H
                have H := H1
                clear H1
                obtain rfl := Option.some.inj H
                go_wp2_with (first | ((with_reducible refine gate_callee (f := 21) rfl ?_); refine goesL_ (some 102) rfl rfl Try.func21 (by kernel_rfl) rfl #[.int .i64 a4, .int .i64 a1, .int .i64 a2] rfl (by first | done | rfl) ?_; (with_reducible refine (exact_Scale.calls a4 a1 a2 t118 t119 false _ A230.out).mono ?_); rintro e w' ⟨rfl, ⟨nd, rfl⟩⟩; refine ⟨_, rfl, ?_⟩) | (go_at_call 21; (with_reducible refine (exact_Scale.calls a4 a1 a2 t118 t119 false _ A230.out).mono ?_); rintro e w' ⟨rfl, ⟨nd, rfl⟩⟩))
                go_ret
                exact ⟨by first | rfl | (simp [errW_none, errW_some] <;> rfl) | (simp [*, errW_none, errW_some] <;> rfl), ahx⟩
              ·replace c232 := Bool.eq_false_iff.mpr c232
               subst c232
               have H1 : (some false) = some r := by rw [if_neg (show ¬ (false = true) by decide)] at H; exact H
               clear H
               have H := H1
               clear H1
               exact NF.go H hr.out (by repeat' first | exact NF.none | exact NF.ff | refine NF.ite ?_ ?_ | refine NF.bind (fun _ => ?_))
             ·rw [if_neg c231] at H
              have c231b0 : decide (0 < t119) = false := decide_eq_false c231
              clear c231
              by_cases c238 : t101 = true
              ·subst c238
               have H1 : (if t120 = true then ((curve_At.f l0 (wrap64 (a3 + a4))).bind fun t123 => ((curve_At.f l0 a3).bind fun t124 => (some (decide ((wrap64 (t123 - t124)) ≤ t118))))) else (some true)) = some r := by rw [if_pos rfl] at H; exact H
               clear H
               have H := H1
               clear H1
               by_cases c239 : t120 = true
               ·subst c239
                have H1 : ((curve_At.f l0 (wrap64 (a3 + a4))).bind fun t123 => ((curve_At.f l0 a3).bind fun t124 => (some (decide ((wrap64 (t123 - t124)) ≤ t118))))) = some r := by rw [if_pos rfl] at H; exact H
                clear H
                have H := H1
                clear H1
                replace H := Option.bind_eq_some_iff.mp H
                obtain ⟨t123, A2400, H⟩ := H
                replace H : ((curve_At.f l0 a3).bind fun t124 => (some (decide ((wrap64 (t123 - t124)) ≤ t118)))) = some r := H
                have A240 := Aside0.mk A2400
                clear A2400
                replace H := Option.bind_eq_some_iff.mp H
                obtain ⟨t124, A2410, H⟩ := H
                replace H : (some (decide ((wrap64 (t123 - t124)) ≤ t118))) = some r := H
                have A241 := Aside0.mk A2410
                clear A2410
                obtain rfl := Option.some.inj H
                go_wp2_with (first | ((with_reducible refine gate_callee (f := 21) rfl ?_); refine goesL_ (some 102) rfl rfl Try.func21 (by kernel_rfl) rfl #[.int .i64 a4, .int .i64 a1, .int .i64 a2] rfl (by first | done | rfl) ?_; (with_reducible refine (exact_Scale.calls a4 a1 a2 t118 t119 true _ A230.out).mono ?_); rintro e w' ⟨rfl, ⟨nd, rfl⟩⟩; refine ⟨_, rfl, ?_⟩) | (go_at_call 21; (with_reducible refine (exact_Scale.calls a4 a1 a2 t118 t119 true _ A230.out).mono ?_); rintro e w' ⟨rfl, ⟨nd, rfl⟩⟩) | (go_at_call 13; (with_reducible refine (curve_At.calls _ _ l0 (wrap64 (a3 + a4)) t123 _ ?side1 ?side2 A240.out).mono ?_); (case side1 => repeat (first | exact (Kd.C_below HR0.out ahx) | (with_reducible refine Kd.C_alloc ?_ _) | (with_reducible refine Kd.C_drewN ?_ _) | (with_reducible refine Kd.C_drew ?_))); (case side2 => exact HC0.out); rintro e w242 ⟨rfl, hb⟩; have n0_ := Aside0.mk (below_step ahx hb); clear HB; have HB := n0_; clear n0_; (try clear hb); (try clear hb2); (try clear hk); (try clear hi)) | (go_at_call 13; (with_reducible refine (curve_At.calls _ _ l0 a3 t124 _ ?side1 ?side2 A241.out).mono ?_); (case side1 => repeat (first | exact (Kd.C_below HR0.out HB.out) | (with_reducible refine Kd.C_alloc ?_ _) | (with_reducible refine Kd.C_drewN ?_ _) | (with_reducible refine Kd.C_drew ?_))); (case side2 => exact HC0.out); rintro e w243 ⟨rfl, hb⟩; have n0_ := Aside0.mk (below_step ahx hb); clear HB; have HB := n0_; clear n0_; (try clear hb); (try clear hb2); (try clear hk); (try clear hi)))
                go_ret
                exact ⟨by first | rfl | (simp [errW_none, errW_some] <;> rfl) | (simp [*, errW_none, errW_some] <;> rfl), ahx⟩
               ·replace c239 := Bool.eq_false_iff.mpr c239
                subst c239
                have H1 : (some true) = some r := by rw [if_neg (show ¬ (false = true) by decide)] at H; exact H
                clear H
                have H := H1
                clear H1
                obtain rfl := Option.some.inj H
                go_wp2_with (first | ((with_reducible refine gate_callee (f := 21) rfl ?_); refine goesL_ (some 102) rfl rfl Try.func21 (by kernel_rfl) rfl #[.int .i64 a4, .int .i64 a1, .int .i64 a2] rfl (by first | done | rfl) ?_; (with_reducible refine (exact_Scale.calls a4 a1 a2 t118 t119 false _ A230.out).mono ?_); rintro e w' ⟨rfl, ⟨nd, rfl⟩⟩; refine ⟨_, rfl, ?_⟩) | (go_at_call 21; (with_reducible refine (exact_Scale.calls a4 a1 a2 t118 t119 false _ A230.out).mono ?_); rintro e w' ⟨rfl, ⟨nd, rfl⟩⟩))
                go_ret
                exact ⟨by first | rfl | (simp [errW_none, errW_some] <;> rfl) | (simp [*, errW_none, errW_some] <;> rfl), ahx⟩
              ·replace c238 := Bool.eq_false_iff.mpr c238
               subst c238
               have H1 : (some false) = some r := by rw [if_neg (show ¬ (false = true) by decide)] at H; exact H
               clear H
               have H := H1
               clear H1
               exact NF.go H hr.out (by repeat' first | exact NF.none | exact NF.ff | refine NF.ite ?_ ?_ | refine NF.bind (fun _ => ?_))
            ·exact absurd rfl c229
      ·replace c18 := Bool.eq_false_iff.mpr c18
       subst c18
       have H1 : (bournelaw10_CurveSlopes.l0 k l0 a1 a2 a3 a4 t101 false 1) = some r := by rw [if_neg (show ¬ (false = true) by decide)] at H; exact H
       clear H
       have H := H1
       clear H1
       have H' := Aside0.mk H
       clear H
       go_enter Try.func5, Try.ntmps5
       go_wp2_with (first | ((with_reducible refine gate_callee (f := 8) rfl ?_); refine goesL_ (some 18) rfl rfl Try.func8 (by kernel_rfl) rfl #[] rfl (by first | done | rfl) ?_; (with_reducible refine (bournelaw10_small.calls  t101 _ A6.out).mono ?_); rintro e w244 ⟨rfl, hb⟩; refine ⟨_, rfl, ?_⟩; have n0_ := Aside0.mk (below_step ahx hb); clear HB; have HB := n0_; clear n0_; (try clear hb); (try clear hb2); (try clear hk); (try clear hi)) | (go_at_call 8; (with_reducible refine (bournelaw10_small.calls  t101 _ A6.out).mono ?_); rintro e w244 ⟨rfl, hb⟩; have n0_ := Aside0.mk (below_step ahx hb); clear HB; have HB := n0_; clear n0_; (try clear hb); (try clear hb2); (try clear hk); (try clear hi)) | ((with_reducible refine gate_callee (f := 15) rfl ?_); refine goesL_ (some 42) rfl rfl Try.func15 (by kernel_rfl) rfl #[.slice A0 l0.length c0, .int .i64 a1, .int .i64 a2] rfl (by first | done | rfl) ?_; (with_reducible refine (curve_Slope.calls _ _ l0 a1 a2 false _ ?side1 ?side2 A17.out).mono ?_); (case side1 => repeat (first | exact (Kd.C_below HR0.out HB.out) | (with_reducible refine Kd.C_alloc ?_ _) | (with_reducible refine Kd.C_drewN ?_ _) | (with_reducible refine Kd.C_drew ?_))); (case side2 => exact HC0.out); rintro e w245 ⟨rfl, hb⟩; refine ⟨_, rfl, ?_⟩; have n0_ := Aside0.mk (below_step ahx hb); clear HB; have HB := n0_; clear n0_; (try clear hb); (try clear hb2); (try clear hk); (try clear hi)) | (go_at_call 15; (with_reducible refine (curve_Slope.calls _ _ l0 a1 a2 false _ ?side1 ?side2 A17.out).mono ?_); (case side1 => repeat (first | exact (Kd.C_below HR0.out HB.out) | (with_reducible refine Kd.C_alloc ?_ _) | (with_reducible refine Kd.C_drewN ?_ _) | (with_reducible refine Kd.C_drew ?_))); (case side2 => exact HC0.out); rintro e w245 ⟨rfl, hb⟩; have n0_ := Aside0.mk (below_step ahx hb); clear HB; have HB := n0_; clear n0_; (try clear hb); (try clear hb2); (try clear hk); (try clear hi)))
       go_loopg [13] k (fun kq v13 w' => ∃ (x13_1 : Int), v13 = .int .i64 x13_1 ∧ Aside0 (bournelaw10_CurveSlopes.l0 kq l0 a1 a2 a3 a4 t101 false x13_1 = some r) ∧ Aside0 (kq ≤ k) ∧ Aside0 (Below w.heap.size w w'))
       case atStart => exact ⟨(1), (by first | rfl | (simp; done) | (simp [*]; done)), H', ⟨Nat.le_refl _⟩, ⟨ahx⟩⟩
       case round =>
        clear H'
        try clear c1
        try clear q1
        try clear c2
        try clear p2
        try clear q2
        try clear c3
        try clear c4
        try clear q4
        try clear c5
        try clear c6
        try clear p6
        try clear c7
        try clear c7b0
        try clear c7b1
        try clear c8
        try clear c9
        try clear c9b0
        try clear q9
        try clear c10
        try clear c11
        try clear c11b0
        try clear c12
        try clear c13
        try clear c13b0
        try clear c14
        try clear c15
        try clear c15b0
        try clear q15
        try clear c16
        try clear c17
        try clear c18
        try clear c19
        try clear c19b0
        try clear c20
        try clear q20
        try clear c21
        try clear c22
        try clear c22b0
        try clear c23
        try clear c24
        try clear c29
        try clear c29b0
        try clear c31
        try clear c33
        try clear c33b0
        try clear c33b1
        try clear c34
        try clear c34b0
        try clear c34b1
        try clear c35
        try clear c35b0
        try clear c35b1
        try clear c37
        try clear c38
        try clear c40
        try clear q40
        try clear c43
        try clear q43
        try clear c45
        try clear c47
        try clear c47b0
        try clear c48
        try clear c49
        try clear c56
        try clear c57
        try clear p64
        try clear c65
        try clear c67
        try clear c67b0
        try clear c68
        try clear c69
        try clear c74
        try clear c75
        try clear c83
        try clear c83b0
        try clear c85
        try clear c87
        try clear c87b0
        try clear c87b1
        try clear c88
        try clear c88b0
        try clear c88b1
        try clear c89
        try clear c89b0
        try clear c89b1
        try clear c91
        try clear c92
        try clear c94
        try clear q94
        try clear c97
        try clear q97
        try clear c99
        try clear c101
        try clear c101b0
        try clear c102
        try clear c103
        try clear c110
        try clear c111
        try clear c119
        try clear c121
        try clear c121b0
        try clear c122
        try clear c123
        try clear c128
        try clear c129
        try clear c134
        try clear c134b0
        try clear c136
        try clear c140
        try clear c140b0
        try clear c142
        try clear c144
        try clear c144b0
        try clear c144b1
        try clear c145
        try clear c145b0
        try clear c145b1
        try clear c146
        try clear c146b0
        try clear c146b1
        try clear c148
        try clear c149
        try clear c151
        try clear q151
        try clear c154
        try clear q154
        try clear c156
        try clear c158
        try clear c158b0
        try clear c159
        try clear c160
        try clear c167
        try clear c168
        try clear c176
        try clear c178
        try clear c178b0
        try clear c179
        try clear c180
        try clear c185
        try clear c186
        try clear c193
        try clear c193b0
        try clear c195
        try clear c197
        try clear c197b0
        try clear c197b1
        try clear c198
        try clear c198b0
        try clear c198b1
        try clear c199
        try clear c199b0
        try clear c199b1
        try clear c201
        try clear c202
        try clear c204
        try clear q204
        try clear c207
        try clear q207
        try clear c209
        try clear c211
        try clear c211b0
        try clear c212
        try clear c213
        try clear c220
        try clear c221
        try clear c229
        try clear c231
        try clear c231b0
        try clear c232
        try clear c233
        try clear c238
        try clear c239
        try clear p2
        try clear p6
        try clear p64
        try clear q0151
        try clear q0154
        try clear q0204
        try clear q0207
        try clear q040
        try clear q043
        try clear q094
        try clear q097
        try clear q1
        try clear q15
        try clear q151
        try clear q154
        try clear q204
        try clear q207
        try clear q4
        try clear q40
        try clear q43
        try clear q9
        try clear q94
        try clear q97
        obtain ⟨x13_1, rfl, HA, HK1, HB⟩ := hrel
        cases gk with
        | zero => exact absurd HA.out (by simp [bournelaw10_CurveSlopes.l0])
        | succ k1 =>
         have H := HA.out
         clear HA
         simp only [bournelaw10_CurveSlopes.l0] at H
         by_cases c246 : x13_1 < (l0.length : Int)
         ·rw [if_pos c246] at H
          have c246b0 : decide (x13_1 < (l0.length : Int)) = true := decide_eq_true c246
          clear c246
          replace H := Option.bind_eq_some_iff.mp H
          obtain ⟨t105, A2470, H⟩ := H
          replace H : (if t105 = true then (if 0 ≤ (wrap64 (x13_1 - 1)) then (if (wrap64 (x13_1 - 1)) ≤ (wrap64 (x13_1 + 1)) then (if (wrap64 (x13_1 + 1)) ≤ (l0.length : Int) then ((curve_Slope.f ((l0.take ((wrap64 (x13_1 + 1)) : Int).toNat).drop ((wrap64 (x13_1 - 1)) : Int).toNat) a1 a2).bind fun t110 => (if false = true then (if t110 = true then (bournelaw10_CurveSlopes.l0 k1 l0 a1 a2 a3 a4 t101 false (wrap64 (x13_1 + 1))) else (some false)) else (bournelaw10_CurveSlopes.l0 k1 l0 a1 a2 a3 a4 t101 false (wrap64 (x13_1 + 1))))) else (none)) else (none)) else (none)) else (if false = true then ((exact_Scale.f a4 a1 a2).bind fun bt111 => (if bt111.2.1 > 0 then (if t101 = true then (if bt111.2.2 = true then ((curve_At.f l0 (wrap64 (a3 + a4))).bind fun t114 => ((curve_At.f l0 a3).bind fun t115 => (some (decide ((wrap64 (t114 - t115)) ≤ (wrap64 (bt111.1 + 1))))))) else (some true)) else (some false)) else (if t101 = true then (if bt111.2.2 = true then ((curve_At.f l0 (wrap64 (a3 + a4))).bind fun t116 => ((curve_At.f l0 a3).bind fun t117 => (some (decide ((wrap64 (t116 - t117)) ≤ bt111.1))))) else (some true)) else (some false)))) else (some t101))) = some r := H
          have A247 := Aside0.mk A2470
          clear A2470
          by_cases c248 : t105 = true
          ·subst c248
           have H1 : (if 0 ≤ (wrap64 (x13_1 - 1)) then (if (wrap64 (x13_1 - 1)) ≤ (wrap64 (x13_1 + 1)) then (if (wrap64 (x13_1 + 1)) ≤ (l0.length : Int) then ((curve_Slope.f ((l0.take ((wrap64 (x13_1 + 1)) : Int).toNat).drop ((wrap64 (x13_1 - 1)) : Int).toNat) a1 a2).bind fun t110 => (if false = true then (if t110 = true then (bournelaw10_CurveSlopes.l0 k1 l0 a1 a2 a3 a4 t101 false (wrap64 (x13_1 + 1))) else (some false)) else (bournelaw10_CurveSlopes.l0 k1 l0 a1 a2 a3 a4 t101 false (wrap64 (x13_1 + 1))))) else (none)) else (none)) else (none)) = some r := by rw [if_pos rfl] at H; exact H
           clear H
           have H := H1
           clear H1
           obtain ⟨ji249, hji249⟩ : ∃ j_ : Int, (wrap64 (x13_1 - 1)) = j_ := ⟨_, rfl⟩
           replace H : (if 0 ≤ (ji249) then (if (ji249) ≤ (wrap64 (x13_1 + 1)) then (if (wrap64 (x13_1 + 1)) ≤ (l0.length : Int) then ((curve_Slope.f ((l0.take ((wrap64 (x13_1 + 1)) : Int).toNat).drop ((ji249) : Int).toNat) a1 a2).bind fun t110 => (if false = true then (if t110 = true then (bournelaw10_CurveSlopes.l0 k1 l0 a1 a2 a3 a4 t101 false (wrap64 (x13_1 + 1))) else (some false)) else (bournelaw10_CurveSlopes.l0 k1 l0 a1 a2 a3 a4 t101 false (wrap64 (x13_1 + 1))))) else (none)) else (none)) else (none)) = some r := by first | (rw [hji249] at H; exact H) | (simp only [hji249] at H ⊢; exact H)
           (try rw [hji249] at A247)
           have hji249w : (IntKind.i64.wrap (x13_1 - 1)) = ji249 := (i64_w _).trans hji249
           by_cases c250 : 0 ≤ (ji249)
           ·rw [if_pos c250] at H
            have c250b0 := eq_true c250
            have c250b1 : decide (0 ≤ (ji249)) = true := decide_eq_true c250
            clear c250
            by_cases c251 : (ji249) ≤ (wrap64 (x13_1 + 1))
            ·rw [if_pos c251] at H
             have c251b0 := eq_true c251
             have c251b1 : decide ((ji249) ≤ (wrap64 (x13_1 + 1))) = true := decide_eq_true c251
             by_cases c252 : (wrap64 (x13_1 + 1)) ≤ (l0.length : Int)
             ·rw [if_pos c252] at H
              have c252b0 := eq_true c252
              have c252b1 : decide ((wrap64 (x13_1 + 1)) ≤ (l0.length : Int)) = true := decide_eq_true c252
              obtain ⟨y106, hy106⟩ : ∃ y_ : List (S37), y_ = ((l0.take ((wrap64 (x13_1 + 1)) : Int).toNat).drop ((ji249) : Int).toNat) := ⟨_, rfl⟩
              replace H : ((curve_Slope.f y106 a1 a2).bind fun t110 => (if false = true then (if t110 = true then (bournelaw10_CurveSlopes.l0 k1 l0 a1 a2 a3 a4 t101 false (wrap64 (x13_1 + 1))) else (some false)) else (bournelaw10_CurveSlopes.l0 k1 l0 a1 a2 a3 a4 t101 false (wrap64 (x13_1 + 1))))) = some r := by first | (rw [hy106]; with_reducible exact H) | (have H2_ := (Option.bind_some _ _).symm.trans H; rw [hy106]; with_reducible exact H2_) | (have H2_ := (Option.bind_some _ _).symm.trans H; with_reducible exact H2_) | with_reducible exact H | (rw [hy106]; exact H) | exact H
              have Ny106 := Aside0.mk hy106
              clear hy106
              replace H := Option.bind_eq_some_iff.mp H
              obtain ⟨t110, A2530, H⟩ := H
              replace H : (if false = true then (if t110 = true then (bournelaw10_CurveSlopes.l0 k1 l0 a1 a2 a3 a4 t101 false (wrap64 (x13_1 + 1))) else (some false)) else (bournelaw10_CurveSlopes.l0 k1 l0 a1 a2 a3 a4 t101 false (wrap64 (x13_1 + 1)))) = some r := H
              have A253 := Aside0.mk A2530
              clear A2530
              by_cases c254 : false = true
              ·exact absurd c254 (by decide)
              ·clear c254
               have H1 : (bournelaw10_CurveSlopes.l0 k1 l0 a1 a2 a3 a4 t101 false (wrap64 (x13_1 + 1))) = some r := by rw [if_neg (show ¬ (false = true) by decide)] at H; exact H
               clear H
               have H := H1
               clear H1
               have H' := Aside0.mk H
               clear H
               go_wp2_with (first | (go_at_call 11; (with_reducible refine (curve_Right.calls _ _ l0 true _ ?side1 ?side2 A247.out).mono ?_); (case side1 => repeat (first | exact (Kd.C_below HR0.out HB.out) | (with_reducible refine Kd.C_alloc ?_ _) | (with_reducible refine Kd.C_drewN ?_ _) | (with_reducible refine Kd.C_drew ?_))); (case side2 => exact HC0.out); rintro e w262 ⟨rfl, hb⟩; have n0_ := Aside0.mk (below_step ahx hb); clear HB; have HB := n0_; clear n0_; (try clear hb); (try clear hb2); (try clear hk); (try clear hi); have q263 : ((wrap64 (x13_1 + 1)) : Int) ≤ ((l0.length : Int) : Int) := of_decide_eq_true (by first | (with_reducible assumption) | assumption); obtain ⟨i0263, hi0263, _, hsz263, _⟩ := info_parts info37; have hroom263 : l0.length ≤ c0 := HC0.out; have hC263 : Kd.C k37 _ A0 l0.length l0 := HR0.out; have ql263 : ((ji249) : Int) ≤ ((wrap64 (x13_1 + 1)) : Int) := of_decide_eq_true (by first | (with_reducible assumption) | assumption); have q0263 : (0 : Int) ≤ ((ji249) : Int) := of_decide_eq_true (by first | (with_reducible assumption) | assumption); have hcut263 := cut_mid (P := Try.prog) 22 37 .i64 .i64 Try.underlying22 hi0263 2 hsz263 A0 l0.length c0 (ji249) (wrap64 (x13_1 + 1)) q0263 ql263 q263 hroom263; have hr263 := Kd.C_mid (lo := ((ji249) : Int).toNat) (hi := ((wrap64 (x13_1 + 1)) : Int).toNat) (c := c0) hC263 (by omega) (by omega) hroom263; obtain ⟨A263, hA263⟩ : ∃ A1, A1 = (if c0 = ((ji249) : Int).toNat then A0 else (A0 : Option Addr).map (·.add (((ji249) : Int).toNat * 2))) := ⟨_, rfl⟩; obtain ⟨c263, hc263⟩ : ∃ c1, c1 = c0 - ((ji249) : Int).toNat := ⟨_, rfl⟩; have hy263 : y106.length = ((wrap64 (x13_1 + 1)) : Int).toNat - ((ji249) : Int).toNat := (by rw [Ny106.out, List.length_drop, List.length_take] <;> omega); rw [show ((l0).take ((wrap64 (x13_1 + 1)) : Int).toNat).drop ((ji249) : Int).toNat = y106 from Ny106.out.symm] at hr263; replace hr263 : Kd.C k37 _ A263 y106.length y106 := (by rw [hA263]; exact hr263); rw [← hy263, ← hA263, ← hc263] at hcut263; have HR109 := Aside0.mk hr263; have HC109 := Aside0.mk (show y106.length ≤ c263 from by rw [hy263, hc263]; exact Nat.sub_le_sub_right (Nat.le_trans (by omega) hroom263) _); clear hr263 hC263 hroom263 hi0263 hsz263 hc263; have KY263 := Aside0.mk hy263; have KA263 := Aside0.mk hA263; clear hy263 hA263; replace q263 := eq_true q263) | ((with_reducible refine gate_callee (f := 15) rfl ?_); refine goesL_ (some 89) rfl rfl Try.func15 (by kernel_rfl) rfl #[.slice A263 y106.length c263, .int .i64 a1, .int .i64 a2] rfl (by first | done | rfl) ?_; (with_reducible refine (curve_Slope.calls _ _ y106 a1 a2 t110 _ ?side1 ?side2 A253.out).mono ?_); (case side1 => repeat (first | exact (Kd.C_below HR109.out HB.out) | (with_reducible refine Kd.C_alloc ?_ _) | (with_reducible refine Kd.C_drewN ?_ _) | (with_reducible refine Kd.C_drew ?_))); (case side2 => exact HC109.out); rintro e w264 ⟨rfl, hb⟩; refine ⟨_, rfl, ?_⟩; have n0_ := Aside0.mk (below_step ahx hb); clear HB; have HB := n0_; clear n0_; (try clear hb); (try clear hb2); (try clear hk); (try clear hi)) | (go_at_call 15; (with_reducible refine (curve_Slope.calls _ _ y106 a1 a2 t110 _ ?side1 ?side2 A253.out).mono ?_); (case side1 => repeat (first | exact (Kd.C_below HR109.out HB.out) | (with_reducible refine Kd.C_alloc ?_ _) | (with_reducible refine Kd.C_drewN ?_ _) | (with_reducible refine Kd.C_drew ?_))); (case side2 => exact HC109.out); rintro e w264 ⟨rfl, hb⟩; have n0_ := Aside0.mk (below_step ahx hb); clear HB; have HB := n0_; clear n0_; (try clear hb); (try clear hb2); (try clear hk); (try clear hi)))
               go_roundg k1
               case measure => have := HK1.out; omega
               case rel => exact ⟨(wrap64 (x13_1 + 1)), (by first | rfl | (simp; done) | (simp [*]; done)), H', ⟨by have := HK1.out; omega⟩, ⟨ahx⟩⟩
             ·rw [if_neg c252] at H
              exact NF.go H hr.out (by repeat' first | exact NF.none | exact NF.ff | refine NF.ite ?_ ?_ | refine NF.bind (fun _ => ?_))
            ·rw [if_neg c251] at H
             exact NF.go H hr.out (by repeat' first | exact NF.none | exact NF.ff | refine NF.ite ?_ ?_ | refine NF.bind (fun _ => ?_))
           ·rw [if_neg c250] at H
            exact NF.go H hr.out (by repeat' first | exact NF.none | exact NF.ff | refine NF.ite ?_ ?_ | refine NF.bind (fun _ => ?_))
          ·replace c248 := Bool.eq_false_iff.mpr c248
           subst c248
           have H1 : (if false = true then ((exact_Scale.f a4 a1 a2).bind fun bt111 => (if bt111.2.1 > 0 then (if t101 = true then (if bt111.2.2 = true then ((curve_At.f l0 (wrap64 (a3 + a4))).bind fun t114 => ((curve_At.f l0 a3).bind fun t115 => (some (decide ((wrap64 (t114 - t115)) ≤ (wrap64 (bt111.1 + 1))))))) else (some true)) else (some false)) else (if t101 = true then (if bt111.2.2 = true then ((curve_At.f l0 (wrap64 (a3 + a4))).bind fun t116 => ((curve_At.f l0 a3).bind fun t117 => (some (decide ((wrap64 (t116 - t117)) ≤ bt111.1))))) else (some true)) else (some false)))) else (some t101)) = some r := by rw [if_neg (show ¬ (false = true) by decide)] at H; exact H
           clear H
           have H := H1
           clear H1
           by_cases c265 : false = true
           ·exact absurd c265 (by decide)
           ·clear c265
            have H1 : (some t101) = some r := by rw [if_neg (show ¬ (false = true) by decide)] at H; exact H
            clear H
            have H := H1
            clear H1
            obtain rfl := Option.some.inj H
            go_wp2_with (first | (go_at_call 11; (with_reducible refine (curve_Right.calls _ _ l0 false _ ?side1 ?side2 A247.out).mono ?_); (case side1 => repeat (first | exact (Kd.C_below HR0.out HB.out) | (with_reducible refine Kd.C_alloc ?_ _) | (with_reducible refine Kd.C_drewN ?_ _) | (with_reducible refine Kd.C_drew ?_))); (case side2 => exact HC0.out); rintro e w286 ⟨rfl, hb⟩; have n0_ := Aside0.mk (below_step ahx hb); clear HB; have HB := n0_; clear n0_; (try clear hb); (try clear hb2); (try clear hk); (try clear hi)))
            go_ret
            exact ⟨by first | rfl | (simp [errW_none, errW_some] <;> rfl) | (simp [*, errW_none, errW_some] <;> rfl), ahx⟩
         ·rw [if_neg c246] at H
          have c246b0 : decide (x13_1 < (l0.length : Int)) = false := decide_eq_false c246
          clear c246
          by_cases c287 : false = true
          ·exact absurd c287 (by decide)
          ·clear c287
           have H1 : (some t101) = some r := by rw [if_neg (show ¬ (false = true) by decide)] at H; exact H
           clear H
           have H := H1
           clear H1
           obtain rfl := Option.some.inj H
           go_wp2
           go_ret
           exact ⟨by first | rfl | (simp [errW_none, errW_some] <;> rfl) | (simp [*, errW_none, errW_some] <;> rfl), ahx⟩

end Go.Proofs.Ytoiclhdkgalhcaa.L
