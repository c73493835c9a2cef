-- Written by a program of this session (wip/tools/pp.py) out of the translation; Lean checks it.
import Derived.Test.YtgakeihdnlmeaaaFx0
namespace Go.Proofs.Ytgakeihdnlmeaaa.F
open Go.RowKit Go.Proofs.YtgakeihdnlmeaaaW.PrintWords Go.Proofs.YtgakeihdnlmeaaaW.PrintLast Go.Proofs.YtgakeihdnlmeaaaW.PrintMore
open Go.Proofs.Ytgakeihdnlmeaaa.S
attribute [local go_sem] max2_int min2_int max_two min_two max_three min_three max_four min_four   -- for this text's walks alone
set_option linter.unusedVariables false
set_option linter.unusedSimpArgs false

/-! ### bournelaw04_GroupField: function 7 -/
mutual
def bournelaw04_GroupField.j0 : Nat → Int → Int → Int → Bool → Int → Int → Bool → Option (Bool)
  | 0, _, _, _, _, _, _, _ => none
  | k + 1, x0, x1, x2, x7, x8, x9, x12 => (group_Mul.f x0 x1).bind fun t107 => ((group_Mul.f x1 x0).bind fun t108 => (if t107 = t108 then ((group_Mul.f x0 x1).bind fun t109 => ((group_Mul.f t109 x2).bind fun t110 => ((group_Mul.f x1 x2).bind fun t111 => ((group_Mul.f x0 t111).bind fun t112 => (if t110 = t112 then ((group_Mul.f x0 x1).bind fun t113 => (if x8 = 0 then (bournelaw04_GroupField.j1 k x0 x1 x2 x7 x9 x12 ((t113 == 0) == true)) else ((group_Mul.f x1 1).bind fun t114 => (bournelaw04_GroupField.j1 k x0 x1 x2 x7 x9 x12 ((t113 == 0) == (t114 == 0)))))) else (bournelaw04_GroupField.j1 k x0 x1 x2 x7 x9 x12 false)))))) else (bournelaw04_GroupField.j1 k x0 x1 x2 x7 x9 x12 false)))
def bournelaw04_GroupField.j1 : Nat → Int → Int → Int → Bool → Int → Bool → Bool → Option (Bool)
  | 0, _, _, _, _, _, _, _ => none
  | k + 1, x0, x1, x2, x7, x9, x12, x13 => (group_AddQ.f x0 x1).bind fun t115 => ((group_AddQ.f x1 x0).bind fun t116 => (if t115 = t116 then ((group_AddQ.f x0 x1).bind fun t117 => ((group_AddQ.f t117 x2).bind fun t118 => ((group_AddQ.f x1 x2).bind fun t119 => ((group_AddQ.f x0 t119).bind fun t120 => (if t118 = t120 then ((group_AddQ.f x0 x1).bind fun t121 => ((group_SubQ.f t121 x1).bind fun t122 => (bournelaw04_GroupField.j2 k x0 x1 x2 x7 x9 x12 x13 (t122 == x9)))) else (bournelaw04_GroupField.j2 k x0 x1 x2 x7 x9 x12 x13 false)))))) else (bournelaw04_GroupField.j2 k x0 x1 x2 x7 x9 x12 x13 false)))
def bournelaw04_GroupField.j2 : Nat → Int → Int → Int → Bool → Int → Bool → Bool → Bool → Option (Bool)
  | 0, _, _, _, _, _, _, _, _ => none
  | k + 1, x0, x1, x2, x7, x9, x12, x13, x14 => (group_MulQ.f x0 x1).bind fun t123 => ((group_MulQ.f x1 x0).bind fun t124 => (if t123 = t124 then ((group_MulQ.f x0 x1).bind fun t125 => ((group_MulQ.f t125 x2).bind fun t126 => ((group_MulQ.f x1 x2).bind fun t127 => ((group_MulQ.f x0 t127).bind fun t128 => (if t126 = t128 then ((group_AddQ.f x1 x2).bind fun t129 => ((group_MulQ.f x0 t129).bind fun t130 => ((group_MulQ.f x0 x1).bind fun t131 => ((group_MulQ.f x0 x2).bind fun t132 => ((group_AddQ.f t131 t132).bind fun t133 => (if t130 = t133 then ((group_MulQ.f x0 1).bind fun t134 => (if x7 = true then (if x12 = true then (if x13 = true then (if x14 = true then (some (t134 == x9)) else (some false)) else (some false)) else (some false)) else (some false))) else (if x7 = true then (if x12 = true then (if x13 = true then (if x14 = true then (some false) else (some false)) else (some false)) else (some false)) else (some false)))))))) else (if x7 = true then (if x12 = true then (if x13 = true then (if x14 = true then (some false) else (some false)) else (some false)) else (some false)) else (some false))))))) else (if x7 = true then (if x12 = true then (if x13 = true then (if x14 = true then (some false) else (some false)) else (some false)) else (some false)) else (some false))))
end
def bournelaw04_GroupField.f (k : Nat) (a0 : Int) (a1 : Int) (a2 : Int) : Option (Bool) := (bournelaw04_small.f).bind fun t101 => ((group_Mul.f a0 1).bind fun t102 => ((group_AddQ.f a0 0).bind fun t103 => ((group_Inv.f a0).bind fun bt104 => (if t102 ≥ 0 then (if t102 < 2305843009213691579 then (if t103 ≥ 0 then (if t103 < 1152921504606845789 then (if (bt104.2 == (t102 != 0)) = true then (if bt104.2 = true then (if bt104.1 ≥ 1 then (if bt104.1 < 2305843009213691579 then ((group_Mul.f a0 bt104.1).bind fun t106 => (bournelaw04_GroupField.j0 k a0 a1 a2 t101 t102 t103 (t106 == 1))) else (bournelaw04_GroupField.j0 k a0 a1 a2 t101 t102 t103 false)) else (bournelaw04_GroupField.j0 k a0 a1 a2 t101 t102 t103 false)) else (bournelaw04_GroupField.j0 k a0 a1 a2 t101 t102 t103 true)) else (bournelaw04_GroupField.j0 k a0 a1 a2 t101 t102 t103 false)) else (bournelaw04_GroupField.j0 k a0 a1 a2 t101 t102 t103 false)) else (bournelaw04_GroupField.j0 k a0 a1 a2 t101 t102 t103 false)) else (bournelaw04_GroupField.j0 k a0 a1 a2 t101 t102 t103 false)) else (bournelaw04_GroupField.j0 k a0 a1 a2 t101 t102 t103 false)))))
theorem bournelaw04_GroupField.mono_l : ∀ k, (∀ y0 y1 y2 y3 y4 y5 y6, LeO (bournelaw04_GroupField.j0 k y0 y1 y2 y3 y4 y5 y6) (bournelaw04_GroupField.j0 (k + 1) y0 y1 y2 y3 y4 y5 y6)) ∧ (∀ y0 y1 y2 y3 y4 y5 y6, LeO (bournelaw04_GroupField.j1 k y0 y1 y2 y3 y4 y5 y6) (bournelaw04_GroupField.j1 (k + 1) y0 y1 y2 y3 y4 y5 y6)) ∧ (∀ y0 y1 y2 y3 y4 y5 y6 y7, LeO (bournelaw04_GroupField.j2 k y0 y1 y2 y3 y4 y5 y6 y7) (bournelaw04_GroupField.j2 (k + 1) y0 y1 y2 y3 y4 y5 y6 y7))
  | 0 => ⟨fun _ _ _ _ _ _ _ r h => by simp [bournelaw04_GroupField.j0] at h, fun _ _ _ _ _ _ _ r h => by simp [bournelaw04_GroupField.j1] at h, fun _ _ _ _ _ _ _ _ r h => by simp [bournelaw04_GroupField.j2] at h⟩
  | k + 1 => by
    obtain ⟨ih0, ih1, ih2⟩ := bournelaw04_GroupField.mono_l k
    refine ⟨?_, ?_, ?_⟩
    · intro y0 y1 y2 y3 y4 y5 y6
      unfold bournelaw04_GroupField.j0
      repeat' first
      | (with_reducible exact ih0 _ _ _ _ _ _ _)
      | (with_reducible exact ih1 _ _ _ _ _ _ _)
      | (with_reducible exact ih2 _ _ _ _ _ _ _ _)
      | (with_reducible exact LeO.refl _)
      | (with_reducible exact LeO.none _)
      | (with_reducible refine LeO.ite ?_ ?_)
      | (with_reducible refine LeO.bind ?_ (fun _ => ?_))
      | exact ih0 _ _ _ _ _ _ _
      | exact ih1 _ _ _ _ _ _ _
      | exact ih2 _ _ _ _ _ _ _ _
      | exact LeO.none _
      | refine LeO.ite ?_ ?_
      | refine LeO.bind ?_ (fun _ => ?_)
    · intro y0 y1 y2 y3 y4 y5 y6
      unfold bournelaw04_GroupField.j1
      repeat' first
      | (with_reducible exact ih0 _ _ _ _ _ _ _)
      | (with_reducible exact ih1 _ _ _ _ _ _ _)
      | (with_reducible exact ih2 _ _ _ _ _ _ _ _)
      | (with_reducible exact LeO.refl _)
      | (with_reducible exact LeO.none _)
      | (with_reducible refine LeO.ite ?_ ?_)
      | (with_reducible refine LeO.bind ?_ (fun _ => ?_))
      | exact ih0 _ _ _ _ _ _ _
      | exact ih1 _ _ _ _ _ _ _
      | exact ih2 _ _ _ _ _ _ _ _
      | exact LeO.none _
      | refine LeO.ite ?_ ?_
      | refine LeO.bind ?_ (fun _ => ?_)
    · intro y0 y1 y2 y3 y4 y5 y6 y7
      unfold bournelaw04_GroupField.j2
      repeat' first
      | (with_reducible exact ih0 _ _ _ _ _ _ _)
      | (with_reducible exact ih1 _ _ _ _ _ _ _)
      | (with_reducible exact ih2 _ _ _ _ _ _ _ _)
      | (with_reducible exact LeO.refl _)
      | (with_reducible exact LeO.none _)
      | (with_reducible refine LeO.ite ?_ ?_)
      | (with_reducible refine LeO.bind ?_ (fun _ => ?_))
      | exact ih0 _ _ _ _ _ _ _
      | exact ih1 _ _ _ _ _ _ _
      | exact ih2 _ _ _ _ _ _ _ _
      | exact LeO.none _
      | refine LeO.ite ?_ ?_
      | refine LeO.bind ?_ (fun _ => ?_)
theorem bournelaw04_GroupField.mono : ∀ a0 a1 a2 k, LeO (bournelaw04_GroupField.f k a0 a1 a2) (bournelaw04_GroupField.f (k + 1) a0 a1 a2) := by
  intro a0 a1 a2 k
  obtain ⟨ih0, ih1, ih2⟩ := bournelaw04_GroupField.mono_l k
  unfold bournelaw04_GroupField.f
  repeat' first
      | (with_reducible exact ih0 _ _ _ _ _ _ _)
      | (with_reducible exact ih1 _ _ _ _ _ _ _)
      | (with_reducible exact ih2 _ _ _ _ _ _ _ _)
      | (with_reducible exact LeO.refl _)
      | (with_reducible exact LeO.none _)
      | (with_reducible refine LeO.ite ?_ ?_)
      | (with_reducible refine LeO.bind ?_ (fun _ => ?_))
      | exact ih0 _ _ _ _ _ _ _
      | exact ih1 _ _ _ _ _ _ _
      | exact ih2 _ _ _ _ _ _ _ _
      | exact LeO.none _
      | refine LeO.ite ?_ ?_
      | refine LeO.bind ?_ (fun _ => ?_)
set_option maxHeartbeats 8000000 in
set_option maxRecDepth 100000 in
theorem bournelaw04_GroupField.calls (k : Nat) (a0 : Int) (a1 : Int) (a2 : Int) (r : Bool) (w : World) (h : bournelaw04_GroupField.f k a0 a1 a2 = some r) :
    Calls Try.prog 7 #[.int .i64 a0, .int .i64 a1, .int .i64 a2] w fun e w' => e = .returned (.bool r) ∧ Drawn0 w w' := by
  have H : ((bournelaw04_small.f).bind fun t101 => ((group_Mul.f a0 1).bind fun t102 => ((group_AddQ.f a0 0).bind fun t103 => ((group_Inv.f a0).bind fun bt104 => (if t102 ≥ 0 then (if t102 < 2305843009213691579 then (if t103 ≥ 0 then (if t103 < 1152921504606845789 then (if (bt104.2 == (t102 != 0)) = true then (if bt104.2 = true then (if bt104.1 ≥ 1 then (if bt104.1 < 2305843009213691579 then ((group_Mul.f a0 bt104.1).bind fun t106 => (bournelaw04_GroupField.j0 k a0 a1 a2 t101 t102 t103 (t106 == 1))) else (bournelaw04_GroupField.j0 k a0 a1 a2 t101 t102 t103 false)) else (bournelaw04_GroupField.j0 k a0 a1 a2 t101 t102 t103 false)) else (bournelaw04_GroupField.j0 k a0 a1 a2 t101 t102 t103 true)) else (bournelaw04_GroupField.j0 k a0 a1 a2 t101 t102 t103 false)) else (bournelaw04_GroupField.j0 k a0 a1 a2 t101 t102 t103 false)) else (bournelaw04_GroupField.j0 k a0 a1 a2 t101 t102 t103 false)) else (bournelaw04_GroupField.j0 k a0 a1 a2 t101 t102 t103 false)) else (bournelaw04_GroupField.j0 k a0 a1 a2 t101 t102 t103 false)))))) = some r := h
  clear h
  replace H := Option.bind_eq_some_iff.mp H
  obtain ⟨t101, A40, H⟩ := H
  replace H : ((group_Mul.f a0 1).bind fun t102 => ((group_AddQ.f a0 0).bind fun t103 => ((group_Inv.f a0).bind fun bt104 => (if t102 ≥ 0 then (if t102 < 2305843009213691579 then (if t103 ≥ 0 then (if t103 < 1152921504606845789 then (if (bt104.2 == (t102 != 0)) = true then (if bt104.2 = true then (if bt104.1 ≥ 1 then (if bt104.1 < 2305843009213691579 then ((group_Mul.f a0 bt104.1).bind fun t106 => (bournelaw04_GroupField.j0 k a0 a1 a2 t101 t102 t103 (t106 == 1))) else (bournelaw04_GroupField.j0 k a0 a1 a2 t101 t102 t103 false)) else (bournelaw04_GroupField.j0 k a0 a1 a2 t101 t102 t103 false)) else (bournelaw04_GroupField.j0 k a0 a1 a2 t101 t102 t103 true)) else (bournelaw04_GroupField.j0 k a0 a1 a2 t101 t102 t103 false)) else (bournelaw04_GroupField.j0 k a0 a1 a2 t101 t102 t103 false)) else (bournelaw04_GroupField.j0 k a0 a1 a2 t101 t102 t103 false)) else (bournelaw04_GroupField.j0 k a0 a1 a2 t101 t102 t103 false)) else (bournelaw04_GroupField.j0 k a0 a1 a2 t101 t102 t103 false))))) = some r := H
  have A4 := Aside0.mk A40
  clear A40
  replace H := Option.bind_eq_some_iff.mp H
  obtain ⟨t102, A50, H⟩ := H
  replace H : ((group_AddQ.f a0 0).bind fun t103 => ((group_Inv.f a0).bind fun bt104 => (if t102 ≥ 0 then (if t102 < 2305843009213691579 then (if t103 ≥ 0 then (if t103 < 1152921504606845789 then (if (bt104.2 == (t102 != 0)) = true then (if bt104.2 = true then (if bt104.1 ≥ 1 then (if bt104.1 < 2305843009213691579 then ((group_Mul.f a0 bt104.1).bind fun t106 => (bournelaw04_GroupField.j0 k a0 a1 a2 t101 t102 t103 (t106 == 1))) else (bournelaw04_GroupField.j0 k a0 a1 a2 t101 t102 t103 false)) else (bournelaw04_GroupField.j0 k a0 a1 a2 t101 t102 t103 false)) else (bournelaw04_GroupField.j0 k a0 a1 a2 t101 t102 t103 true)) else (bournelaw04_GroupField.j0 k a0 a1 a2 t101 t102 t103 false)) else (bournelaw04_GroupField.j0 k a0 a1 a2 t101 t102 t103 false)) else (bournelaw04_GroupField.j0 k a0 a1 a2 t101 t102 t103 false)) else (bournelaw04_GroupField.j0 k a0 a1 a2 t101 t102 t103 false)) else (bournelaw04_GroupField.j0 k a0 a1 a2 t101 t102 t103 false)))) = some r := H
  have A5 := Aside0.mk A50
  clear A50
  replace H := Option.bind_eq_some_iff.mp H
  obtain ⟨t103, A60, H⟩ := H
  replace H : ((group_Inv.f a0).bind fun bt104 => (if t102 ≥ 0 then (if t102 < 2305843009213691579 then (if t103 ≥ 0 then (if t103 < 1152921504606845789 then (if (bt104.2 == (t102 != 0)) = true then (if bt104.2 = true then (if bt104.1 ≥ 1 then (if bt104.1 < 2305843009213691579 then ((group_Mul.f a0 bt104.1).bind fun t106 => (bournelaw04_GroupField.j0 k a0 a1 a2 t101 t102 t103 (t106 == 1))) else (bournelaw04_GroupField.j0 k a0 a1 a2 t101 t102 t103 false)) else (bournelaw04_GroupField.j0 k a0 a1 a2 t101 t102 t103 false)) else (bournelaw04_GroupField.j0 k a0 a1 a2 t101 t102 t103 true)) else (bournelaw04_GroupField.j0 k a0 a1 a2 t101 t102 t103 false)) else (bournelaw04_GroupField.j0 k a0 a1 a2 t101 t102 t103 false)) else (bournelaw04_GroupField.j0 k a0 a1 a2 t101 t102 t103 false)) else (bournelaw04_GroupField.j0 k a0 a1 a2 t101 t102 t103 false)) else (bournelaw04_GroupField.j0 k a0 a1 a2 t101 t102 t103 false))) = some r := H
  have A6 := Aside0.mk A60
  clear A60
  replace H := Option.bind_eq_some_iff.mp H
  obtain ⟨⟨t104, t105⟩, A70, H⟩ := H
  replace H : (if t102 ≥ 0 then (if t102 < 2305843009213691579 then (if t103 ≥ 0 then (if t103 < 1152921504606845789 then (if (t105 == (t102 != 0)) = true then (if t105 = true then (if t104 ≥ 1 then (if t104 < 2305843009213691579 then ((group_Mul.f a0 t104).bind fun t106 => (bournelaw04_GroupField.j0 k a0 a1 a2 t101 t102 t103 (t106 == 1))) else (bournelaw04_GroupField.j0 k a0 a1 a2 t101 t102 t103 false)) else (bournelaw04_GroupField.j0 k a0 a1 a2 t101 t102 t103 false)) else (bournelaw04_GroupField.j0 k a0 a1 a2 t101 t102 t103 true)) else (bournelaw04_GroupField.j0 k a0 a1 a2 t101 t102 t103 false)) else (bournelaw04_GroupField.j0 k a0 a1 a2 t101 t102 t103 false)) else (bournelaw04_GroupField.j0 k a0 a1 a2 t101 t102 t103 false)) else (bournelaw04_GroupField.j0 k a0 a1 a2 t101 t102 t103 false)) else (bournelaw04_GroupField.j0 k a0 a1 a2 t101 t102 t103 false)) = some r := H
  have A7 := Aside0.mk A70
  clear A70
  have HC8 := Aside0.mk H
  clear H
  go_enter Try.func7, Try.ntmps7
  go_upto_region 5 with (first | ((with_reducible refine gate_callee (f := 8) rfl ?_); refine goesL_ (some 16) rfl rfl Try.func8 (by kernel_rfl) rfl #[] rfl (by (try simp only [List.map_toArray, List.map_cons, List.map_nil]); first | done | rfl | (simp only [List.length_drop, List.length_take]; rfl)) ?_; (with_reducible refine (bournelaw04_small.calls  t101 _ A4.out).mono ?_); rintro e w' ⟨rfl, ⟨nd, rfl⟩⟩; refine ⟨_, rfl, ?_⟩) | ((with_reducible refine gate_callee (f := 11) rfl ?_); refine goesL_ (some 18) rfl rfl Try.func11 (by kernel_rfl) rfl #[.int .i64 a0, .int .i64 1] rfl (by (try simp only [List.map_toArray, List.map_cons, List.map_nil]); first | done | rfl | (simp only [List.length_drop, List.length_take]; rfl)) ?_; (with_reducible refine (group_Mul.calls a0 1 t102 _ A5.out).mono ?_); rintro e w' ⟨rfl, ⟨nd, rfl⟩⟩; refine ⟨_, rfl, ?_⟩) | ((with_reducible refine gate_callee (f := 17) rfl ?_); refine goesL_ (some 20) rfl rfl Try.func17 (by kernel_rfl) rfl #[.int .i64 a0, .int .i64 0] rfl (by (try simp only [List.map_toArray, List.map_cons, List.map_nil]); first | done | rfl | (simp only [List.length_drop, List.length_take]; rfl)) ?_; (with_reducible refine (group_AddQ.calls a0 0 t103 _ A6.out).mono ?_); rintro e w' ⟨rfl, ⟨nd, rfl⟩⟩; refine ⟨_, rfl, ?_⟩) | ((with_reducible refine gate_callee (f := 9) rfl ?_); refine goesL_ (some 23) rfl rfl Try.func9 (by kernel_rfl) rfl #[.int .i64 a0] rfl (by (try simp only [List.map_toArray, List.map_cons, List.map_nil]); first | done | rfl | (simp only [List.length_drop, List.length_take]; rfl)) ?_; (with_reducible refine (group_Inv.calls a0 t104 t105 _ A7.out).mono ?_); rintro e w' ⟨rfl, ⟨nd, rfl⟩⟩; refine ⟨_, rfl, ?_⟩))
  (try simp only [Act.put, List.setIfInBounds_toArray, List.set_cons_zero, List.set_cons_succ])
  go_cut [12] (fun v12 wc => ∃ (kq : Nat) (x12_7 : Bool), v12 = .bool x12_7 ∧ Aside0 (bournelaw04_GroupField.j0 kq a0 a1 a2 t101 t102 t103 x12_7 = some r) ∧ Aside0 (kq ≤ k) ∧ Drawn0 w wc)
  case first =>
    have H := HC8.out
    clear HC8
    by_cases c9 : t102 ≥ 0
    · rw [if_pos c9] at H
      have c9b0 : decide (0 ≤ t102) = true := decide_eq_true c9
      clear c9
      (first | rw [c9b0] | (simp only [i64_w, i32_w]; rw [c9b0]) | skip)
      by_cases c10 : t102 < 2305843009213691579
      · rw [if_pos c10] at H
        have c10b0 : decide (t102 < 2305843009213691579) = true := decide_eq_true c10
        clear c10
        by_cases c11 : t103 ≥ 0
        · rw [if_pos c11] at H
          have c11b0 : decide (0 ≤ t103) = true := decide_eq_true c11
          clear c11
          by_cases c12 : t103 < 1152921504606845789
          · rw [if_pos c12] at H
            have c12b0 : decide (t103 < 1152921504606845789) = true := decide_eq_true c12
            clear c12
            by_cases c13 : (t105 == (t102 != 0)) = true
            · rw [if_pos c13] at H
              have c13b0 : (t105 == (t102 != 0)) = true := c13
              (try (have c13b1 : decide (t105 = (t102 != 0)) = true := by simpa using c13))
              (try (have c13b2 : (t105 == (t102 != 0)) = true := by simpa using c13))
              clear c13
              by_cases c14 : t105 = true
              · subst c14
                have H1 : (if t104 ≥ 1 then (if t104 < 2305843009213691579 then ((group_Mul.f a0 t104).bind fun t106 => (bournelaw04_GroupField.j0 k a0 a1 a2 t101 t102 t103 (t106 == 1))) else (bournelaw04_GroupField.j0 k a0 a1 a2 t101 t102 t103 false)) else (bournelaw04_GroupField.j0 k a0 a1 a2 t101 t102 t103 false)) = some r := by rw [if_pos rfl] at H; exact H
                clear H
                have H := H1
                clear H1
                by_cases c15 : t104 ≥ 1
                · rw [if_pos c15] at H
                  have c15b0 : decide (1 ≤ t104) = true := decide_eq_true c15
                  clear c15
                  by_cases c16 : t104 < 2305843009213691579
                  · rw [if_pos c16] at H
                    have c16b0 : decide (t104 < 2305843009213691579) = true := decide_eq_true c16
                    clear c16
                    replace H := Option.bind_eq_some_iff.mp H
                    obtain ⟨t106, A170, H⟩ := H
                    replace H : (bournelaw04_GroupField.j0 k a0 a1 a2 t101 t102 t103 (t106 == 1)) = some r := H
                    have A17 := Aside0.mk A170
                    clear A170
                    have H' := Aside0.mk H
                    clear H
                    as_aux_lemma =>
                      go_wp2_with (first | (go_at_call 11; (with_reducible refine (group_Mul.calls a0 t104 t106 _ A17.out).mono ?_); rintro e w' ⟨rfl, ⟨nd, rfl⟩⟩))
                      go_meet
                      case rel => exact ⟨_, ((t106 == 1)), (by first | rfl | (simp; done) | (simp [*]; done)), H', ⟨by first | omega | exact Nat.le_refl _⟩, by repeat (first | exact Drawn0.refl _ | apply Drawn0.step)⟩
                  · rw [if_neg c16] at H
                    have c16b0 : decide (t104 < 2305843009213691579) = false := decide_eq_false c16
                    clear c16
                    have H' := Aside0.mk H
                    clear H
                    as_aux_lemma =>
                      go_wp2
                      go_meet
                      case rel => exact ⟨_, (false), (by first | rfl | (simp; done) | (simp [*]; done)), H', ⟨by first | omega | exact Nat.le_refl _⟩, by repeat (first | exact Drawn0.refl _ | apply Drawn0.step)⟩
                · rw [if_neg c15] at H
                  have c15b0 : decide (1 ≤ t104) = false := decide_eq_false c15
                  clear c15
                  have H' := Aside0.mk H
                  clear H
                  as_aux_lemma =>
                    go_wp2
                    go_meet
                    case rel => exact ⟨_, (false), (by first | rfl | (simp; done) | (simp [*]; done)), H', ⟨by first | omega | exact Nat.le_refl _⟩, by repeat (first | exact Drawn0.refl _ | apply Drawn0.step)⟩
              · replace c14 := Bool.eq_false_iff.mpr c14
                subst c14
                have H1 : (bournelaw04_GroupField.j0 k a0 a1 a2 t101 t102 t103 true) = some r := by rw [if_neg (show ¬ (false = true) by decide)] at H; exact H
                clear H
                have H := H1
                clear H1
                have H' := Aside0.mk H
                clear H
                as_aux_lemma =>
                  go_wp2
                  go_meet
                  case rel => exact ⟨_, (true), (by first | rfl | (simp; done) | (simp [*]; done)), H', ⟨by first | omega | exact Nat.le_refl _⟩, by repeat (first | exact Drawn0.refl _ | apply Drawn0.step)⟩
            · rw [if_neg c13] at H
              have c13b0 : (t105 == (t102 != 0)) = false := by simpa using c13
              (try (have c13b1 : decide (t105 = (t102 != 0)) = false := by simpa using c13))
              (try (have c13b2 : (t105 == (t102 != 0)) = false := by simpa using c13))
              (try (have c13b3 : ¬ (t105 = (t102 != 0)) := by simpa using c13))
              clear c13
              have H' := Aside0.mk H
              clear H
              as_aux_lemma =>
                go_wp2
                go_meet
                case rel => exact ⟨_, (false), (by first | rfl | (simp; done) | (simp [*]; done)), H', ⟨by first | omega | exact Nat.le_refl _⟩, by repeat (first | exact Drawn0.refl _ | apply Drawn0.step)⟩
          · rw [if_neg c12] at H
            have c12b0 : decide (t103 < 1152921504606845789) = false := decide_eq_false c12
            clear c12
            have H' := Aside0.mk H
            clear H
            as_aux_lemma =>
              go_wp2
              go_meet
              case rel => exact ⟨_, (false), (by first | rfl | (simp; done) | (simp [*]; done)), H', ⟨by first | omega | exact Nat.le_refl _⟩, by repeat (first | exact Drawn0.refl _ | apply Drawn0.step)⟩
        · rw [if_neg c11] at H
          have c11b0 : decide (0 ≤ t103) = false := decide_eq_false c11
          clear c11
          have H' := Aside0.mk H
          clear H
          as_aux_lemma =>
            go_wp2
            go_meet
            case rel => exact ⟨_, (false), (by first | rfl | (simp; done) | (simp [*]; done)), H', ⟨by first | omega | exact Nat.le_refl _⟩, by repeat (first | exact Drawn0.refl _ | apply Drawn0.step)⟩
      · rw [if_neg c10] at H
        have c10b0 : decide (t102 < 2305843009213691579) = false := decide_eq_false c10
        clear c10
        have H' := Aside0.mk H
        clear H
        as_aux_lemma =>
          go_wp2
          go_meet
          case rel => exact ⟨_, (false), (by first | rfl | (simp; done) | (simp [*]; done)), H', ⟨by first | omega | exact Nat.le_refl _⟩, by repeat (first | exact Drawn0.refl _ | apply Drawn0.step)⟩
    · rw [if_neg c9] at H
      have c9b0 : decide (0 ≤ t102) = false := decide_eq_false c9
      clear c9
      (first | rw [c9b0] | (simp only [i64_w, i32_w]; rw [c9b0]) | skip)
      have H' := Aside0.mk H
      clear H
      as_aux_lemma =>
        go_wp2
        go_meet
        case rel => exact ⟨_, (false), (by first | rfl | (simp; done) | (simp [*]; done)), H', ⟨by first | omega | exact Nat.le_refl _⟩, by repeat (first | exact Drawn0.refl _ | apply Drawn0.step)⟩
  case rest =>
    clear HC8
    try clear c1
    try clear p2
    try clear c7
    try clear c8
    try clear c9
    try clear c9b0
    try clear c10
    try clear c10b0
    try clear c11
    try clear c11b0
    try clear c12
    try clear c12b0
    try clear c13
    try clear c13b0
    try clear c13b1
    try clear c13b2
    try clear c14
    try clear c15
    try clear c15b0
    try clear c16
    try clear c16b0
    try clear c17
    obtain ⟨kq, x12_7, rfl, HA, HJ7, ⟨mc7, rfl⟩⟩ := hcut
    cases kq with
    | zero => exact absurd HA.out (by simp [bournelaw04_GroupField.j0])
    | succ kj7 =>
      have H := HA.out
      clear HA
      simp only [bournelaw04_GroupField.j0] at H
      have HC18 := Aside0.mk H
      clear H
      go_upto_region 6 with (fail)
      go_cut [13] (fun v13 wc => ∃ (kq : Nat) (x13_17 : Bool), v13 = .bool x13_17 ∧ Aside0 (bournelaw04_GroupField.j1 kq a0 a1 a2 t101 t103 x12_7 x13_17 = some r) ∧ Aside0 (kq ≤ kj7) ∧ Drawn0 w wc)
      case first =>
        have H := HC18.out
        clear HC18
        replace H := Option.bind_eq_some_iff.mp H
        obtain ⟨t107, A190, H⟩ := H
        replace H : ((group_Mul.f a1 a0).bind fun t108 => (if t107 = t108 then ((group_Mul.f a0 a1).bind fun t109 => ((group_Mul.f t109 a2).bind fun t110 => ((group_Mul.f a1 a2).bind fun t111 => ((group_Mul.f a0 t111).bind fun t112 => (if t110 = t112 then ((group_Mul.f a0 a1).bind fun t113 => (if t102 = 0 then (bournelaw04_GroupField.j1 kj7 a0 a1 a2 t101 t103 x12_7 ((t113 == 0) == true)) else ((group_Mul.f a1 1).bind fun t114 => (bournelaw04_GroupField.j1 kj7 a0 a1 a2 t101 t103 x12_7 ((t113 == 0) == (t114 == 0)))))) else (bournelaw04_GroupField.j1 kj7 a0 a1 a2 t101 t103 x12_7 false)))))) else (bournelaw04_GroupField.j1 kj7 a0 a1 a2 t101 t103 x12_7 false))) = some r := H
        have A19 := Aside0.mk A190
        clear A190
        replace H := Option.bind_eq_some_iff.mp H
        obtain ⟨t108, A200, H⟩ := H
        replace H : (if t107 = t108 then ((group_Mul.f a0 a1).bind fun t109 => ((group_Mul.f t109 a2).bind fun t110 => ((group_Mul.f a1 a2).bind fun t111 => ((group_Mul.f a0 t111).bind fun t112 => (if t110 = t112 then ((group_Mul.f a0 a1).bind fun t113 => (if t102 = 0 then (bournelaw04_GroupField.j1 kj7 a0 a1 a2 t101 t103 x12_7 ((t113 == 0) == true)) else ((group_Mul.f a1 1).bind fun t114 => (bournelaw04_GroupField.j1 kj7 a0 a1 a2 t101 t103 x12_7 ((t113 == 0) == (t114 == 0)))))) else (bournelaw04_GroupField.j1 kj7 a0 a1 a2 t101 t103 x12_7 false)))))) else (bournelaw04_GroupField.j1 kj7 a0 a1 a2 t101 t103 x12_7 false)) = some r := H
        have A20 := Aside0.mk A200
        clear A200
        by_cases c21 : t107 = t108
        · rw [if_pos c21] at H
          have c21b0 : (t107 == t108) = true := beq_iff_eq.mpr c21
          have c21b1 : (t107 != t108) = false := bne_eq_false_iff_eq.mpr c21
          clear c21
          (first | rw [c21b0] | (simp only [i64_w, i32_w]; rw [c21b0]) | skip)
          replace H := Option.bind_eq_some_iff.mp H
          obtain ⟨t109, A220, H⟩ := H
          replace H : ((group_Mul.f t109 a2).bind fun t110 => ((group_Mul.f a1 a2).bind fun t111 => ((group_Mul.f a0 t111).bind fun t112 => (if t110 = t112 then ((group_Mul.f a0 a1).bind fun t113 => (if t102 = 0 then (bournelaw04_GroupField.j1 kj7 a0 a1 a2 t101 t103 x12_7 ((t113 == 0) == true)) else ((group_Mul.f a1 1).bind fun t114 => (bournelaw04_GroupField.j1 kj7 a0 a1 a2 t101 t103 x12_7 ((t113 == 0) == (t114 == 0)))))) else (bournelaw04_GroupField.j1 kj7 a0 a1 a2 t101 t103 x12_7 false))))) = some r := H
          have A22 := Aside0.mk A220
          obtain rfl : t107 = t109 := Option.some.inj (A19.out.symm.trans A220)
          clear A220
          replace H := Option.bind_eq_some_iff.mp H
          obtain ⟨t110, A230, H⟩ := H
          replace H : ((group_Mul.f a1 a2).bind fun t111 => ((group_Mul.f a0 t111).bind fun t112 => (if t110 = t112 then ((group_Mul.f a0 a1).bind fun t113 => (if t102 = 0 then (bournelaw04_GroupField.j1 kj7 a0 a1 a2 t101 t103 x12_7 ((t113 == 0) == true)) else ((group_Mul.f a1 1).bind fun t114 => (bournelaw04_GroupField.j1 kj7 a0 a1 a2 t101 t103 x12_7 ((t113 == 0) == (t114 == 0)))))) else (bournelaw04_GroupField.j1 kj7 a0 a1 a2 t101 t103 x12_7 false)))) = some r := H
          have A23 := Aside0.mk A230
          clear A230
          replace H := Option.bind_eq_some_iff.mp H
          obtain ⟨t111, A240, H⟩ := H
          replace H : ((group_Mul.f a0 t111).bind fun t112 => (if t110 = t112 then ((group_Mul.f a0 a1).bind fun t113 => (if t102 = 0 then (bournelaw04_GroupField.j1 kj7 a0 a1 a2 t101 t103 x12_7 ((t113 == 0) == true)) else ((group_Mul.f a1 1).bind fun t114 => (bournelaw04_GroupField.j1 kj7 a0 a1 a2 t101 t103 x12_7 ((t113 == 0) == (t114 == 0)))))) else (bournelaw04_GroupField.j1 kj7 a0 a1 a2 t101 t103 x12_7 false))) = some r := H
          have A24 := Aside0.mk A240
          clear A240
          replace H := Option.bind_eq_some_iff.mp H
          obtain ⟨t112, A250, H⟩ := H
          replace H : (if t110 = t112 then ((group_Mul.f a0 a1).bind fun t113 => (if t102 = 0 then (bournelaw04_GroupField.j1 kj7 a0 a1 a2 t101 t103 x12_7 ((t113 == 0) == true)) else ((group_Mul.f a1 1).bind fun t114 => (bournelaw04_GroupField.j1 kj7 a0 a1 a2 t101 t103 x12_7 ((t113 == 0) == (t114 == 0)))))) else (bournelaw04_GroupField.j1 kj7 a0 a1 a2 t101 t103 x12_7 false)) = some r := H
          have A25 := Aside0.mk A250
          clear A250
          by_cases c26 : t110 = t112
          · rw [if_pos c26] at H
            have c26b0 : (t110 == t112) = true := beq_iff_eq.mpr c26
            have c26b1 : (t110 != t112) = false := bne_eq_false_iff_eq.mpr c26
            clear c26
            replace H := Option.bind_eq_some_iff.mp H
            obtain ⟨t113, A270, H⟩ := H
            replace H : (if t102 = 0 then (bournelaw04_GroupField.j1 kj7 a0 a1 a2 t101 t103 x12_7 ((t113 == 0) == true)) else ((group_Mul.f a1 1).bind fun t114 => (bournelaw04_GroupField.j1 kj7 a0 a1 a2 t101 t103 x12_7 ((t113 == 0) == (t114 == 0))))) = some r := H
            have A27 := Aside0.mk A270
            obtain rfl : t107 = t113 := Option.some.inj (A19.out.symm.trans A270)
            clear A270
            by_cases c28 : t102 = 0
            · rw [if_pos c28] at H
              have c28b0 : (t102 == 0) = true := beq_iff_eq.mpr c28
              have c28b1 : (t102 != 0) = false := bne_eq_false_iff_eq.mpr c28
              clear c28
              have H' := Aside0.mk H
              clear H
              as_aux_lemma =>
                go_wp2_with (first | ((with_reducible refine gate_callee (f := 11) rfl ?_); refine goesL_ (some 66) rfl rfl Try.func11 (by kernel_rfl) rfl #[.int .i64 a0, .int .i64 a1] rfl (by (try simp only [List.map_toArray, List.map_cons, List.map_nil]); first | done | rfl | (simp only [List.length_drop, List.length_take]; rfl)) ?_; (with_reducible refine (group_Mul.calls a0 a1 t107 _ A19.out).mono ?_); rintro e w' ⟨rfl, ⟨nd, rfl⟩⟩; refine ⟨_, rfl, ?_⟩) | ((with_reducible refine gate_callee (f := 11) rfl ?_); refine goesL_ (some 69) rfl rfl Try.func11 (by kernel_rfl) rfl #[.int .i64 a1, .int .i64 a0] rfl (by (try simp only [List.map_toArray, List.map_cons, List.map_nil]); first | done | rfl | (simp only [List.length_drop, List.length_take]; rfl)) ?_; (with_reducible refine (group_Mul.calls a1 a0 t108 _ A20.out).mono ?_); rintro e w' ⟨rfl, ⟨nd, rfl⟩⟩; refine ⟨_, rfl, ?_⟩) | (go_at_call 11; (with_reducible refine (group_Mul.calls a0 a1 t107 _ A22.out).mono ?_); rintro e w' ⟨rfl, ⟨nd, rfl⟩⟩) | (go_at_call 11; (with_reducible refine (group_Mul.calls t107 a2 t110 _ A23.out).mono ?_); rintro e w' ⟨rfl, ⟨nd, rfl⟩⟩) | (go_at_call 11; (with_reducible refine (group_Mul.calls a1 a2 t111 _ A24.out).mono ?_); rintro e w' ⟨rfl, ⟨nd, rfl⟩⟩) | (go_at_call 11; (with_reducible refine (group_Mul.calls a0 t111 t112 _ A25.out).mono ?_); rintro e w' ⟨rfl, ⟨nd, rfl⟩⟩) | (go_at_call 11; (with_reducible refine (group_Mul.calls a0 a1 t107 _ A27.out).mono ?_); rintro e w' ⟨rfl, ⟨nd, rfl⟩⟩))
                go_meet
                case rel => exact ⟨_, (((t107 == 0) == true)), (by first | rfl | (simp; done) | (simp [*]; done)), H', ⟨by have := HJ7.out; first | omega | exact Nat.le_refl _⟩, by repeat (first | exact Drawn0.refl _ | apply Drawn0.step)⟩
            · rw [if_neg c28] at H
              have c28b0 : (t102 == 0) = false := beq_eq_false_iff_ne.mpr c28
              have c28b1 : (t102 != 0) = true := bne_iff_ne.mpr c28
              replace H := Option.bind_eq_some_iff.mp H
              obtain ⟨t114, A290, H⟩ := H
              replace H : (bournelaw04_GroupField.j1 kj7 a0 a1 a2 t101 t103 x12_7 ((t107 == 0) == (t114 == 0))) = some r := H
              have A29 := Aside0.mk A290
              clear A290
              have H' := Aside0.mk H
              clear H
              as_aux_lemma =>
                go_wp2_with (first | ((with_reducible refine gate_callee (f := 11) rfl ?_); refine goesL_ (some 66) rfl rfl Try.func11 (by kernel_rfl) rfl #[.int .i64 a0, .int .i64 a1] rfl (by (try simp only [List.map_toArray, List.map_cons, List.map_nil]); first | done | rfl | (simp only [List.length_drop, List.length_take]; rfl)) ?_; (with_reducible refine (group_Mul.calls a0 a1 t107 _ A19.out).mono ?_); rintro e w' ⟨rfl, ⟨nd, rfl⟩⟩; refine ⟨_, rfl, ?_⟩) | ((with_reducible refine gate_callee (f := 11) rfl ?_); refine goesL_ (some 69) rfl rfl Try.func11 (by kernel_rfl) rfl #[.int .i64 a1, .int .i64 a0] rfl (by (try simp only [List.map_toArray, List.map_cons, List.map_nil]); first | done | rfl | (simp only [List.length_drop, List.length_take]; rfl)) ?_; (with_reducible refine (group_Mul.calls a1 a0 t108 _ A20.out).mono ?_); rintro e w' ⟨rfl, ⟨nd, rfl⟩⟩; refine ⟨_, rfl, ?_⟩) | (go_at_call 11; (with_reducible refine (group_Mul.calls a0 a1 t107 _ A22.out).mono ?_); rintro e w' ⟨rfl, ⟨nd, rfl⟩⟩) | (go_at_call 11; (with_reducible refine (group_Mul.calls t107 a2 t110 _ A23.out).mono ?_); rintro e w' ⟨rfl, ⟨nd, rfl⟩⟩) | (go_at_call 11; (with_reducible refine (group_Mul.calls a1 a2 t111 _ A24.out).mono ?_); rintro e w' ⟨rfl, ⟨nd, rfl⟩⟩) | (go_at_call 11; (with_reducible refine (group_Mul.calls a0 t111 t112 _ A25.out).mono ?_); rintro e w' ⟨rfl, ⟨nd, rfl⟩⟩) | (go_at_call 11; (with_reducible refine (group_Mul.calls a0 a1 t107 _ A27.out).mono ?_); rintro e w' ⟨rfl, ⟨nd, rfl⟩⟩) | (go_at_call 11; (with_reducible refine (group_Mul.calls a1 1 t114 _ A29.out).mono ?_); rintro e w' ⟨rfl, ⟨nd, rfl⟩⟩))
                go_meet
                case rel => exact ⟨_, (((t107 == 0) == (t114 == 0))), (by first | rfl | (simp; done) | (simp [*]; done)), H', ⟨by have := HJ7.out; first | omega | exact Nat.le_refl _⟩, by repeat (first | exact Drawn0.refl _ | apply Drawn0.step)⟩
          · rw [if_neg c26] at H
            have c26b0 : (t110 == t112) = false := beq_eq_false_iff_ne.mpr c26
            have c26b1 : (t110 != t112) = true := bne_iff_ne.mpr c26
            have H' := Aside0.mk H
            clear H
            as_aux_lemma =>
              go_wp2_with (first | ((with_reducible refine gate_callee (f := 11) rfl ?_); refine goesL_ (some 66) rfl rfl Try.func11 (by kernel_rfl) rfl #[.int .i64 a0, .int .i64 a1] rfl (by (try simp only [List.map_toArray, List.map_cons, List.map_nil]); first | done | rfl | (simp only [List.length_drop, List.length_take]; rfl)) ?_; (with_reducible refine (group_Mul.calls a0 a1 t107 _ A19.out).mono ?_); rintro e w' ⟨rfl, ⟨nd, rfl⟩⟩; refine ⟨_, rfl, ?_⟩) | ((with_reducible refine gate_callee (f := 11) rfl ?_); refine goesL_ (some 69) rfl rfl Try.func11 (by kernel_rfl) rfl #[.int .i64 a1, .int .i64 a0] rfl (by (try simp only [List.map_toArray, List.map_cons, List.map_nil]); first | done | rfl | (simp only [List.length_drop, List.length_take]; rfl)) ?_; (with_reducible refine (group_Mul.calls a1 a0 t108 _ A20.out).mono ?_); rintro e w' ⟨rfl, ⟨nd, rfl⟩⟩; refine ⟨_, rfl, ?_⟩) | (go_at_call 11; (with_reducible refine (group_Mul.calls a0 a1 t107 _ A22.out).mono ?_); rintro e w' ⟨rfl, ⟨nd, rfl⟩⟩) | (go_at_call 11; (with_reducible refine (group_Mul.calls t107 a2 t110 _ A23.out).mono ?_); rintro e w' ⟨rfl, ⟨nd, rfl⟩⟩) | (go_at_call 11; (with_reducible refine (group_Mul.calls a1 a2 t111 _ A24.out).mono ?_); rintro e w' ⟨rfl, ⟨nd, rfl⟩⟩) | (go_at_call 11; (with_reducible refine (group_Mul.calls a0 t111 t112 _ A25.out).mono ?_); rintro e w' ⟨rfl, ⟨nd, rfl⟩⟩))
              go_meet
              case rel => exact ⟨_, (false), (by first | rfl | (simp; done) | (simp [*]; done)), H', ⟨by have := HJ7.out; first | omega | exact Nat.le_refl _⟩, by repeat (first | exact Drawn0.refl _ | apply Drawn0.step)⟩
        · rw [if_neg c21] at H
          have c21b0 : (t107 == t108) = false := beq_eq_false_iff_ne.mpr c21
          have c21b1 : (t107 != t108) = true := bne_iff_ne.mpr c21
          (first | rw [c21b0] | (simp only [i64_w, i32_w]; rw [c21b0]) | skip)
          have H' := Aside0.mk H
          clear H
          as_aux_lemma =>
            go_wp2_with (first | ((with_reducible refine gate_callee (f := 11) rfl ?_); refine goesL_ (some 66) rfl rfl Try.func11 (by kernel_rfl) rfl #[.int .i64 a0, .int .i64 a1] rfl (by (try simp only [List.map_toArray, List.map_cons, List.map_nil]); first | done | rfl | (simp only [List.length_drop, List.length_take]; rfl)) ?_; (with_reducible refine (group_Mul.calls a0 a1 t107 _ A19.out).mono ?_); rintro e w' ⟨rfl, ⟨nd, rfl⟩⟩; refine ⟨_, rfl, ?_⟩) | ((with_reducible refine gate_callee (f := 11) rfl ?_); refine goesL_ (some 69) rfl rfl Try.func11 (by kernel_rfl) rfl #[.int .i64 a1, .int .i64 a0] rfl (by (try simp only [List.map_toArray, List.map_cons, List.map_nil]); first | done | rfl | (simp only [List.length_drop, List.length_take]; rfl)) ?_; (with_reducible refine (group_Mul.calls a1 a0 t108 _ A20.out).mono ?_); rintro e w' ⟨rfl, ⟨nd, rfl⟩⟩; refine ⟨_, rfl, ?_⟩))
            go_meet
            case rel => exact ⟨_, (false), (by first | rfl | (simp; done) | (simp [*]; done)), H', ⟨by have := HJ7.out; first | omega | exact Nat.le_refl _⟩, by repeat (first | exact Drawn0.refl _ | apply Drawn0.step)⟩
      case rest =>
        clear HC18
        try clear c1
        try clear c2
        try clear p2
        try clear c7
        try clear c8
        try clear c9
        try clear c9b0
        try clear c10
        try clear c10b0
        try clear c11
        try clear c11b0
        try clear c12
        try clear c12b0
        try clear c13
        try clear c13b0
        try clear c13b1
        try clear c13b2
        try clear c14
        try clear c15
        try clear c15b0
        try clear c16
        try clear c16b0
        try clear c17
        try clear c21
        try clear c21b0
        try clear c21b1
        try clear c26
        try clear c26b0
        try clear c26b1
        try clear c28
        try clear c28b0
        try clear c28b1
        try clear p2
        obtain ⟨kq, x13_17, rfl, HA, HJ17, ⟨mc17, rfl⟩⟩ := hcut
        cases kq with
        | zero => exact absurd HA.out (by simp [bournelaw04_GroupField.j1])
        | succ kj17 =>
          have H := HA.out
          clear HA
          simp only [bournelaw04_GroupField.j1] at H
          have HC30 := Aside0.mk H
          clear H
          go_upto_region 7 with (fail)
          go_cut [14] (fun v14 wc => ∃ (kq : Nat) (x14_29 : Bool), v14 = .bool x14_29 ∧ Aside0 (bournelaw04_GroupField.j2 kq a0 a1 a2 t101 t103 x12_7 x13_17 x14_29 = some r) ∧ Aside0 (kq ≤ kj17) ∧ Drawn0 w wc)
          case first =>
            have H := HC30.out
            clear HC30
            replace H := Option.bind_eq_some_iff.mp H
            obtain ⟨t115, A310, H⟩ := H
            replace H : ((group_AddQ.f a1 a0).bind fun t116 => (if t115 = t116 then ((group_AddQ.f a0 a1).bind fun t117 => ((group_AddQ.f t117 a2).bind fun t118 => ((group_AddQ.f a1 a2).bind fun t119 => ((group_AddQ.f a0 t119).bind fun t120 => (if t118 = t120 then ((group_AddQ.f a0 a1).bind fun t121 => ((group_SubQ.f t121 a1).bind fun t122 => (bournelaw04_GroupField.j2 kj17 a0 a1 a2 t101 t103 x12_7 x13_17 (t122 == t103)))) else (bournelaw04_GroupField.j2 kj17 a0 a1 a2 t101 t103 x12_7 x13_17 false)))))) else (bournelaw04_GroupField.j2 kj17 a0 a1 a2 t101 t103 x12_7 x13_17 false))) = some r := H
            have A31 := Aside0.mk A310
            clear A310
            replace H := Option.bind_eq_some_iff.mp H
            obtain ⟨t116, A320, H⟩ := H
            replace H : (if t115 = t116 then ((group_AddQ.f a0 a1).bind fun t117 => ((group_AddQ.f t117 a2).bind fun t118 => ((group_AddQ.f a1 a2).bind fun t119 => ((group_AddQ.f a0 t119).bind fun t120 => (if t118 = t120 then ((group_AddQ.f a0 a1).bind fun t121 => ((group_SubQ.f t121 a1).bind fun t122 => (bournelaw04_GroupField.j2 kj17 a0 a1 a2 t101 t103 x12_7 x13_17 (t122 == t103)))) else (bournelaw04_GroupField.j2 kj17 a0 a1 a2 t101 t103 x12_7 x13_17 false)))))) else (bournelaw04_GroupField.j2 kj17 a0 a1 a2 t101 t103 x12_7 x13_17 false)) = some r := H
            have A32 := Aside0.mk A320
            clear A320
            by_cases c33 : t115 = t116
            · rw [if_pos c33] at H
              have c33b0 : (t115 == t116) = true := beq_iff_eq.mpr c33
              have c33b1 : (t115 != t116) = false := bne_eq_false_iff_eq.mpr c33
              clear c33
              (first | rw [c33b0] | (simp only [i64_w, i32_w]; rw [c33b0]) | skip)
              replace H := Option.bind_eq_some_iff.mp H
              obtain ⟨t117, A340, H⟩ := H
              replace H : ((group_AddQ.f t117 a2).bind fun t118 => ((group_AddQ.f a1 a2).bind fun t119 => ((group_AddQ.f a0 t119).bind fun t120 => (if t118 = t120 then ((group_AddQ.f a0 a1).bind fun t121 => ((group_SubQ.f t121 a1).bind fun t122 => (bournelaw04_GroupField.j2 kj17 a0 a1 a2 t101 t103 x12_7 x13_17 (t122 == t103)))) else (bournelaw04_GroupField.j2 kj17 a0 a1 a2 t101 t103 x12_7 x13_17 false))))) = some r := H
              have A34 := Aside0.mk A340
              obtain rfl : t115 = t117 := Option.some.inj (A31.out.symm.trans A340)
              clear A340
              replace H := Option.bind_eq_some_iff.mp H
              obtain ⟨t118, A350, H⟩ := H
              replace H : ((group_AddQ.f a1 a2).bind fun t119 => ((group_AddQ.f a0 t119).bind fun t120 => (if t118 = t120 then ((group_AddQ.f a0 a1).bind fun t121 => ((group_SubQ.f t121 a1).bind fun t122 => (bournelaw04_GroupField.j2 kj17 a0 a1 a2 t101 t103 x12_7 x13_17 (t122 == t103)))) else (bournelaw04_GroupField.j2 kj17 a0 a1 a2 t101 t103 x12_7 x13_17 false)))) = some r := H
              have A35 := Aside0.mk A350
              clear A350
              replace H := Option.bind_eq_some_iff.mp H
              obtain ⟨t119, A360, H⟩ := H
              replace H : ((group_AddQ.f a0 t119).bind fun t120 => (if t118 = t120 then ((group_AddQ.f a0 a1).bind fun t121 => ((group_SubQ.f t121 a1).bind fun t122 => (bournelaw04_GroupField.j2 kj17 a0 a1 a2 t101 t103 x12_7 x13_17 (t122 == t103)))) else (bournelaw04_GroupField.j2 kj17 a0 a1 a2 t101 t103 x12_7 x13_17 false))) = some r := H
              have A36 := Aside0.mk A360
              clear A360
              replace H := Option.bind_eq_some_iff.mp H
              obtain ⟨t120, A370, H⟩ := H
              replace H : (if t118 = t120 then ((group_AddQ.f a0 a1).bind fun t121 => ((group_SubQ.f t121 a1).bind fun t122 => (bournelaw04_GroupField.j2 kj17 a0 a1 a2 t101 t103 x12_7 x13_17 (t122 == t103)))) else (bournelaw04_GroupField.j2 kj17 a0 a1 a2 t101 t103 x12_7 x13_17 false)) = some r := H
              have A37 := Aside0.mk A370
              clear A370
              by_cases c38 : t118 = t120
              · rw [if_pos c38] at H
                have c38b0 : (t118 == t120) = true := beq_iff_eq.mpr c38
                have c38b1 : (t118 != t120) = false := bne_eq_false_iff_eq.mpr c38
                clear c38
                replace H := Option.bind_eq_some_iff.mp H
                obtain ⟨t121, A390, H⟩ := H
                replace H : ((group_SubQ.f t121 a1).bind fun t122 => (bournelaw04_GroupField.j2 kj17 a0 a1 a2 t101 t103 x12_7 x13_17 (t122 == t103))) = some r := H
                have A39 := Aside0.mk A390
                obtain rfl : t115 = t121 := Option.some.inj (A31.out.symm.trans A390)
                clear A390
                replace H := Option.bind_eq_some_iff.mp H
                obtain ⟨t122, A400, H⟩ := H
                replace H : (bournelaw04_GroupField.j2 kj17 a0 a1 a2 t101 t103 x12_7 x13_17 (t122 == t103)) = some r := H
                have A40 := Aside0.mk A400
                clear A400
                have H' := Aside0.mk H
                clear H
                as_aux_lemma =>
                  go_wp2_with (first | ((with_reducible refine gate_callee (f := 17) rfl ?_); refine goesL_ (some 100) rfl rfl Try.func17 (by kernel_rfl) rfl #[.int .i64 a0, .int .i64 a1] rfl (by (try simp only [List.map_toArray, List.map_cons, List.map_nil]); first | done | rfl | (simp only [List.length_drop, List.length_take]; rfl)) ?_; (with_reducible refine (group_AddQ.calls a0 a1 t115 _ A31.out).mono ?_); rintro e w' ⟨rfl, ⟨nd, rfl⟩⟩; refine ⟨_, rfl, ?_⟩) | ((with_reducible refine gate_callee (f := 17) rfl ?_); refine goesL_ (some 103) rfl rfl Try.func17 (by kernel_rfl) rfl #[.int .i64 a1, .int .i64 a0] rfl (by (try simp only [List.map_toArray, List.map_cons, List.map_nil]); first | done | rfl | (simp only [List.length_drop, List.length_take]; rfl)) ?_; (with_reducible refine (group_AddQ.calls a1 a0 t116 _ A32.out).mono ?_); rintro e w' ⟨rfl, ⟨nd, rfl⟩⟩; refine ⟨_, rfl, ?_⟩) | (go_at_call 17; (with_reducible refine (group_AddQ.calls a0 a1 t115 _ A34.out).mono ?_); rintro e w' ⟨rfl, ⟨nd, rfl⟩⟩) | (go_at_call 17; (with_reducible refine (group_AddQ.calls t115 a2 t118 _ A35.out).mono ?_); rintro e w' ⟨rfl, ⟨nd, rfl⟩⟩) | (go_at_call 17; (with_reducible refine (group_AddQ.calls a1 a2 t119 _ A36.out).mono ?_); rintro e w' ⟨rfl, ⟨nd, rfl⟩⟩) | (go_at_call 17; (with_reducible refine (group_AddQ.calls a0 t119 t120 _ A37.out).mono ?_); rintro e w' ⟨rfl, ⟨nd, rfl⟩⟩) | (go_at_call 17; (with_reducible refine (group_AddQ.calls a0 a1 t115 _ A39.out).mono ?_); rintro e w' ⟨rfl, ⟨nd, rfl⟩⟩) | (go_at_call 19; (with_reducible refine (group_SubQ.calls t115 a1 t122 _ A40.out).mono ?_); rintro e w' ⟨rfl, ⟨nd, rfl⟩⟩))
                  go_meet
                  case rel => exact ⟨_, ((t122 == t103)), (by first | rfl | (simp; done) | (simp [*]; done)), H', ⟨by have := HJ7.out; have := HJ17.out; first | omega | exact Nat.le_refl _⟩, by repeat (first | exact Drawn0.refl _ | apply Drawn0.step)⟩
              · rw [if_neg c38] at H
                have c38b0 : (t118 == t120) = false := beq_eq_false_iff_ne.mpr c38
                have c38b1 : (t118 != t120) = true := bne_iff_ne.mpr c38
                have H' := Aside0.mk H
                clear H
                as_aux_lemma =>
                  go_wp2_with (first | ((with_reducible refine gate_callee (f := 17) rfl ?_); refine goesL_ (some 100) rfl rfl Try.func17 (by kernel_rfl) rfl #[.int .i64 a0, .int .i64 a1] rfl (by (try simp only [List.map_toArray, List.map_cons, List.map_nil]); first | done | rfl | (simp only [List.length_drop, List.length_take]; rfl)) ?_; (with_reducible refine (group_AddQ.calls a0 a1 t115 _ A31.out).mono ?_); rintro e w' ⟨rfl, ⟨nd, rfl⟩⟩; refine ⟨_, rfl, ?_⟩) | ((with_reducible refine gate_callee (f := 17) rfl ?_); refine goesL_ (some 103) rfl rfl Try.func17 (by kernel_rfl) rfl #[.int .i64 a1, .int .i64 a0] rfl (by (try simp only [List.map_toArray, List.map_cons, List.map_nil]); first | done | rfl | (simp only [List.length_drop, List.length_take]; rfl)) ?_; (with_reducible refine (group_AddQ.calls a1 a0 t116 _ A32.out).mono ?_); rintro e w' ⟨rfl, ⟨nd, rfl⟩⟩; refine ⟨_, rfl, ?_⟩) | (go_at_call 17; (with_reducible refine (group_AddQ.calls a0 a1 t115 _ A34.out).mono ?_); rintro e w' ⟨rfl, ⟨nd, rfl⟩⟩) | (go_at_call 17; (with_reducible refine (group_AddQ.calls t115 a2 t118 _ A35.out).mono ?_); rintro e w' ⟨rfl, ⟨nd, rfl⟩⟩) | (go_at_call 17; (with_reducible refine (group_AddQ.calls a1 a2 t119 _ A36.out).mono ?_); rintro e w' ⟨rfl, ⟨nd, rfl⟩⟩) | (go_at_call 17; (with_reducible refine (group_AddQ.calls a0 t119 t120 _ A37.out).mono ?_); rintro e w' ⟨rfl, ⟨nd, rfl⟩⟩))
                  go_meet
                  case rel => exact ⟨_, (false), (by first | rfl | (simp; done) | (simp [*]; done)), H', ⟨by have := HJ7.out; have := HJ17.out; first | omega | exact Nat.le_refl _⟩, by repeat (first | exact Drawn0.refl _ | apply Drawn0.step)⟩
            · rw [if_neg c33] at H
              have c33b0 : (t115 == t116) = false := beq_eq_false_iff_ne.mpr c33
              have c33b1 : (t115 != t116) = true := bne_iff_ne.mpr c33
              (first | rw [c33b0] | (simp only [i64_w, i32_w]; rw [c33b0]) | skip)
              have H' := Aside0.mk H
              clear H
              as_aux_lemma =>
                go_wp2_with (first | ((with_reducible refine gate_callee (f := 17) rfl ?_); refine goesL_ (some 100) rfl rfl Try.func17 (by kernel_rfl) rfl #[.int .i64 a0, .int .i64 a1] rfl (by (try simp only [List.map_toArray, List.map_cons, List.map_nil]); first | done | rfl | (simp only [List.length_drop, List.length_take]; rfl)) ?_; (with_reducible refine (group_AddQ.calls a0 a1 t115 _ A31.out).mono ?_); rintro e w' ⟨rfl, ⟨nd, rfl⟩⟩; refine ⟨_, rfl, ?_⟩) | ((with_reducible refine gate_callee (f := 17) rfl ?_); refine goesL_ (some 103) rfl rfl Try.func17 (by kernel_rfl) rfl #[.int .i64 a1, .int .i64 a0] rfl (by (try simp only [List.map_toArray, List.map_cons, List.map_nil]); first | done | rfl | (simp only [List.length_drop, List.length_take]; rfl)) ?_; (with_reducible refine (group_AddQ.calls a1 a0 t116 _ A32.out).mono ?_); rintro e w' ⟨rfl, ⟨nd, rfl⟩⟩; refine ⟨_, rfl, ?_⟩))
                go_meet
                case rel => exact ⟨_, (false), (by first | rfl | (simp; done) | (simp [*]; done)), H', ⟨by have := HJ7.out; have := HJ17.out; first | omega | exact Nat.le_refl _⟩, by repeat (first | exact Drawn0.refl _ | apply Drawn0.step)⟩
          case rest =>
            clear HC30
            try clear c1
            try clear c2
            try clear p2
            try clear c3
            try clear c7
            try clear c8
            try clear c9
            try clear c9b0
            try clear c10
            try clear c10b0
            try clear c11
            try clear c11b0
            try clear c12
            try clear c12b0
            try clear c13
            try clear c13b0
            try clear c13b1
            try clear c13b2
            try clear c14
            try clear c15
            try clear c15b0
            try clear c16
            try clear c16b0
            try clear c17
            try clear c21
            try clear c21b0
            try clear c21b1
            try clear c26
            try clear c26b0
            try clear c26b1
            try clear c28
            try clear c28b0
            try clear c28b1
            try clear c33
            try clear c33b0
            try clear c33b1
            try clear c38
            try clear c38b0
            try clear c38b1
            try clear p2
            obtain ⟨kq, x14_29, rfl, HA, HJ29, ⟨mc29, rfl⟩⟩ := hcut
            cases kq with
            | zero => exact absurd HA.out (by simp [bournelaw04_GroupField.j2])
            | succ kj29 =>
              have H := HA.out
              clear HA
              simp only [bournelaw04_GroupField.j2] at H
              replace H := Option.bind_eq_some_iff.mp H
              obtain ⟨t123, A410, H⟩ := H
              replace H : ((group_MulQ.f a1 a0).bind fun t124 => (if t123 = t124 then ((group_MulQ.f a0 a1).bind fun t125 => ((group_MulQ.f t125 a2).bind fun t126 => ((group_MulQ.f a1 a2).bind fun t127 => ((group_MulQ.f a0 t127).bind fun t128 => (if t126 = t128 then ((group_AddQ.f a1 a2).bind fun t129 => ((group_MulQ.f a0 t129).bind fun t130 => ((group_MulQ.f a0 a1).bind fun t131 => ((group_MulQ.f a0 a2).bind fun t132 => ((group_AddQ.f t131 t132).bind fun t133 => (if t130 = t133 then ((group_MulQ.f a0 1).bind fun t134 => (if t101 = true then (if x12_7 = true then (if x13_17 = true then (if x14_29 = true then (some (t134 == t103)) else (some false)) else (some false)) else (some false)) else (some false))) else (if t101 = true then (if x12_7 = true then (if x13_17 = true then (if x14_29 = true then (some false) else (some false)) else (some false)) else (some false)) else (some false)))))))) else (if t101 = true then (if x12_7 = true then (if x13_17 = true then (if x14_29 = true then (some false) else (some false)) else (some false)) else (some false)) else (some false))))))) else (if t101 = true then (if x12_7 = true then (if x13_17 = true then (if x14_29 = true then (some false) else (some false)) else (some false)) else (some false)) else (some false)))) = some r := H
              have A41 := Aside0.mk A410
              clear A410
              replace H := Option.bind_eq_some_iff.mp H
              obtain ⟨t124, A420, H⟩ := H
              replace H : (if t123 = t124 then ((group_MulQ.f a0 a1).bind fun t125 => ((group_MulQ.f t125 a2).bind fun t126 => ((group_MulQ.f a1 a2).bind fun t127 => ((group_MulQ.f a0 t127).bind fun t128 => (if t126 = t128 then ((group_AddQ.f a1 a2).bind fun t129 => ((group_MulQ.f a0 t129).bind fun t130 => ((group_MulQ.f a0 a1).bind fun t131 => ((group_MulQ.f a0 a2).bind fun t132 => ((group_AddQ.f t131 t132).bind fun t133 => (if t130 = t133 then ((group_MulQ.f a0 1).bind fun t134 => (if t101 = true then (if x12_7 = true then (if x13_17 = true then (if x14_29 = true then (some (t134 == t103)) else (some false)) else (some false)) else (some false)) else (some false))) else (if t101 = true then (if x12_7 = true then (if x13_17 = true then (if x14_29 = true then (some false) else (some false)) else (some false)) else (some false)) else (some false)))))))) else (if t101 = true then (if x12_7 = true then (if x13_17 = true then (if x14_29 = true then (some false) else (some false)) else (some false)) else (some false)) else (some false))))))) else (if t101 = true then (if x12_7 = true then (if x13_17 = true then (if x14_29 = true then (some false) else (some false)) else (some false)) else (some false)) else (some false))) = some r := H
              have A42 := Aside0.mk A420
              clear A420
              by_cases c43 : t123 = t124
              · rw [if_pos c43] at H
                have c43b0 : (t123 == t124) = true := beq_iff_eq.mpr c43
                have c43b1 : (t123 != t124) = false := bne_eq_false_iff_eq.mpr c43
                clear c43
                replace H := Option.bind_eq_some_iff.mp H
                obtain ⟨t125, A440, H⟩ := H
                replace H : ((group_MulQ.f t125 a2).bind fun t126 => ((group_MulQ.f a1 a2).bind fun t127 => ((group_MulQ.f a0 t127).bind fun t128 => (if t126 = t128 then ((group_AddQ.f a1 a2).bind fun t129 => ((group_MulQ.f a0 t129).bind fun t130 => ((group_MulQ.f a0 a1).bind fun t131 => ((group_MulQ.f a0 a2).bind fun t132 => ((group_AddQ.f t131 t132).bind fun t133 => (if t130 = t133 then ((group_MulQ.f a0 1).bind fun t134 => (if t101 = true then (if x12_7 = true then (if x13_17 = true then (if x14_29 = true then (some (t134 == t103)) else (some false)) else (some false)) else (some false)) else (some false))) else (if t101 = true then (if x12_7 = true then (if x13_17 = true then (if x14_29 = true then (some false) else (some false)) else (some false)) else (some false)) else (some false)))))))) else (if t101 = true then (if x12_7 = true then (if x13_17 = true then (if x14_29 = true then (some false) else (some false)) else (some false)) else (some false)) else (some false)))))) = some r := H
                have A44 := Aside0.mk A440
                obtain rfl : t123 = t125 := Option.some.inj (A41.out.symm.trans A440)
                clear A440
                replace H := Option.bind_eq_some_iff.mp H
                obtain ⟨t126, A450, H⟩ := H
                replace H : ((group_MulQ.f a1 a2).bind fun t127 => ((group_MulQ.f a0 t127).bind fun t128 => (if t126 = t128 then ((group_AddQ.f a1 a2).bind fun t129 => ((group_MulQ.f a0 t129).bind fun t130 => ((group_MulQ.f a0 a1).bind fun t131 => ((group_MulQ.f a0 a2).bind fun t132 => ((group_AddQ.f t131 t132).bind fun t133 => (if t130 = t133 then ((group_MulQ.f a0 1).bind fun t134 => (if t101 = true then (if x12_7 = true then (if x13_17 = true then (if x14_29 = true then (some (t134 == t103)) else (some false)) else (some false)) else (some false)) else (some false))) else (if t101 = true then (if x12_7 = true then (if x13_17 = true then (if x14_29 = true then (some false) else (some false)) else (some false)) else (some false)) else (some false)))))))) else (if t101 = true then (if x12_7 = true then (if x13_17 = true then (if x14_29 = true then (some false) else (some false)) else (some false)) else (some false)) else (some false))))) = some r := H
                have A45 := Aside0.mk A450
                clear A450
                replace H := Option.bind_eq_some_iff.mp H
                obtain ⟨t127, A460, H⟩ := H
                replace H : ((group_MulQ.f a0 t127).bind fun t128 => (if t126 = t128 then ((group_AddQ.f a1 a2).bind fun t129 => ((group_MulQ.f a0 t129).bind fun t130 => ((group_MulQ.f a0 a1).bind fun t131 => ((group_MulQ.f a0 a2).bind fun t132 => ((group_AddQ.f t131 t132).bind fun t133 => (if t130 = t133 then ((group_MulQ.f a0 1).bind fun t134 => (if t101 = true then (if x12_7 = true then (if x13_17 = true then (if x14_29 = true then (some (t134 == t103)) else (some false)) else (some false)) else (some false)) else (some false))) else (if t101 = true then (if x12_7 = true then (if x13_17 = true then (if x14_29 = true then (some false) else (some false)) else (some false)) else (some false)) else (some false)))))))) else (if t101 = true then (if x12_7 = true then (if x13_17 = true then (if x14_29 = true then (some false) else (some false)) else (some false)) else (some false)) else (some false)))) = some r := H
                have A46 := Aside0.mk A460
                clear A460
                replace H := Option.bind_eq_some_iff.mp H
                obtain ⟨t128, A470, H⟩ := H
                replace H : (if t126 = t128 then ((group_AddQ.f a1 a2).bind fun t129 => ((group_MulQ.f a0 t129).bind fun t130 => ((group_MulQ.f a0 a1).bind fun t131 => ((group_MulQ.f a0 a2).bind fun t132 => ((group_AddQ.f t131 t132).bind fun t133 => (if t130 = t133 then ((group_MulQ.f a0 1).bind fun t134 => (if t101 = true then (if x12_7 = true then (if x13_17 = true then (if x14_29 = true then (some (t134 == t103)) else (some false)) else (some false)) else (some false)) else (some false))) else (if t101 = true then (if x12_7 = true then (if x13_17 = true then (if x14_29 = true then (some false) else (some false)) else (some false)) else (some false)) else (some false)))))))) else (if t101 = true then (if x12_7 = true then (if x13_17 = true then (if x14_29 = true then (some false) else (some false)) else (some false)) else (some false)) else (some false))) = some r := H
                have A47 := Aside0.mk A470
                clear A470
                by_cases c48 : t126 = t128
                · rw [if_pos c48] at H
                  have c48b0 : (t126 == t128) = true := beq_iff_eq.mpr c48
                  have c48b1 : (t126 != t128) = false := bne_eq_false_iff_eq.mpr c48
                  clear c48
                  replace H := Option.bind_eq_some_iff.mp H
                  obtain ⟨t129, A490, H⟩ := H
                  replace H : ((group_MulQ.f a0 t129).bind fun t130 => ((group_MulQ.f a0 a1).bind fun t131 => ((group_MulQ.f a0 a2).bind fun t132 => ((group_AddQ.f t131 t132).bind fun t133 => (if t130 = t133 then ((group_MulQ.f a0 1).bind fun t134 => (if t101 = true then (if x12_7 = true then (if x13_17 = true then (if x14_29 = true then (some (t134 == t103)) else (some false)) else (some false)) else (some false)) else (some false))) else (if t101 = true then (if x12_7 = true then (if x13_17 = true then (if x14_29 = true then (some false) else (some false)) else (some false)) else (some false)) else (some false))))))) = some r := H
                  have A49 := Aside0.mk A490
                  clear A490
                  replace H := Option.bind_eq_some_iff.mp H
                  obtain ⟨t130, A500, H⟩ := H
                  replace H : ((group_MulQ.f a0 a1).bind fun t131 => ((group_MulQ.f a0 a2).bind fun t132 => ((group_AddQ.f t131 t132).bind fun t133 => (if t130 = t133 then ((group_MulQ.f a0 1).bind fun t134 => (if t101 = true then (if x12_7 = true then (if x13_17 = true then (if x14_29 = true then (some (t134 == t103)) else (some false)) else (some false)) else (some false)) else (some false))) else (if t101 = true then (if x12_7 = true then (if x13_17 = true then (if x14_29 = true then (some false) else (some false)) else (some false)) else (some false)) else (some false)))))) = some r := H
                  have A50 := Aside0.mk A500
                  clear A500
                  replace H := Option.bind_eq_some_iff.mp H
                  obtain ⟨t131, A510, H⟩ := H
                  replace H : ((group_MulQ.f a0 a2).bind fun t132 => ((group_AddQ.f t131 t132).bind fun t133 => (if t130 = t133 then ((group_MulQ.f a0 1).bind fun t134 => (if t101 = true then (if x12_7 = true then (if x13_17 = true then (if x14_29 = true then (some (t134 == t103)) else (some false)) else (some false)) else (some false)) else (some false))) else (if t101 = true then (if x12_7 = true then (if x13_17 = true then (if x14_29 = true then (some false) else (some false)) else (some false)) else (some false)) else (some false))))) = some r := H
                  have A51 := Aside0.mk A510
                  obtain rfl : t123 = t131 := Option.some.inj (A41.out.symm.trans A510)
                  clear A510
                  replace H := Option.bind_eq_some_iff.mp H
                  obtain ⟨t132, A520, H⟩ := H
                  replace H : ((group_AddQ.f t123 t132).bind fun t133 => (if t130 = t133 then ((group_MulQ.f a0 1).bind fun t134 => (if t101 = true then (if x12_7 = true then (if x13_17 = true then (if x14_29 = true then (some (t134 == t103)) else (some false)) else (some false)) else (some false)) else (some false))) else (if t101 = true then (if x12_7 = true then (if x13_17 = true then (if x14_29 = true then (some false) else (some false)) else (some false)) else (some false)) else (some false)))) = some r := H
                  have A52 := Aside0.mk A520
                  clear A520
                  replace H := Option.bind_eq_some_iff.mp H
                  obtain ⟨t133, A530, H⟩ := H
                  replace H : (if t130 = t133 then ((group_MulQ.f a0 1).bind fun t134 => (if t101 = true then (if x12_7 = true then (if x13_17 = true then (if x14_29 = true then (some (t134 == t103)) else (some false)) else (some false)) else (some false)) else (some false))) else (if t101 = true then (if x12_7 = true then (if x13_17 = true then (if x14_29 = true then (some false) else (some false)) else (some false)) else (some false)) else (some false))) = some r := H
                  have A53 := Aside0.mk A530
                  clear A530
                  by_cases c54 : t130 = t133
                  · rw [if_pos c54] at H
                    have c54b0 : (t130 == t133) = true := beq_iff_eq.mpr c54
                    have c54b1 : (t130 != t133) = false := bne_eq_false_iff_eq.mpr c54
                    clear c54
                    replace H := Option.bind_eq_some_iff.mp H
                    obtain ⟨t134, A550, H⟩ := H
                    replace H : (if t101 = true then (if x12_7 = true then (if x13_17 = true then (if x14_29 = true then (some (t134 == t103)) else (some false)) else (some false)) else (some false)) else (some false)) = some r := H
                    have A55 := Aside0.mk A550
                    clear A550
                    by_cases c56 : t101 = true
                    · subst c56
                      have H1 : (if x12_7 = true then (if x13_17 = true then (if x14_29 = true then (some (t134 == t103)) else (some false)) else (some false)) else (some false)) = some r := by rw [if_pos rfl] at H; exact H
                      clear H
                      have H := H1
                      clear H1
                      by_cases c57 : x12_7 = true
                      · subst c57
                        have H1 : (if x13_17 = true then (if x14_29 = true then (some (t134 == t103)) else (some false)) else (some false)) = some r := by rw [if_pos rfl] at H; exact H
                        clear H
                        have H := H1
                        clear H1
                        by_cases c58 : x13_17 = true
                        · subst c58
                          have H1 : (if x14_29 = true then (some (t134 == t103)) else (some false)) = some r := by rw [if_pos rfl] at H; exact H
                          clear H
                          have H := H1
                          clear H1
                          by_cases c59 : x14_29 = true
                          · subst c59
                            have H1 : (some (t134 == t103)) = some r := by rw [if_pos rfl] at H; exact H
                            clear H
                            have H := H1
                            clear H1
                            obtain rfl := Option.some.inj H
                            as_aux_lemma =>
                              go_wp2_with (first | ((with_reducible refine gate_callee (f := 21) rfl ?_); refine goesL_ (some 129) rfl rfl Try.func21 (by kernel_rfl) rfl #[.int .i64 a0, .int .i64 a1] rfl (by (try simp only [List.map_toArray, List.map_cons, List.map_nil]); first | done | rfl | (simp only [List.length_drop, List.length_take]; rfl)) ?_; (with_reducible refine (group_MulQ.calls a0 a1 t123 _ A41.out).mono ?_); rintro e w' ⟨rfl, ⟨nd, rfl⟩⟩; refine ⟨_, rfl, ?_⟩) | ((with_reducible refine gate_callee (f := 21) rfl ?_); refine goesL_ (some 132) rfl rfl Try.func21 (by kernel_rfl) rfl #[.int .i64 a1, .int .i64 a0] rfl (by (try simp only [List.map_toArray, List.map_cons, List.map_nil]); first | done | rfl | (simp only [List.length_drop, List.length_take]; rfl)) ?_; (with_reducible refine (group_MulQ.calls a1 a0 t124 _ A42.out).mono ?_); rintro e w' ⟨rfl, ⟨nd, rfl⟩⟩; refine ⟨_, rfl, ?_⟩) | (go_at_call 21; (with_reducible refine (group_MulQ.calls a0 a1 t123 _ A44.out).mono ?_); rintro e w' ⟨rfl, ⟨nd, rfl⟩⟩) | (go_at_call 21; (with_reducible refine (group_MulQ.calls t123 a2 t126 _ A45.out).mono ?_); rintro e w' ⟨rfl, ⟨nd, rfl⟩⟩) | (go_at_call 21; (with_reducible refine (group_MulQ.calls a1 a2 t127 _ A46.out).mono ?_); rintro e w' ⟨rfl, ⟨nd, rfl⟩⟩) | (go_at_call 21; (with_reducible refine (group_MulQ.calls a0 t127 t128 _ A47.out).mono ?_); rintro e w' ⟨rfl, ⟨nd, rfl⟩⟩) | (go_at_call 17; (with_reducible refine (group_AddQ.calls a1 a2 t129 _ A49.out).mono ?_); rintro e w' ⟨rfl, ⟨nd, rfl⟩⟩) | (go_at_call 21; (with_reducible refine (group_MulQ.calls a0 t129 t130 _ A50.out).mono ?_); rintro e w' ⟨rfl, ⟨nd, rfl⟩⟩) | (go_at_call 21; (with_reducible refine (group_MulQ.calls a0 a1 t123 _ A51.out).mono ?_); rintro e w' ⟨rfl, ⟨nd, rfl⟩⟩) | (go_at_call 21; (with_reducible refine (group_MulQ.calls a0 a2 t132 _ A52.out).mono ?_); rintro e w' ⟨rfl, ⟨nd, rfl⟩⟩) | (go_at_call 17; (with_reducible refine (group_AddQ.calls t123 t132 t133 _ A53.out).mono ?_); rintro e w' ⟨rfl, ⟨nd, rfl⟩⟩) | (go_at_call 21; (with_reducible refine (group_MulQ.calls a0 1 t134 _ A55.out).mono ?_); rintro e w' ⟨rfl, ⟨nd, rfl⟩⟩))
                              go_ret
                              exact ⟨by first | rfl | (simp; done) | (simp [*]; done), by repeat (first | exact Drawn0.refl _ | apply Drawn0.step)⟩
                          · replace c59 := Bool.eq_false_iff.mpr c59
                            subst c59
                            have H1 : (some false) = some r := by rw [if_neg (show ¬ (false = true) by decide)] at H; exact H
                            clear H
                            have H := H1
                            clear H1
                            obtain rfl := Option.some.inj H
                            as_aux_lemma =>
                              go_wp2_with (first | ((with_reducible refine gate_callee (f := 21) rfl ?_); refine goesL_ (some 129) rfl rfl Try.func21 (by kernel_rfl) rfl #[.int .i64 a0, .int .i64 a1] rfl (by (try simp only [List.map_toArray, List.map_cons, List.map_nil]); first | done | rfl | (simp only [List.length_drop, List.length_take]; rfl)) ?_; (with_reducible refine (group_MulQ.calls a0 a1 t123 _ A41.out).mono ?_); rintro e w' ⟨rfl, ⟨nd, rfl⟩⟩; refine ⟨_, rfl, ?_⟩) | ((with_reducible refine gate_callee (f := 21) rfl ?_); refine goesL_ (some 132) rfl rfl Try.func21 (by kernel_rfl) rfl #[.int .i64 a1, .int .i64 a0] rfl (by (try simp only [List.map_toArray, List.map_cons, List.map_nil]); first | done | rfl | (simp only [List.length_drop, List.length_take]; rfl)) ?_; (with_reducible refine (group_MulQ.calls a1 a0 t124 _ A42.out).mono ?_); rintro e w' ⟨rfl, ⟨nd, rfl⟩⟩; refine ⟨_, rfl, ?_⟩) | (go_at_call 21; (with_reducible refine (group_MulQ.calls a0 a1 t123 _ A44.out).mono ?_); rintro e w' ⟨rfl, ⟨nd, rfl⟩⟩) | (go_at_call 21; (with_reducible refine (group_MulQ.calls t123 a2 t126 _ A45.out).mono ?_); rintro e w' ⟨rfl, ⟨nd, rfl⟩⟩) | (go_at_call 21; (with_reducible refine (group_MulQ.calls a1 a2 t127 _ A46.out).mono ?_); rintro e w' ⟨rfl, ⟨nd, rfl⟩⟩) | (go_at_call 21; (with_reducible refine (group_MulQ.calls a0 t127 t128 _ A47.out).mono ?_); rintro e w' ⟨rfl, ⟨nd, rfl⟩⟩) | (go_at_call 17; (with_reducible refine (group_AddQ.calls a1 a2 t129 _ A49.out).mono ?_); rintro e w' ⟨rfl, ⟨nd, rfl⟩⟩) | (go_at_call 21; (with_reducible refine (group_MulQ.calls a0 t129 t130 _ A50.out).mono ?_); rintro e w' ⟨rfl, ⟨nd, rfl⟩⟩) | (go_at_call 21; (with_reducible refine (group_MulQ.calls a0 a1 t123 _ A51.out).mono ?_); rintro e w' ⟨rfl, ⟨nd, rfl⟩⟩) | (go_at_call 21; (with_reducible refine (group_MulQ.calls a0 a2 t132 _ A52.out).mono ?_); rintro e w' ⟨rfl, ⟨nd, rfl⟩⟩) | (go_at_call 17; (with_reducible refine (group_AddQ.calls t123 t132 t133 _ A53.out).mono ?_); rintro e w' ⟨rfl, ⟨nd, rfl⟩⟩) | (go_at_call 21; (with_reducible refine (group_MulQ.calls a0 1 t134 _ A55.out).mono ?_); rintro e w' ⟨rfl, ⟨nd, rfl⟩⟩))
                              go_ret
                              exact ⟨by first | rfl | (simp; done) | (simp [*]; done), by repeat (first | exact Drawn0.refl _ | apply Drawn0.step)⟩
                        · replace c58 := Bool.eq_false_iff.mpr c58
                          subst c58
                          have H1 : (some false) = some r := by rw [if_neg (show ¬ (false = true) by decide)] at H; exact H
                          clear H
                          have H := H1
                          clear H1
                          obtain rfl := Option.some.inj H
                          as_aux_lemma =>
                            go_wp2_with (first | ((with_reducible refine gate_callee (f := 21) rfl ?_); refine goesL_ (some 129) rfl rfl Try.func21 (by kernel_rfl) rfl #[.int .i64 a0, .int .i64 a1] rfl (by (try simp only [List.map_toArray, List.map_cons, List.map_nil]); first | done | rfl | (simp only [List.length_drop, List.length_take]; rfl)) ?_; (with_reducible refine (group_MulQ.calls a0 a1 t123 _ A41.out).mono ?_); rintro e w' ⟨rfl, ⟨nd, rfl⟩⟩; refine ⟨_, rfl, ?_⟩) | ((with_reducible refine gate_callee (f := 21) rfl ?_); refine goesL_ (some 132) rfl rfl Try.func21 (by kernel_rfl) rfl #[.int .i64 a1, .int .i64 a0] rfl (by (try simp only [List.map_toArray, List.map_cons, List.map_nil]); first | done | rfl | (simp only [List.length_drop, List.length_take]; rfl)) ?_; (with_reducible refine (group_MulQ.calls a1 a0 t124 _ A42.out).mono ?_); rintro e w' ⟨rfl, ⟨nd, rfl⟩⟩; refine ⟨_, rfl, ?_⟩) | (go_at_call 21; (with_reducible refine (group_MulQ.calls a0 a1 t123 _ A44.out).mono ?_); rintro e w' ⟨rfl, ⟨nd, rfl⟩⟩) | (go_at_call 21; (with_reducible refine (group_MulQ.calls t123 a2 t126 _ A45.out).mono ?_); rintro e w' ⟨rfl, ⟨nd, rfl⟩⟩) | (go_at_call 21; (with_reducible refine (group_MulQ.calls a1 a2 t127 _ A46.out).mono ?_); rintro e w' ⟨rfl, ⟨nd, rfl⟩⟩) | (go_at_call 21; (with_reducible refine (group_MulQ.calls a0 t127 t128 _ A47.out).mono ?_); rintro e w' ⟨rfl, ⟨nd, rfl⟩⟩) | (go_at_call 17; (with_reducible refine (group_AddQ.calls a1 a2 t129 _ A49.out).mono ?_); rintro e w' ⟨rfl, ⟨nd, rfl⟩⟩) | (go_at_call 21; (with_reducible refine (group_MulQ.calls a0 t129 t130 _ A50.out).mono ?_); rintro e w' ⟨rfl, ⟨nd, rfl⟩⟩) | (go_at_call 21; (with_reducible refine (group_MulQ.calls a0 a1 t123 _ A51.out).mono ?_); rintro e w' ⟨rfl, ⟨nd, rfl⟩⟩) | (go_at_call 21; (with_reducible refine (group_MulQ.calls a0 a2 t132 _ A52.out).mono ?_); rintro e w' ⟨rfl, ⟨nd, rfl⟩⟩) | (go_at_call 17; (with_reducible refine (group_AddQ.calls t123 t132 t133 _ A53.out).mono ?_); rintro e w' ⟨rfl, ⟨nd, rfl⟩⟩) | (go_at_call 21; (with_reducible refine (group_MulQ.calls a0 1 t134 _ A55.out).mono ?_); rintro e w' ⟨rfl, ⟨nd, rfl⟩⟩))
                            go_ret
                            exact ⟨by first | rfl | (simp; done) | (simp [*]; done), by repeat (first | exact Drawn0.refl _ | apply Drawn0.step)⟩
                      · replace c57 := Bool.eq_false_iff.mpr c57
                        subst c57
                        have H1 : (some false) = some r := by rw [if_neg (show ¬ (false = true) by decide)] at H; exact H
                        clear H
                        have H := H1
                        clear H1
                        obtain rfl := Option.some.inj H
                        as_aux_lemma =>
                          go_wp2_with (first | ((with_reducible refine gate_callee (f := 21) rfl ?_); refine goesL_ (some 129) rfl rfl Try.func21 (by kernel_rfl) rfl #[.int .i64 a0, .int .i64 a1] rfl (by (try simp only [List.map_toArray, List.map_cons, List.map_nil]); first | done | rfl | (simp only [List.length_drop, List.length_take]; rfl)) ?_; (with_reducible refine (group_MulQ.calls a0 a1 t123 _ A41.out).mono ?_); rintro e w' ⟨rfl, ⟨nd, rfl⟩⟩; refine ⟨_, rfl, ?_⟩) | ((with_reducible refine gate_callee (f := 21) rfl ?_); refine goesL_ (some 132) rfl rfl Try.func21 (by kernel_rfl) rfl #[.int .i64 a1, .int .i64 a0] rfl (by (try simp only [List.map_toArray, List.map_cons, List.map_nil]); first | done | rfl | (simp only [List.length_drop, List.length_take]; rfl)) ?_; (with_reducible refine (group_MulQ.calls a1 a0 t124 _ A42.out).mono ?_); rintro e w' ⟨rfl, ⟨nd, rfl⟩⟩; refine ⟨_, rfl, ?_⟩) | (go_at_call 21; (with_reducible refine (group_MulQ.calls a0 a1 t123 _ A44.out).mono ?_); rintro e w' ⟨rfl, ⟨nd, rfl⟩⟩) | (go_at_call 21; (with_reducible refine (group_MulQ.calls t123 a2 t126 _ A45.out).mono ?_); rintro e w' ⟨rfl, ⟨nd, rfl⟩⟩) | (go_at_call 21; (with_reducible refine (group_MulQ.calls a1 a2 t127 _ A46.out).mono ?_); rintro e w' ⟨rfl, ⟨nd, rfl⟩⟩) | (go_at_call 21; (with_reducible refine (group_MulQ.calls a0 t127 t128 _ A47.out).mono ?_); rintro e w' ⟨rfl, ⟨nd, rfl⟩⟩) | (go_at_call 17; (with_reducible refine (group_AddQ.calls a1 a2 t129 _ A49.out).mono ?_); rintro e w' ⟨rfl, ⟨nd, rfl⟩⟩) | (go_at_call 21; (with_reducible refine (group_MulQ.calls a0 t129 t130 _ A50.out).mono ?_); rintro e w' ⟨rfl, ⟨nd, rfl⟩⟩) | (go_at_call 21; (with_reducible refine (group_MulQ.calls a0 a1 t123 _ A51.out).mono ?_); rintro e w' ⟨rfl, ⟨nd, rfl⟩⟩) | (go_at_call 21; (with_reducible refine (group_MulQ.calls a0 a2 t132 _ A52.out).mono ?_); rintro e w' ⟨rfl, ⟨nd, rfl⟩⟩) | (go_at_call 17; (with_reducible refine (group_AddQ.calls t123 t132 t133 _ A53.out).mono ?_); rintro e w' ⟨rfl, ⟨nd, rfl⟩⟩) | (go_at_call 21; (with_reducible refine (group_MulQ.calls a0 1 t134 _ A55.out).mono ?_); rintro e w' ⟨rfl, ⟨nd, rfl⟩⟩))
                          go_ret
                          exact ⟨by first | rfl | (simp; done) | (simp [*]; done), by repeat (first | exact Drawn0.refl _ | apply Drawn0.step)⟩
                    · replace c56 := Bool.eq_false_iff.mpr c56
                      subst c56
                      have H1 : (some false) = some r := by rw [if_neg (show ¬ (false = true) by decide)] at H; exact H
                      clear H
                      have H := H1
                      clear H1
                      obtain rfl := Option.some.inj H
                      as_aux_lemma =>
                        go_wp2_with (first | ((with_reducible refine gate_callee (f := 21) rfl ?_); refine goesL_ (some 129) rfl rfl Try.func21 (by kernel_rfl) rfl #[.int .i64 a0, .int .i64 a1] rfl (by (try simp only [List.map_toArray, List.map_cons, List.map_nil]); first | done | rfl | (simp only [List.length_drop, List.length_take]; rfl)) ?_; (with_reducible refine (group_MulQ.calls a0 a1 t123 _ A41.out).mono ?_); rintro e w' ⟨rfl, ⟨nd, rfl⟩⟩; refine ⟨_, rfl, ?_⟩) | ((with_reducible refine gate_callee (f := 21) rfl ?_); refine goesL_ (some 132) rfl rfl Try.func21 (by kernel_rfl) rfl #[.int .i64 a1, .int .i64 a0] rfl (by (try simp only [List.map_toArray, List.map_cons, List.map_nil]); first | done | rfl | (simp only [List.length_drop, List.length_take]; rfl)) ?_; (with_reducible refine (group_MulQ.calls a1 a0 t124 _ A42.out).mono ?_); rintro e w' ⟨rfl, ⟨nd, rfl⟩⟩; refine ⟨_, rfl, ?_⟩) | (go_at_call 21; (with_reducible refine (group_MulQ.calls a0 a1 t123 _ A44.out).mono ?_); rintro e w' ⟨rfl, ⟨nd, rfl⟩⟩) | (go_at_call 21; (with_reducible refine (group_MulQ.calls t123 a2 t126 _ A45.out).mono ?_); rintro e w' ⟨rfl, ⟨nd, rfl⟩⟩) | (go_at_call 21; (with_reducible refine (group_MulQ.calls a1 a2 t127 _ A46.out).mono ?_); rintro e w' ⟨rfl, ⟨nd, rfl⟩⟩) | (go_at_call 21; (with_reducible refine (group_MulQ.calls a0 t127 t128 _ A47.out).mono ?_); rintro e w' ⟨rfl, ⟨nd, rfl⟩⟩) | (go_at_call 17; (with_reducible refine (group_AddQ.calls a1 a2 t129 _ A49.out).mono ?_); rintro e w' ⟨rfl, ⟨nd, rfl⟩⟩) | (go_at_call 21; (with_reducible refine (group_MulQ.calls a0 t129 t130 _ A50.out).mono ?_); rintro e w' ⟨rfl, ⟨nd, rfl⟩⟩) | (go_at_call 21; (with_reducible refine (group_MulQ.calls a0 a1 t123 _ A51.out).mono ?_); rintro e w' ⟨rfl, ⟨nd, rfl⟩⟩) | (go_at_call 21; (with_reducible refine (group_MulQ.calls a0 a2 t132 _ A52.out).mono ?_); rintro e w' ⟨rfl, ⟨nd, rfl⟩⟩) | (go_at_call 17; (with_reducible refine (group_AddQ.calls t123 t132 t133 _ A53.out).mono ?_); rintro e w' ⟨rfl, ⟨nd, rfl⟩⟩) | (go_at_call 21; (with_reducible refine (group_MulQ.calls a0 1 t134 _ A55.out).mono ?_); rintro e w' ⟨rfl, ⟨nd, rfl⟩⟩))
                        go_ret
                        exact ⟨by first | rfl | (simp; done) | (simp [*]; done), by repeat (first | exact Drawn0.refl _ | apply Drawn0.step)⟩
                  · rw [if_neg c54] at H
                    have c54b0 : (t130 == t133) = false := beq_eq_false_iff_ne.mpr c54
                    have c54b1 : (t130 != t133) = true := bne_iff_ne.mpr c54
                    by_cases c60 : t101 = true
                    · subst c60
                      have H1 : (if x12_7 = true then (if x13_17 = true then (if x14_29 = true then (some false) else (some false)) else (some false)) else (some false)) = some r := by rw [if_pos rfl] at H; exact H
                      clear H
                      have H := H1
                      clear H1
                      by_cases c61 : x12_7 = true
                      · subst c61
                        have H1 : (if x13_17 = true then (if x14_29 = true then (some false) else (some false)) else (some false)) = some r := by rw [if_pos rfl] at H; exact H
                        clear H
                        have H := H1
                        clear H1
                        by_cases c62 : x13_17 = true
                        · subst c62
                          have H1 : (if x14_29 = true then (some false) else (some false)) = some r := by rw [if_pos rfl] at H; exact H
                          clear H
                          have H := H1
                          clear H1
                          by_cases c63 : x14_29 = true
                          · subst c63
                            have H1 : (some false) = some r := by rw [if_pos rfl] at H; exact H
                            clear H
                            have H := H1
                            clear H1
                            obtain rfl := Option.some.inj H
                            as_aux_lemma =>
                              go_wp2_with (first | ((with_reducible refine gate_callee (f := 21) rfl ?_); refine goesL_ (some 129) rfl rfl Try.func21 (by kernel_rfl) rfl #[.int .i64 a0, .int .i64 a1] rfl (by (try simp only [List.map_toArray, List.map_cons, List.map_nil]); first | done | rfl | (simp only [List.length_drop, List.length_take]; rfl)) ?_; (with_reducible refine (group_MulQ.calls a0 a1 t123 _ A41.out).mono ?_); rintro e w' ⟨rfl, ⟨nd, rfl⟩⟩; refine ⟨_, rfl, ?_⟩) | ((with_reducible refine gate_callee (f := 21) rfl ?_); refine goesL_ (some 132) rfl rfl Try.func21 (by kernel_rfl) rfl #[.int .i64 a1, .int .i64 a0] rfl (by (try simp only [List.map_toArray, List.map_cons, List.map_nil]); first | done | rfl | (simp only [List.length_drop, List.length_take]; rfl)) ?_; (with_reducible refine (group_MulQ.calls a1 a0 t124 _ A42.out).mono ?_); rintro e w' ⟨rfl, ⟨nd, rfl⟩⟩; refine ⟨_, rfl, ?_⟩) | (go_at_call 21; (with_reducible refine (group_MulQ.calls a0 a1 t123 _ A44.out).mono ?_); rintro e w' ⟨rfl, ⟨nd, rfl⟩⟩) | (go_at_call 21; (with_reducible refine (group_MulQ.calls t123 a2 t126 _ A45.out).mono ?_); rintro e w' ⟨rfl, ⟨nd, rfl⟩⟩) | (go_at_call 21; (with_reducible refine (group_MulQ.calls a1 a2 t127 _ A46.out).mono ?_); rintro e w' ⟨rfl, ⟨nd, rfl⟩⟩) | (go_at_call 21; (with_reducible refine (group_MulQ.calls a0 t127 t128 _ A47.out).mono ?_); rintro e w' ⟨rfl, ⟨nd, rfl⟩⟩) | (go_at_call 17; (with_reducible refine (group_AddQ.calls a1 a2 t129 _ A49.out).mono ?_); rintro e w' ⟨rfl, ⟨nd, rfl⟩⟩) | (go_at_call 21; (with_reducible refine (group_MulQ.calls a0 t129 t130 _ A50.out).mono ?_); rintro e w' ⟨rfl, ⟨nd, rfl⟩⟩) | (go_at_call 21; (with_reducible refine (group_MulQ.calls a0 a1 t123 _ A51.out).mono ?_); rintro e w' ⟨rfl, ⟨nd, rfl⟩⟩) | (go_at_call 21; (with_reducible refine (group_MulQ.calls a0 a2 t132 _ A52.out).mono ?_); rintro e w' ⟨rfl, ⟨nd, rfl⟩⟩) | (go_at_call 17; (with_reducible refine (group_AddQ.calls t123 t132 t133 _ A53.out).mono ?_); rintro e w' ⟨rfl, ⟨nd, rfl⟩⟩))
                              go_ret
                              exact ⟨by first | rfl | (simp; done) | (simp [*]; done), by repeat (first | exact Drawn0.refl _ | apply Drawn0.step)⟩
                          · replace c63 := Bool.eq_false_iff.mpr c63
                            subst c63
                            have H1 : (some false) = some r := by rw [if_neg (show ¬ (false = true) by decide)] at H; exact H
                            clear H
                            have H := H1
                            clear H1
                            obtain rfl := Option.some.inj H
                            as_aux_lemma =>
                              go_wp2_with (first | ((with_reducible refine gate_callee (f := 21) rfl ?_); refine goesL_ (some 129) rfl rfl Try.func21 (by kernel_rfl) rfl #[.int .i64 a0, .int .i64 a1] rfl (by (try simp only [List.map_toArray, List.map_cons, List.map_nil]); first | done | rfl | (simp only [List.length_drop, List.length_take]; rfl)) ?_; (with_reducible refine (group_MulQ.calls a0 a1 t123 _ A41.out).mono ?_); rintro e w' ⟨rfl, ⟨nd, rfl⟩⟩; refine ⟨_, rfl, ?_⟩) | ((with_reducible refine gate_callee (f := 21) rfl ?_); refine goesL_ (some 132) rfl rfl Try.func21 (by kernel_rfl) rfl #[.int .i64 a1, .int .i64 a0] rfl (by (try simp only [List.map_toArray, List.map_cons, List.map_nil]); first | done | rfl | (simp only [List.length_drop, List.length_take]; rfl)) ?_; (with_reducible refine (group_MulQ.calls a1 a0 t124 _ A42.out).mono ?_); rintro e w' ⟨rfl, ⟨nd, rfl⟩⟩; refine ⟨_, rfl, ?_⟩) | (go_at_call 21; (with_reducible refine (group_MulQ.calls a0 a1 t123 _ A44.out).mono ?_); rintro e w' ⟨rfl, ⟨nd, rfl⟩⟩) | (go_at_call 21; (with_reducible refine (group_MulQ.calls t123 a2 t126 _ A45.out).mono ?_); rintro e w' ⟨rfl, ⟨nd, rfl⟩⟩) | (go_at_call 21; (with_reducible refine (group_MulQ.calls a1 a2 t127 _ A46.out).mono ?_); rintro e w' ⟨rfl, ⟨nd, rfl⟩⟩) | (go_at_call 21; (with_reducible refine (group_MulQ.calls a0 t127 t128 _ A47.out).mono ?_); rintro e w' ⟨rfl, ⟨nd, rfl⟩⟩) | (go_at_call 17; (with_reducible refine (group_AddQ.calls a1 a2 t129 _ A49.out).mono ?_); rintro e w' ⟨rfl, ⟨nd, rfl⟩⟩) | (go_at_call 21; (with_reducible refine (group_MulQ.calls a0 t129 t130 _ A50.out).mono ?_); rintro e w' ⟨rfl, ⟨nd, rfl⟩⟩) | (go_at_call 21; (with_reducible refine (group_MulQ.calls a0 a1 t123 _ A51.out).mono ?_); rintro e w' ⟨rfl, ⟨nd, rfl⟩⟩) | (go_at_call 21; (with_reducible refine (group_MulQ.calls a0 a2 t132 _ A52.out).mono ?_); rintro e w' ⟨rfl, ⟨nd, rfl⟩⟩) | (go_at_call 17; (with_reducible refine (group_AddQ.calls t123 t132 t133 _ A53.out).mono ?_); rintro e w' ⟨rfl, ⟨nd, rfl⟩⟩))
                              go_ret
                              exact ⟨by first | rfl | (simp; done) | (simp [*]; done), by repeat (first | exact Drawn0.refl _ | apply Drawn0.step)⟩
                        · replace c62 := Bool.eq_false_iff.mpr c62
                          subst c62
                          have H1 : (some false) = some r := by rw [if_neg (show ¬ (false = true) by decide)] at H; exact H
                          clear H
                          have H := H1
                          clear H1
                          obtain rfl := Option.some.inj H
                          as_aux_lemma =>
                            go_wp2_with (first | ((with_reducible refine gate_callee (f := 21) rfl ?_); refine goesL_ (some 129) rfl rfl Try.func21 (by kernel_rfl) rfl #[.int .i64 a0, .int .i64 a1] rfl (by (try simp only [List.map_toArray, List.map_cons, List.map_nil]); first | done | rfl | (simp only [List.length_drop, List.length_take]; rfl)) ?_; (with_reducible refine (group_MulQ.calls a0 a1 t123 _ A41.out).mono ?_); rintro e w' ⟨rfl, ⟨nd, rfl⟩⟩; refine ⟨_, rfl, ?_⟩) | ((with_reducible refine gate_callee (f := 21) rfl ?_); refine goesL_ (some 132) rfl rfl Try.func21 (by kernel_rfl) rfl #[.int .i64 a1, .int .i64 a0] rfl (by (try simp only [List.map_toArray, List.map_cons, List.map_nil]); first | done | rfl | (simp only [List.length_drop, List.length_take]; rfl)) ?_; (with_reducible refine (group_MulQ.calls a1 a0 t124 _ A42.out).mono ?_); rintro e w' ⟨rfl, ⟨nd, rfl⟩⟩; refine ⟨_, rfl, ?_⟩) | (go_at_call 21; (with_reducible refine (group_MulQ.calls a0 a1 t123 _ A44.out).mono ?_); rintro e w' ⟨rfl, ⟨nd, rfl⟩⟩) | (go_at_call 21; (with_reducible refine (group_MulQ.calls t123 a2 t126 _ A45.out).mono ?_); rintro e w' ⟨rfl, ⟨nd, rfl⟩⟩) | (go_at_call 21; (with_reducible refine (group_MulQ.calls a1 a2 t127 _ A46.out).mono ?_); rintro e w' ⟨rfl, ⟨nd, rfl⟩⟩) | (go_at_call 21; (with_reducible refine (group_MulQ.calls a0 t127 t128 _ A47.out).mono ?_); rintro e w' ⟨rfl, ⟨nd, rfl⟩⟩) | (go_at_call 17; (with_reducible refine (group_AddQ.calls a1 a2 t129 _ A49.out).mono ?_); rintro e w' ⟨rfl, ⟨nd, rfl⟩⟩) | (go_at_call 21; (with_reducible refine (group_MulQ.calls a0 t129 t130 _ A50.out).mono ?_); rintro e w' ⟨rfl, ⟨nd, rfl⟩⟩) | (go_at_call 21; (with_reducible refine (group_MulQ.calls a0 a1 t123 _ A51.out).mono ?_); rintro e w' ⟨rfl, ⟨nd, rfl⟩⟩) | (go_at_call 21; (with_reducible refine (group_MulQ.calls a0 a2 t132 _ A52.out).mono ?_); rintro e w' ⟨rfl, ⟨nd, rfl⟩⟩) | (go_at_call 17; (with_reducible refine (group_AddQ.calls t123 t132 t133 _ A53.out).mono ?_); rintro e w' ⟨rfl, ⟨nd, rfl⟩⟩))
                            go_ret
                            exact ⟨by first | rfl | (simp; done) | (simp [*]; done), by repeat (first | exact Drawn0.refl _ | apply Drawn0.step)⟩
                      · replace c61 := Bool.eq_false_iff.mpr c61
                        subst c61
                        have H1 : (some false) = some r := by rw [if_neg (show ¬ (false = true) by decide)] at H; exact H
                        clear H
                        have H := H1
                        clear H1
                        obtain rfl := Option.some.inj H
                        as_aux_lemma =>
                          go_wp2_with (first | ((with_reducible refine gate_callee (f := 21) rfl ?_); refine goesL_ (some 129) rfl rfl Try.func21 (by kernel_rfl) rfl #[.int .i64 a0, .int .i64 a1] rfl (by (try simp only [List.map_toArray, List.map_cons, List.map_nil]); first | done | rfl | (simp only [List.length_drop, List.length_take]; rfl)) ?_; (with_reducible refine (group_MulQ.calls a0 a1 t123 _ A41.out).mono ?_); rintro e w' ⟨rfl, ⟨nd, rfl⟩⟩; refine ⟨_, rfl, ?_⟩) | ((with_reducible refine gate_callee (f := 21) rfl ?_); refine goesL_ (some 132) rfl rfl Try.func21 (by kernel_rfl) rfl #[.int .i64 a1, .int .i64 a0] rfl (by (try simp only [List.map_toArray, List.map_cons, List.map_nil]); first | done | rfl | (simp only [List.length_drop, List.length_take]; rfl)) ?_; (with_reducible refine (group_MulQ.calls a1 a0 t124 _ A42.out).mono ?_); rintro e w' ⟨rfl, ⟨nd, rfl⟩⟩; refine ⟨_, rfl, ?_⟩) | (go_at_call 21; (with_reducible refine (group_MulQ.calls a0 a1 t123 _ A44.out).mono ?_); rintro e w' ⟨rfl, ⟨nd, rfl⟩⟩) | (go_at_call 21; (with_reducible refine (group_MulQ.calls t123 a2 t126 _ A45.out).mono ?_); rintro e w' ⟨rfl, ⟨nd, rfl⟩⟩) | (go_at_call 21; (with_reducible refine (group_MulQ.calls a1 a2 t127 _ A46.out).mono ?_); rintro e w' ⟨rfl, ⟨nd, rfl⟩⟩) | (go_at_call 21; (with_reducible refine (group_MulQ.calls a0 t127 t128 _ A47.out).mono ?_); rintro e w' ⟨rfl, ⟨nd, rfl⟩⟩) | (go_at_call 17; (with_reducible refine (group_AddQ.calls a1 a2 t129 _ A49.out).mono ?_); rintro e w' ⟨rfl, ⟨nd, rfl⟩⟩) | (go_at_call 21; (with_reducible refine (group_MulQ.calls a0 t129 t130 _ A50.out).mono ?_); rintro e w' ⟨rfl, ⟨nd, rfl⟩⟩) | (go_at_call 21; (with_reducible refine (group_MulQ.calls a0 a1 t123 _ A51.out).mono ?_); rintro e w' ⟨rfl, ⟨nd, rfl⟩⟩) | (go_at_call 21; (with_reducible refine (group_MulQ.calls a0 a2 t132 _ A52.out).mono ?_); rintro e w' ⟨rfl, ⟨nd, rfl⟩⟩) | (go_at_call 17; (with_reducible refine (group_AddQ.calls t123 t132 t133 _ A53.out).mono ?_); rintro e w' ⟨rfl, ⟨nd, rfl⟩⟩))
                          go_ret
                          exact ⟨by first | rfl | (simp; done) | (simp [*]; done), by repeat (first | exact Drawn0.refl _ | apply Drawn0.step)⟩
                    · replace c60 := Bool.eq_false_iff.mpr c60
                      subst c60
                      have H1 : (some false) = some r := by rw [if_neg (show ¬ (false = true) by decide)] at H; exact H
                      clear H
                      have H := H1
                      clear H1
                      obtain rfl := Option.some.inj H
                      as_aux_lemma =>
                        go_wp2_with (first | ((with_reducible refine gate_callee (f := 21) rfl ?_); refine goesL_ (some 129) rfl rfl Try.func21 (by kernel_rfl) rfl #[.int .i64 a0, .int .i64 a1] rfl (by (try simp only [List.map_toArray, List.map_cons, List.map_nil]); first | done | rfl | (simp only [List.length_drop, List.length_take]; rfl)) ?_; (with_reducible refine (group_MulQ.calls a0 a1 t123 _ A41.out).mono ?_); rintro e w' ⟨rfl, ⟨nd, rfl⟩⟩; refine ⟨_, rfl, ?_⟩) | ((with_reducible refine gate_callee (f := 21) rfl ?_); refine goesL_ (some 132) rfl rfl Try.func21 (by kernel_rfl) rfl #[.int .i64 a1, .int .i64 a0] rfl (by (try simp only [List.map_toArray, List.map_cons, List.map_nil]); first | done | rfl | (simp only [List.length_drop, List.length_take]; rfl)) ?_; (with_reducible refine (group_MulQ.calls a1 a0 t124 _ A42.out).mono ?_); rintro e w' ⟨rfl, ⟨nd, rfl⟩⟩; refine ⟨_, rfl, ?_⟩) | (go_at_call 21; (with_reducible refine (group_MulQ.calls a0 a1 t123 _ A44.out).mono ?_); rintro e w' ⟨rfl, ⟨nd, rfl⟩⟩) | (go_at_call 21; (with_reducible refine (group_MulQ.calls t123 a2 t126 _ A45.out).mono ?_); rintro e w' ⟨rfl, ⟨nd, rfl⟩⟩) | (go_at_call 21; (with_reducible refine (group_MulQ.calls a1 a2 t127 _ A46.out).mono ?_); rintro e w' ⟨rfl, ⟨nd, rfl⟩⟩) | (go_at_call 21; (with_reducible refine (group_MulQ.calls a0 t127 t128 _ A47.out).mono ?_); rintro e w' ⟨rfl, ⟨nd, rfl⟩⟩) | (go_at_call 17; (with_reducible refine (group_AddQ.calls a1 a2 t129 _ A49.out).mono ?_); rintro e w' ⟨rfl, ⟨nd, rfl⟩⟩) | (go_at_call 21; (with_reducible refine (group_MulQ.calls a0 t129 t130 _ A50.out).mono ?_); rintro e w' ⟨rfl, ⟨nd, rfl⟩⟩) | (go_at_call 21; (with_reducible refine (group_MulQ.calls a0 a1 t123 _ A51.out).mono ?_); rintro e w' ⟨rfl, ⟨nd, rfl⟩⟩) | (go_at_call 21; (with_reducible refine (group_MulQ.calls a0 a2 t132 _ A52.out).mono ?_); rintro e w' ⟨rfl, ⟨nd, rfl⟩⟩) | (go_at_call 17; (with_reducible refine (group_AddQ.calls t123 t132 t133 _ A53.out).mono ?_); rintro e w' ⟨rfl, ⟨nd, rfl⟩⟩))
                        go_ret
                        exact ⟨by first | rfl | (simp; done) | (simp [*]; done), by repeat (first | exact Drawn0.refl _ | apply Drawn0.step)⟩
                · rw [if_neg c48] at H
                  have c48b0 : (t126 == t128) = false := beq_eq_false_iff_ne.mpr c48
                  have c48b1 : (t126 != t128) = true := bne_iff_ne.mpr c48
                  by_cases c64 : t101 = true
                  · subst c64
                    have H1 : (if x12_7 = true then (if x13_17 = true then (if x14_29 = true then (some false) else (some false)) else (some false)) else (some false)) = some r := by rw [if_pos rfl] at H; exact H
                    clear H
                    have H := H1
                    clear H1
                    by_cases c65 : x12_7 = true
                    · subst c65
                      have H1 : (if x13_17 = true then (if x14_29 = true then (some false) else (some false)) else (some false)) = some r := by rw [if_pos rfl] at H; exact H
                      clear H
                      have H := H1
                      clear H1
                      by_cases c66 : x13_17 = true
                      · subst c66
                        have H1 : (if x14_29 = true then (some false) else (some false)) = some r := by rw [if_pos rfl] at H; exact H
                        clear H
                        have H := H1
                        clear H1
                        by_cases c67 : x14_29 = true
                        · subst c67
                          have H1 : (some false) = some r := by rw [if_pos rfl] at H; exact H
                          clear H
                          have H := H1
                          clear H1
                          obtain rfl := Option.some.inj H
                          as_aux_lemma =>
                            go_wp2_with (first | ((with_reducible refine gate_callee (f := 21) rfl ?_); refine goesL_ (some 129) rfl rfl Try.func21 (by kernel_rfl) rfl #[.int .i64 a0, .int .i64 a1] rfl (by (try simp only [List.map_toArray, List.map_cons, List.map_nil]); first | done | rfl | (simp only [List.length_drop, List.length_take]; rfl)) ?_; (with_reducible refine (group_MulQ.calls a0 a1 t123 _ A41.out).mono ?_); rintro e w' ⟨rfl, ⟨nd, rfl⟩⟩; refine ⟨_, rfl, ?_⟩) | ((with_reducible refine gate_callee (f := 21) rfl ?_); refine goesL_ (some 132) rfl rfl Try.func21 (by kernel_rfl) rfl #[.int .i64 a1, .int .i64 a0] rfl (by (try simp only [List.map_toArray, List.map_cons, List.map_nil]); first | done | rfl | (simp only [List.length_drop, List.length_take]; rfl)) ?_; (with_reducible refine (group_MulQ.calls a1 a0 t124 _ A42.out).mono ?_); rintro e w' ⟨rfl, ⟨nd, rfl⟩⟩; refine ⟨_, rfl, ?_⟩) | (go_at_call 21; (with_reducible refine (group_MulQ.calls a0 a1 t123 _ A44.out).mono ?_); rintro e w' ⟨rfl, ⟨nd, rfl⟩⟩) | (go_at_call 21; (with_reducible refine (group_MulQ.calls t123 a2 t126 _ A45.out).mono ?_); rintro e w' ⟨rfl, ⟨nd, rfl⟩⟩) | (go_at_call 21; (with_reducible refine (group_MulQ.calls a1 a2 t127 _ A46.out).mono ?_); rintro e w' ⟨rfl, ⟨nd, rfl⟩⟩) | (go_at_call 21; (with_reducible refine (group_MulQ.calls a0 t127 t128 _ A47.out).mono ?_); rintro e w' ⟨rfl, ⟨nd, rfl⟩⟩))
                            go_ret
                            exact ⟨by first | rfl | (simp; done) | (simp [*]; done), by repeat (first | exact Drawn0.refl _ | apply Drawn0.step)⟩
                        · replace c67 := Bool.eq_false_iff.mpr c67
                          subst c67
                          have H1 : (some false) = some r := by rw [if_neg (show ¬ (false = true) by decide)] at H; exact H
                          clear H
                          have H := H1
                          clear H1
                          obtain rfl := Option.some.inj H
                          as_aux_lemma =>
                            go_wp2_with (first | ((with_reducible refine gate_callee (f := 21) rfl ?_); refine goesL_ (some 129) rfl rfl Try.func21 (by kernel_rfl) rfl #[.int .i64 a0, .int .i64 a1] rfl (by (try simp only [List.map_toArray, List.map_cons, List.map_nil]); first | done | rfl | (simp only [List.length_drop, List.length_take]; rfl)) ?_; (with_reducible refine (group_MulQ.calls a0 a1 t123 _ A41.out).mono ?_); rintro e w' ⟨rfl, ⟨nd, rfl⟩⟩; refine ⟨_, rfl, ?_⟩) | ((with_reducible refine gate_callee (f := 21) rfl ?_); refine goesL_ (some 132) rfl rfl Try.func21 (by kernel_rfl) rfl #[.int .i64 a1, .int .i64 a0] rfl (by (try simp only [List.map_toArray, List.map_cons, List.map_nil]); first | done | rfl | (simp only [List.length_drop, List.length_take]; rfl)) ?_; (with_reducible refine (group_MulQ.calls a1 a0 t124 _ A42.out).mono ?_); rintro e w' ⟨rfl, ⟨nd, rfl⟩⟩; refine ⟨_, rfl, ?_⟩) | (go_at_call 21; (with_reducible refine (group_MulQ.calls a0 a1 t123 _ A44.out).mono ?_); rintro e w' ⟨rfl, ⟨nd, rfl⟩⟩) | (go_at_call 21; (with_reducible refine (group_MulQ.calls t123 a2 t126 _ A45.out).mono ?_); rintro e w' ⟨rfl, ⟨nd, rfl⟩⟩) | (go_at_call 21; (with_reducible refine (group_MulQ.calls a1 a2 t127 _ A46.out).mono ?_); rintro e w' ⟨rfl, ⟨nd, rfl⟩⟩) | (go_at_call 21; (with_reducible refine (group_MulQ.calls a0 t127 t128 _ A47.out).mono ?_); rintro e w' ⟨rfl, ⟨nd, rfl⟩⟩))
                            go_ret
                            exact ⟨by first | rfl | (simp; done) | (simp [*]; done), by repeat (first | exact Drawn0.refl _ | apply Drawn0.step)⟩
                      · replace c66 := Bool.eq_false_iff.mpr c66
                        subst c66
                        have H1 : (some false) = some r := by rw [if_neg (show ¬ (false = true) by decide)] at H; exact H
                        clear H
                        have H := H1
                        clear H1
                        obtain rfl := Option.some.inj H
                        as_aux_lemma =>
                          go_wp2_with (first | ((with_reducible refine gate_callee (f := 21) rfl ?_); refine goesL_ (some 129) rfl rfl Try.func21 (by kernel_rfl) rfl #[.int .i64 a0, .int .i64 a1] rfl (by (try simp only [List.map_toArray, List.map_cons, List.map_nil]); first | done | rfl | (simp only [List.length_drop, List.length_take]; rfl)) ?_; (with_reducible refine (group_MulQ.calls a0 a1 t123 _ A41.out).mono ?_); rintro e w' ⟨rfl, ⟨nd, rfl⟩⟩; refine ⟨_, rfl, ?_⟩) | ((with_reducible refine gate_callee (f := 21) rfl ?_); refine goesL_ (some 132) rfl rfl Try.func21 (by kernel_rfl) rfl #[.int .i64 a1, .int .i64 a0] rfl (by (try simp only [List.map_toArray, List.map_cons, List.map_nil]); first | done | rfl | (simp only [List.length_drop, List.length_take]; rfl)) ?_; (with_reducible refine (group_MulQ.calls a1 a0 t124 _ A42.out).mono ?_); rintro e w' ⟨rfl, ⟨nd, rfl⟩⟩; refine ⟨_, rfl, ?_⟩) | (go_at_call 21; (with_reducible refine (group_MulQ.calls a0 a1 t123 _ A44.out).mono ?_); rintro e w' ⟨rfl, ⟨nd, rfl⟩⟩) | (go_at_call 21; (with_reducible refine (group_MulQ.calls t123 a2 t126 _ A45.out).mono ?_); rintro e w' ⟨rfl, ⟨nd, rfl⟩⟩) | (go_at_call 21; (with_reducible refine (group_MulQ.calls a1 a2 t127 _ A46.out).mono ?_); rintro e w' ⟨rfl, ⟨nd, rfl⟩⟩) | (go_at_call 21; (with_reducible refine (group_MulQ.calls a0 t127 t128 _ A47.out).mono ?_); rintro e w' ⟨rfl, ⟨nd, rfl⟩⟩))
                          go_ret
                          exact ⟨by first | rfl | (simp; done) | (simp [*]; done), by repeat (first | exact Drawn0.refl _ | apply Drawn0.step)⟩
                    · replace c65 := Bool.eq_false_iff.mpr c65
                      subst c65
                      have H1 : (some false) = some r := by rw [if_neg (show ¬ (false = true) by decide)] at H; exact H
                      clear H
                      have H := H1
                      clear H1
                      obtain rfl := Option.some.inj H
                      as_aux_lemma =>
                        go_wp2_with (first | ((with_reducible refine gate_callee (f := 21) rfl ?_); refine goesL_ (some 129) rfl rfl Try.func21 (by kernel_rfl) rfl #[.int .i64 a0, .int .i64 a1] rfl (by (try simp only [List.map_toArray, List.map_cons, List.map_nil]); first | done | rfl | (simp only [List.length_drop, List.length_take]; rfl)) ?_; (with_reducible refine (group_MulQ.calls a0 a1 t123 _ A41.out).mono ?_); rintro e w' ⟨rfl, ⟨nd, rfl⟩⟩; refine ⟨_, rfl, ?_⟩) | ((with_reducible refine gate_callee (f := 21) rfl ?_); refine goesL_ (some 132) rfl rfl Try.func21 (by kernel_rfl) rfl #[.int .i64 a1, .int .i64 a0] rfl (by (try simp only [List.map_toArray, List.map_cons, List.map_nil]); first | done | rfl | (simp only [List.length_drop, List.length_take]; rfl)) ?_; (with_reducible refine (group_MulQ.calls a1 a0 t124 _ A42.out).mono ?_); rintro e w' ⟨rfl, ⟨nd, rfl⟩⟩; refine ⟨_, rfl, ?_⟩) | (go_at_call 21; (with_reducible refine (group_MulQ.calls a0 a1 t123 _ A44.out).mono ?_); rintro e w' ⟨rfl, ⟨nd, rfl⟩⟩) | (go_at_call 21; (with_reducible refine (group_MulQ.calls t123 a2 t126 _ A45.out).mono ?_); rintro e w' ⟨rfl, ⟨nd, rfl⟩⟩) | (go_at_call 21; (with_reducible refine (group_MulQ.calls a1 a2 t127 _ A46.out).mono ?_); rintro e w' ⟨rfl, ⟨nd, rfl⟩⟩) | (go_at_call 21; (with_reducible refine (group_MulQ.calls a0 t127 t128 _ A47.out).mono ?_); rintro e w' ⟨rfl, ⟨nd, rfl⟩⟩))
                        go_ret
                        exact ⟨by first | rfl | (simp; done) | (simp [*]; done), by repeat (first | exact Drawn0.refl _ | apply Drawn0.step)⟩
                  · replace c64 := Bool.eq_false_iff.mpr c64
                    subst c64
                    have H1 : (some false) = some r := by rw [if_neg (show ¬ (false = true) by decide)] at H; exact H
                    clear H
                    have H := H1
                    clear H1
                    obtain rfl := Option.some.inj H
                    as_aux_lemma =>
                      go_wp2_with (first | ((with_reducible refine gate_callee (f := 21) rfl ?_); refine goesL_ (some 129) rfl rfl Try.func21 (by kernel_rfl) rfl #[.int .i64 a0, .int .i64 a1] rfl (by (try simp only [List.map_toArray, List.map_cons, List.map_nil]); first | done | rfl | (simp only [List.length_drop, List.length_take]; rfl)) ?_; (with_reducible refine (group_MulQ.calls a0 a1 t123 _ A41.out).mono ?_); rintro e w' ⟨rfl, ⟨nd, rfl⟩⟩; refine ⟨_, rfl, ?_⟩) | ((with_reducible refine gate_callee (f := 21) rfl ?_); refine goesL_ (some 132) rfl rfl Try.func21 (by kernel_rfl) rfl #[.int .i64 a1, .int .i64 a0] rfl (by (try simp only [List.map_toArray, List.map_cons, List.map_nil]); first | done | rfl | (simp only [List.length_drop, List.length_take]; rfl)) ?_; (with_reducible refine (group_MulQ.calls a1 a0 t124 _ A42.out).mono ?_); rintro e w' ⟨rfl, ⟨nd, rfl⟩⟩; refine ⟨_, rfl, ?_⟩) | (go_at_call 21; (with_reducible refine (group_MulQ.calls a0 a1 t123 _ A44.out).mono ?_); rintro e w' ⟨rfl, ⟨nd, rfl⟩⟩) | (go_at_call 21; (with_reducible refine (group_MulQ.calls t123 a2 t126 _ A45.out).mono ?_); rintro e w' ⟨rfl, ⟨nd, rfl⟩⟩) | (go_at_call 21; (with_reducible refine (group_MulQ.calls a1 a2 t127 _ A46.out).mono ?_); rintro e w' ⟨rfl, ⟨nd, rfl⟩⟩) | (go_at_call 21; (with_reducible refine (group_MulQ.calls a0 t127 t128 _ A47.out).mono ?_); rintro e w' ⟨rfl, ⟨nd, rfl⟩⟩))
                      go_ret
                      exact ⟨by first | rfl | (simp; done) | (simp [*]; done), by repeat (first | exact Drawn0.refl _ | apply Drawn0.step)⟩
              · rw [if_neg c43] at H
                have c43b0 : (t123 == t124) = false := beq_eq_false_iff_ne.mpr c43
                have c43b1 : (t123 != t124) = true := bne_iff_ne.mpr c43
                by_cases c68 : t101 = true
                · subst c68
                  have H1 : (if x12_7 = true then (if x13_17 = true then (if x14_29 = true then (some false) else (some false)) else (some false)) else (some false)) = some r := by rw [if_pos rfl] at H; exact H
                  clear H
                  have H := H1
                  clear H1
                  by_cases c69 : x12_7 = true
                  · subst c69
                    have H1 : (if x13_17 = true then (if x14_29 = true then (some false) else (some false)) else (some false)) = some r := by rw [if_pos rfl] at H; exact H
                    clear H
                    have H := H1
                    clear H1
                    by_cases c70 : x13_17 = true
                    · subst c70
                      have H1 : (if x14_29 = true then (some false) else (some false)) = some r := by rw [if_pos rfl] at H; exact H
                      clear H
                      have H := H1
                      clear H1
                      by_cases c71 : x14_29 = true
                      · subst c71
                        have H1 : (some false) = some r := by rw [if_pos rfl] at H; exact H
                        clear H
                        have H := H1
                        clear H1
                        obtain rfl := Option.some.inj H
                        as_aux_lemma =>
                          go_wp2_with (first | ((with_reducible refine gate_callee (f := 21) rfl ?_); refine goesL_ (some 129) rfl rfl Try.func21 (by kernel_rfl) rfl #[.int .i64 a0, .int .i64 a1] rfl (by (try simp only [List.map_toArray, List.map_cons, List.map_nil]); first | done | rfl | (simp only [List.length_drop, List.length_take]; rfl)) ?_; (with_reducible refine (group_MulQ.calls a0 a1 t123 _ A41.out).mono ?_); rintro e w' ⟨rfl, ⟨nd, rfl⟩⟩; refine ⟨_, rfl, ?_⟩) | ((with_reducible refine gate_callee (f := 21) rfl ?_); refine goesL_ (some 132) rfl rfl Try.func21 (by kernel_rfl) rfl #[.int .i64 a1, .int .i64 a0] rfl (by (try simp only [List.map_toArray, List.map_cons, List.map_nil]); first | done | rfl | (simp only [List.length_drop, List.length_take]; rfl)) ?_; (with_reducible refine (group_MulQ.calls a1 a0 t124 _ A42.out).mono ?_); rintro e w' ⟨rfl, ⟨nd, rfl⟩⟩; refine ⟨_, rfl, ?_⟩))
                          go_ret
                          exact ⟨by first | rfl | (simp; done) | (simp [*]; done), by repeat (first | exact Drawn0.refl _ | apply Drawn0.step)⟩
                      · replace c71 := Bool.eq_false_iff.mpr c71
                        subst c71
                        have H1 : (some false) = some r := by rw [if_neg (show ¬ (false = true) by decide)] at H; exact H
                        clear H
                        have H := H1
                        clear H1
                        obtain rfl := Option.some.inj H
                        as_aux_lemma =>
                          go_wp2_with (first | ((with_reducible refine gate_callee (f := 21) rfl ?_); refine goesL_ (some 129) rfl rfl Try.func21 (by kernel_rfl) rfl #[.int .i64 a0, .int .i64 a1] rfl (by (try simp only [List.map_toArray, List.map_cons, List.map_nil]); first | done | rfl | (simp only [List.length_drop, List.length_take]; rfl)) ?_; (with_reducible refine (group_MulQ.calls a0 a1 t123 _ A41.out).mono ?_); rintro e w' ⟨rfl, ⟨nd, rfl⟩⟩; refine ⟨_, rfl, ?_⟩) | ((with_reducible refine gate_callee (f := 21) rfl ?_); refine goesL_ (some 132) rfl rfl Try.func21 (by kernel_rfl) rfl #[.int .i64 a1, .int .i64 a0] rfl (by (try simp only [List.map_toArray, List.map_cons, List.map_nil]); first | done | rfl | (simp only [List.length_drop, List.length_take]; rfl)) ?_; (with_reducible refine (group_MulQ.calls a1 a0 t124 _ A42.out).mono ?_); rintro e w' ⟨rfl, ⟨nd, rfl⟩⟩; refine ⟨_, rfl, ?_⟩))
                          go_ret
                          exact ⟨by first | rfl | (simp; done) | (simp [*]; done), by repeat (first | exact Drawn0.refl _ | apply Drawn0.step)⟩
                    · replace c70 := Bool.eq_false_iff.mpr c70
                      subst c70
                      have H1 : (some false) = some r := by rw [if_neg (show ¬ (false = true) by decide)] at H; exact H
                      clear H
                      have H := H1
                      clear H1
                      obtain rfl := Option.some.inj H
                      as_aux_lemma =>
                        go_wp2_with (first | ((with_reducible refine gate_callee (f := 21) rfl ?_); refine goesL_ (some 129) rfl rfl Try.func21 (by kernel_rfl) rfl #[.int .i64 a0, .int .i64 a1] rfl (by (try simp only [List.map_toArray, List.map_cons, List.map_nil]); first | done | rfl | (simp only [List.length_drop, List.length_take]; rfl)) ?_; (with_reducible refine (group_MulQ.calls a0 a1 t123 _ A41.out).mono ?_); rintro e w' ⟨rfl, ⟨nd, rfl⟩⟩; refine ⟨_, rfl, ?_⟩) | ((with_reducible refine gate_callee (f := 21) rfl ?_); refine goesL_ (some 132) rfl rfl Try.func21 (by kernel_rfl) rfl #[.int .i64 a1, .int .i64 a0] rfl (by (try simp only [List.map_toArray, List.map_cons, List.map_nil]); first | done | rfl | (simp only [List.length_drop, List.length_take]; rfl)) ?_; (with_reducible refine (group_MulQ.calls a1 a0 t124 _ A42.out).mono ?_); rintro e w' ⟨rfl, ⟨nd, rfl⟩⟩; refine ⟨_, rfl, ?_⟩))
                        go_ret
                        exact ⟨by first | rfl | (simp; done) | (simp [*]; done), by repeat (first | exact Drawn0.refl _ | apply Drawn0.step)⟩
                  · replace c69 := Bool.eq_false_iff.mpr c69
                    subst c69
                    have H1 : (some false) = some r := by rw [if_neg (show ¬ (false = true) by decide)] at H; exact H
                    clear H
                    have H := H1
                    clear H1
                    obtain rfl := Option.some.inj H
                    as_aux_lemma =>
                      go_wp2_with (first | ((with_reducible refine gate_callee (f := 21) rfl ?_); refine goesL_ (some 129) rfl rfl Try.func21 (by kernel_rfl) rfl #[.int .i64 a0, .int .i64 a1] rfl (by (try simp only [List.map_toArray, List.map_cons, List.map_nil]); first | done | rfl | (simp only [List.length_drop, List.length_take]; rfl)) ?_; (with_reducible refine (group_MulQ.calls a0 a1 t123 _ A41.out).mono ?_); rintro e w' ⟨rfl, ⟨nd, rfl⟩⟩; refine ⟨_, rfl, ?_⟩) | ((with_reducible refine gate_callee (f := 21) rfl ?_); refine goesL_ (some 132) rfl rfl Try.func21 (by kernel_rfl) rfl #[.int .i64 a1, .int .i64 a0] rfl (by (try simp only [List.map_toArray, List.map_cons, List.map_nil]); first | done | rfl | (simp only [List.length_drop, List.length_take]; rfl)) ?_; (with_reducible refine (group_MulQ.calls a1 a0 t124 _ A42.out).mono ?_); rintro e w' ⟨rfl, ⟨nd, rfl⟩⟩; refine ⟨_, rfl, ?_⟩))
                      go_ret
                      exact ⟨by first | rfl | (simp; done) | (simp [*]; done), by repeat (first | exact Drawn0.refl _ | apply Drawn0.step)⟩
                · replace c68 := Bool.eq_false_iff.mpr c68
                  subst c68
                  have H1 : (some false) = some r := by rw [if_neg (show ¬ (false = true) by decide)] at H; exact H
                  clear H
                  have H := H1
                  clear H1
                  obtain rfl := Option.some.inj H
                  as_aux_lemma =>
                    go_wp2_with (first | ((with_reducible refine gate_callee (f := 21) rfl ?_); refine goesL_ (some 129) rfl rfl Try.func21 (by kernel_rfl) rfl #[.int .i64 a0, .int .i64 a1] rfl (by (try simp only [List.map_toArray, List.map_cons, List.map_nil]); first | done | rfl | (simp only [List.length_drop, List.length_take]; rfl)) ?_; (with_reducible refine (group_MulQ.calls a0 a1 t123 _ A41.out).mono ?_); rintro e w' ⟨rfl, ⟨nd, rfl⟩⟩; refine ⟨_, rfl, ?_⟩) | ((with_reducible refine gate_callee (f := 21) rfl ?_); refine goesL_ (some 132) rfl rfl Try.func21 (by kernel_rfl) rfl #[.int .i64 a1, .int .i64 a0] rfl (by (try simp only [List.map_toArray, List.map_cons, List.map_nil]); first | done | rfl | (simp only [List.length_drop, List.length_take]; rfl)) ?_; (with_reducible refine (group_MulQ.calls a1 a0 t124 _ A42.out).mono ?_); rintro e w' ⟨rfl, ⟨nd, rfl⟩⟩; refine ⟨_, rfl, ?_⟩))
                    go_ret
                    exact ⟨by first | rfl | (simp; done) | (simp [*]; done), by repeat (first | exact Drawn0.refl _ | apply Drawn0.step)⟩

/-- THE ONE PURE STATEMENT of bournelaw04_GroupField: yours. -/
def bournelaw04_GroupField.Pure : Prop := ∀ (a0 : Int) (a1 : Int) (a2 : Int), (Lit.int .i64 a0).wf = true → (Lit.int .i64 a1).wf = true → (Lit.int .i64 a2).wf = true → ∃ k, bournelaw04_GroupField.f k a0 a1 a2 = some true
theorem bournelaw04_GroupField.walk (P : bournelaw04_GroupField.Pure) (a0 : Int) (a1 : Int) (a2 : Int) (w : World) (w0 : (Lit.int .i64 a0).wf = true) (w1 : (Lit.int .i64 a1).wf = true) (w2 : (Lit.int .i64 a2).wf = true) :
    Calls Try.prog 7 #[.int .i64 a0, .int .i64 a1, .int .i64 a2] w fun e w' => e = .returned (.bool true) ∧ Below w.heap.size w w' := by
  obtain ⟨k, h⟩ := P a0 a1 a2 w0 w1 w2
  refine (bournelaw04_GroupField.calls k a0 a1 a2 true w h).mono ?_
  rintro e w' ⟨rfl, hd⟩
  exact ⟨rfl, hd.below⟩

end Go.Proofs.Ytgakeihdnlmeaaa.F
