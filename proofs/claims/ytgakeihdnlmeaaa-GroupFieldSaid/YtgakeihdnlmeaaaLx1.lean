-- Written by a program of this session (wip/tools/pp.py) out of the translation; Lean checks it.
import Derived.Test.YtgakeihdnlmeaaaLx0
namespace Go.Proofs.Ytgakeihdnlmeaaa.L
open Go.RowKit Go.Proofs.YtgakeihdnlmeaaaW.PrintWords Go.Proofs.YtgakeihdnlmeaaaW.PrintLast Go.Proofs.YtgakeihdnlmeaaaW.PrintMore
open Go.Proofs.Ytgakeihdnlmeaaa.S
attribute [local go_sem] max2_int min2_int max_two min_two max_three min_three max_four min_four   -- for this text's walks alone
set_option linter.unusedVariables false
set_option linter.unusedSimpArgs false

/-! ### group_In: function 15 -/
def group_In.f (a0 : Int) : Option (Bool) := if a0 > 0 then (if a0 < 2305843009213691579 then ((group_Exp.f a0 1152921504606845789).bind fun t101 => (some (t101 == 1))) else (some false)) else (some false)
set_option maxHeartbeats 8000000 in
set_option maxRecDepth 100000 in
theorem group_In.calls (a0 : Int) (r : Bool) (w : World) (h : group_In.f a0 = some r) :
    Calls Try.prog 15 #[.int .i64 a0] w fun e w' => e = .returned (.bool r) ∧ Drawn0 w w' := by
  have H : (if a0 > 0 then (if a0 < 2305843009213691579 then ((group_Exp.f a0 1152921504606845789).bind fun t101 => (some (t101 == 1))) else (some false)) else (some false)) = some r := h
  clear h
  by_cases c2 : a0 > 0
  · rw [if_pos c2] at H
    have c2b0 : decide (0 < a0) = true := decide_eq_true c2
    clear c2
    by_cases c3 : a0 < 2305843009213691579
    · rw [if_pos c3] at H
      have c3b0 : decide (a0 < 2305843009213691579) = true := decide_eq_true c3
      clear c3
      replace H := Option.bind_eq_some_iff.mp H
      obtain ⟨t101, A40, H⟩ := H
      replace H : (some (t101 == 1)) = some r := H
      have A4 := Aside0.mk A40
      clear A40
      obtain rfl := Option.some.inj H
      go_enter Try.func15, Try.ntmps15
      go_wp2_with (first | (go_at_call 13; (with_reducible refine (group_Exp.calls a0 1152921504606845789 t101 _ A4.out).mono ?_); rintro e w' ⟨rfl, ⟨nd, rfl⟩⟩))
      go_ret
      exact ⟨by first | rfl | (simp; done) | (simp [*]; done), by repeat (first | exact Drawn0.refl _ | apply Drawn0.step)⟩
    · rw [if_neg c3] at H
      have c3b0 : decide (a0 < 2305843009213691579) = false := decide_eq_false c3
      clear c3
      obtain rfl := Option.some.inj H
      go_enter Try.func15, Try.ntmps15
      go_wp2
      go_ret
      exact ⟨by first | rfl | (simp; done) | (simp [*]; done), by repeat (first | exact Drawn0.refl _ | apply Drawn0.step)⟩
  · rw [if_neg c2] at H
    have c2b0 : decide (0 < a0) = false := decide_eq_false c2
    clear c2
    obtain rfl := Option.some.inj H
    go_enter Try.func15, Try.ntmps15
    go_wp2
    go_ret
    exact ⟨by first | rfl | (simp; done) | (simp [*]; done), by repeat (first | exact Drawn0.refl _ | apply Drawn0.step)⟩

/-! ### bournelaw04_small: function 8 -/
mutual
def bournelaw04_small.j0 : Nat → Int → Bool → Bool → Bool → Option (Bool)
  | 0, _, _, _, _ => none
  | k + 1, x1, x2, x4, x7 => (group_In.f 4).bind fun t113 => (if t113 = true then ((group_In.f 1).bind fun t114 => (if t114 = true then ((group_In.f 2305843009213691578).bind fun t115 => (if t115 = true then (bournelaw04_small.j1 k x1 x2 x4 x7 false) else ((group_In.f 0).bind fun t116 => (if t116 = true then (bournelaw04_small.j1 k x1 x2 x4 x7 false) else ((group_In.f 2305843009213691583).bind fun t117 => (bournelaw04_small.j1 k x1 x2 x4 x7 (!t117))))))) else (bournelaw04_small.j1 k x1 x2 x4 x7 false))) else (bournelaw04_small.j1 k x1 x2 x4 x7 false))
def bournelaw04_small.j1 : Nat → Int → Bool → Bool → Bool → Bool → Option (Bool)
  | 0, _, _, _, _, _ => none
  | k + 1, x1, x2, x4, x7, x8 => (group_Mul.f 2305843009213691578 2305843009213691578).bind fun t118 => (if t118 = 1 then ((group_Mul.f (-1) 3).bind fun t119 => (if t119 = 2305843009213691576 then (if x1 = 1152921504606845790 then (if x2 = true then (if x4 = true then (some false) else (if x7 = true then (if x8 = true then ((group_AddQ.f 1152921504606845788 2).bind fun t120 => (if t120 = 1 then ((group_SubQ.f 0 1).bind fun t121 => (if t121 = 1152921504606845788 then ((group_MulQ.f 1152921504606845788 1152921504606845788).bind fun t122 => (if t122 = 1 then (some true) else (some false))) else (some false))) else (some false))) else (some false)) else (some false))) else (some false)) else (some false)) else (some false))) else (some false))
end
def bournelaw04_small.f (k : Nat)  : Option (Bool) := (group_Inv.f 2).bind fun bt102 => ((group_Inv.f 2305843009213691579).bind fun bt104 => ((group_Inv.f 4).bind fun bt106 => ((group_Exp.f 4 3).bind fun t108 => (if t108 = 64 then ((group_Exp.f 0 0).bind fun t109 => (if t109 = 1 then ((group_Exp.f 0 (-1152921504606845789)).bind fun t110 => (if t110 = 1 then (if bt106.2 = true then ((group_Exp.f 4 (-1)).bind fun t111 => (if t111 = bt106.1 then ((group_Exp.f 2 1152921504606845789).bind fun t112 => (bournelaw04_small.j0 k bt102.1 bt102.2 bt104.2 (t112 == 2305843009213691578))) else (bournelaw04_small.j0 k bt102.1 bt102.2 bt104.2 false))) else (bournelaw04_small.j0 k bt102.1 bt102.2 bt104.2 false)) else (bournelaw04_small.j0 k bt102.1 bt102.2 bt104.2 false))) else (bournelaw04_small.j0 k bt102.1 bt102.2 bt104.2 false))) else (bournelaw04_small.j0 k bt102.1 bt102.2 bt104.2 false)))))
theorem bournelaw04_small.mono_l : ∀ k, (∀ y0 y1 y2 y3, LeO (bournelaw04_small.j0 k y0 y1 y2 y3) (bournelaw04_small.j0 (k + 1) y0 y1 y2 y3)) ∧ (∀ y0 y1 y2 y3 y4, LeO (bournelaw04_small.j1 k y0 y1 y2 y3 y4) (bournelaw04_small.j1 (k + 1) y0 y1 y2 y3 y4))
  | 0 => ⟨fun _ _ _ _ r h => by simp [bournelaw04_small.j0] at h, fun _ _ _ _ _ r h => by simp [bournelaw04_small.j1] at h⟩
  | k + 1 => by
    obtain ⟨ih0, ih1⟩ := bournelaw04_small.mono_l k
    refine ⟨?_, ?_⟩
    · intro y0 y1 y2 y3
      unfold bournelaw04_small.j0
      repeat' first
      | (with_reducible exact ih0 _ _ _ _)
      | (with_reducible exact ih1 _ _ _ _ _)
      | (with_reducible exact LeO.refl _)
      | (with_reducible exact LeO.none _)
      | (with_reducible refine LeO.ite ?_ ?_)
      | (with_reducible refine LeO.bind ?_ (fun _ => ?_))
      | exact ih0 _ _ _ _
      | exact ih1 _ _ _ _ _
      | exact LeO.none _
      | refine LeO.ite ?_ ?_
      | refine LeO.bind ?_ (fun _ => ?_)
    · intro y0 y1 y2 y3 y4
      unfold bournelaw04_small.j1
      repeat' first
      | (with_reducible exact ih0 _ _ _ _)
      | (with_reducible exact ih1 _ _ _ _ _)
      | (with_reducible exact LeO.refl _)
      | (with_reducible exact LeO.none _)
      | (with_reducible refine LeO.ite ?_ ?_)
      | (with_reducible refine LeO.bind ?_ (fun _ => ?_))
      | exact ih0 _ _ _ _
      | exact ih1 _ _ _ _ _
      | exact LeO.none _
      | refine LeO.ite ?_ ?_
      | refine LeO.bind ?_ (fun _ => ?_)
theorem bournelaw04_small.mono : ∀ k, LeO (bournelaw04_small.f k ) (bournelaw04_small.f (k + 1) ) := by
  intro  k
  obtain ⟨ih0, ih1⟩ := bournelaw04_small.mono_l k
  unfold bournelaw04_small.f
  repeat' first
      | (with_reducible exact ih0 _ _ _ _)
      | (with_reducible exact ih1 _ _ _ _ _)
      | (with_reducible exact LeO.refl _)
      | (with_reducible exact LeO.none _)
      | (with_reducible refine LeO.ite ?_ ?_)
      | (with_reducible refine LeO.bind ?_ (fun _ => ?_))
      | exact ih0 _ _ _ _
      | exact ih1 _ _ _ _ _
      | exact LeO.none _
      | refine LeO.ite ?_ ?_
      | refine LeO.bind ?_ (fun _ => ?_)
set_option maxHeartbeats 8000000 in
set_option maxRecDepth 100000 in
theorem bournelaw04_small.calls (k : Nat)  (r : Bool) (w : World) (h : bournelaw04_small.f k  = some r) :
    Calls Try.prog 8 #[] w fun e w' => e = .returned (.bool r) ∧ Drawn0 w w' := by
  have H : ((group_Inv.f 2).bind fun bt102 => ((group_Inv.f 2305843009213691579).bind fun bt104 => ((group_Inv.f 4).bind fun bt106 => ((group_Exp.f 4 3).bind fun t108 => (if t108 = 64 then ((group_Exp.f 0 0).bind fun t109 => (if t109 = 1 then ((group_Exp.f 0 (-1152921504606845789)).bind fun t110 => (if t110 = 1 then (if bt106.2 = true then ((group_Exp.f 4 (-1)).bind fun t111 => (if t111 = bt106.1 then ((group_Exp.f 2 1152921504606845789).bind fun t112 => (bournelaw04_small.j0 k bt102.1 bt102.2 bt104.2 (t112 == 2305843009213691578))) else (bournelaw04_small.j0 k bt102.1 bt102.2 bt104.2 false))) else (bournelaw04_small.j0 k bt102.1 bt102.2 bt104.2 false)) else (bournelaw04_small.j0 k bt102.1 bt102.2 bt104.2 false))) else (bournelaw04_small.j0 k bt102.1 bt102.2 bt104.2 false))) else (bournelaw04_small.j0 k bt102.1 bt102.2 bt104.2 false)))))) = some r := h
  clear h
  replace H := Option.bind_eq_some_iff.mp H
  obtain ⟨⟨t102, t103⟩, A10, H⟩ := H
  replace H : ((group_Inv.f 2305843009213691579).bind fun bt104 => ((group_Inv.f 4).bind fun bt106 => ((group_Exp.f 4 3).bind fun t108 => (if t108 = 64 then ((group_Exp.f 0 0).bind fun t109 => (if t109 = 1 then ((group_Exp.f 0 (-1152921504606845789)).bind fun t110 => (if t110 = 1 then (if bt106.2 = true then ((group_Exp.f 4 (-1)).bind fun t111 => (if t111 = bt106.1 then ((group_Exp.f 2 1152921504606845789).bind fun t112 => (bournelaw04_small.j0 k t102 t103 bt104.2 (t112 == 2305843009213691578))) else (bournelaw04_small.j0 k t102 t103 bt104.2 false))) else (bournelaw04_small.j0 k t102 t103 bt104.2 false)) else (bournelaw04_small.j0 k t102 t103 bt104.2 false))) else (bournelaw04_small.j0 k t102 t103 bt104.2 false))) else (bournelaw04_small.j0 k t102 t103 bt104.2 false))))) = some r := H
  have A1 := Aside0.mk A10
  clear A10
  replace H := Option.bind_eq_some_iff.mp H
  obtain ⟨⟨t104, t105⟩, A20, H⟩ := H
  replace H : ((group_Inv.f 4).bind fun bt106 => ((group_Exp.f 4 3).bind fun t108 => (if t108 = 64 then ((group_Exp.f 0 0).bind fun t109 => (if t109 = 1 then ((group_Exp.f 0 (-1152921504606845789)).bind fun t110 => (if t110 = 1 then (if bt106.2 = true then ((group_Exp.f 4 (-1)).bind fun t111 => (if t111 = bt106.1 then ((group_Exp.f 2 1152921504606845789).bind fun t112 => (bournelaw04_small.j0 k t102 t103 t105 (t112 == 2305843009213691578))) else (bournelaw04_small.j0 k t102 t103 t105 false))) else (bournelaw04_small.j0 k t102 t103 t105 false)) else (bournelaw04_small.j0 k t102 t103 t105 false))) else (bournelaw04_small.j0 k t102 t103 t105 false))) else (bournelaw04_small.j0 k t102 t103 t105 false)))) = some r := H
  have A2 := Aside0.mk A20
  clear A20
  replace H := Option.bind_eq_some_iff.mp H
  obtain ⟨⟨t106, t107⟩, A30, H⟩ := H
  replace H : ((group_Exp.f 4 3).bind fun t108 => (if t108 = 64 then ((group_Exp.f 0 0).bind fun t109 => (if t109 = 1 then ((group_Exp.f 0 (-1152921504606845789)).bind fun t110 => (if t110 = 1 then (if t107 = true then ((group_Exp.f 4 (-1)).bind fun t111 => (if t111 = t106 then ((group_Exp.f 2 1152921504606845789).bind fun t112 => (bournelaw04_small.j0 k t102 t103 t105 (t112 == 2305843009213691578))) else (bournelaw04_small.j0 k t102 t103 t105 false))) else (bournelaw04_small.j0 k t102 t103 t105 false)) else (bournelaw04_small.j0 k t102 t103 t105 false))) else (bournelaw04_small.j0 k t102 t103 t105 false))) else (bournelaw04_small.j0 k t102 t103 t105 false))) = some r := H
  have A3 := Aside0.mk A30
  clear A30
  have HC4 := Aside0.mk H
  clear H
  go_enter Try.func8, Try.ntmps8
  go_upto_region 4 with (first | ((with_reducible refine gate_callee (f := 9) rfl ?_); refine goesL_ (some 10) rfl rfl Try.func9 (by kernel_rfl) rfl #[.int .i64 2] rfl (by (try simp only [List.map_toArray, List.map_cons, List.map_nil]); first | done | rfl | (simp only [List.length_drop, List.length_take]; rfl)) ?_; (with_reducible refine (group_Inv.calls 2 t102 t103 _ A1.out).mono ?_); rintro e w' ⟨rfl, ⟨nd, rfl⟩⟩; refine ⟨_, rfl, ?_⟩) | ((with_reducible refine gate_callee (f := 9) rfl ?_); refine goesL_ (some 14) rfl rfl Try.func9 (by kernel_rfl) rfl #[.int .i64 2305843009213691579] rfl (by (try simp only [List.map_toArray, List.map_cons, List.map_nil]); first | done | rfl | (simp only [List.length_drop, List.length_take]; rfl)) ?_; (with_reducible refine (group_Inv.calls 2305843009213691579 t104 t105 _ A2.out).mono ?_); rintro e w' ⟨rfl, ⟨nd, rfl⟩⟩; refine ⟨_, rfl, ?_⟩) | ((with_reducible refine gate_callee (f := 9) rfl ?_); refine goesL_ (some 18) rfl rfl Try.func9 (by kernel_rfl) rfl #[.int .i64 4] rfl (by (try simp only [List.map_toArray, List.map_cons, List.map_nil]); first | done | rfl | (simp only [List.length_drop, List.length_take]; rfl)) ?_; (with_reducible refine (group_Inv.calls 4 t106 t107 _ A3.out).mono ?_); rintro e w' ⟨rfl, ⟨nd, rfl⟩⟩; refine ⟨_, rfl, ?_⟩))
  (try simp only [Act.put, List.setIfInBounds_toArray, List.set_cons_zero, List.set_cons_succ])
  go_cut [7] (fun v7 wc => ∃ (kq : Nat) (x7_3 : Bool), v7 = .bool x7_3 ∧ Aside0 (bournelaw04_small.j0 kq t102 t103 t105 x7_3 = some r) ∧ Aside0 (kq ≤ k) ∧ Drawn0 w wc)
  case first =>
    have H := HC4.out
    clear HC4
    replace H := Option.bind_eq_some_iff.mp H
    obtain ⟨t108, A50, H⟩ := H
    replace H : (if t108 = 64 then ((group_Exp.f 0 0).bind fun t109 => (if t109 = 1 then ((group_Exp.f 0 (-1152921504606845789)).bind fun t110 => (if t110 = 1 then (if t107 = true then ((group_Exp.f 4 (-1)).bind fun t111 => (if t111 = t106 then ((group_Exp.f 2 1152921504606845789).bind fun t112 => (bournelaw04_small.j0 k t102 t103 t105 (t112 == 2305843009213691578))) else (bournelaw04_small.j0 k t102 t103 t105 false))) else (bournelaw04_small.j0 k t102 t103 t105 false)) else (bournelaw04_small.j0 k t102 t103 t105 false))) else (bournelaw04_small.j0 k t102 t103 t105 false))) else (bournelaw04_small.j0 k t102 t103 t105 false)) = some r := H
    have A5 := Aside0.mk A50
    clear A50
    by_cases c6 : t108 = 64
    · rw [if_pos c6] at H
      have c6b0 : (t108 == 64) = true := beq_iff_eq.mpr c6
      have c6b1 : (t108 != 64) = false := bne_eq_false_iff_eq.mpr c6
      clear c6
      (first | rw [c6b0] | (simp only [i64_w, i32_w]; rw [c6b0]) | skip)
      replace H := Option.bind_eq_some_iff.mp H
      obtain ⟨t109, A70, H⟩ := H
      replace H : (if t109 = 1 then ((group_Exp.f 0 (-1152921504606845789)).bind fun t110 => (if t110 = 1 then (if t107 = true then ((group_Exp.f 4 (-1)).bind fun t111 => (if t111 = t106 then ((group_Exp.f 2 1152921504606845789).bind fun t112 => (bournelaw04_small.j0 k t102 t103 t105 (t112 == 2305843009213691578))) else (bournelaw04_small.j0 k t102 t103 t105 false))) else (bournelaw04_small.j0 k t102 t103 t105 false)) else (bournelaw04_small.j0 k t102 t103 t105 false))) else (bournelaw04_small.j0 k t102 t103 t105 false)) = some r := H
      have A7 := Aside0.mk A70
      clear A70
      by_cases c8 : t109 = 1
      · rw [if_pos c8] at H
        have c8b0 : (t109 == 1) = true := beq_iff_eq.mpr c8
        have c8b1 : (t109 != 1) = false := bne_eq_false_iff_eq.mpr c8
        clear c8
        replace H := Option.bind_eq_some_iff.mp H
        obtain ⟨t110, A90, H⟩ := H
        replace H : (if t110 = 1 then (if t107 = true then ((group_Exp.f 4 (-1)).bind fun t111 => (if t111 = t106 then ((group_Exp.f 2 1152921504606845789).bind fun t112 => (bournelaw04_small.j0 k t102 t103 t105 (t112 == 2305843009213691578))) else (bournelaw04_small.j0 k t102 t103 t105 false))) else (bournelaw04_small.j0 k t102 t103 t105 false)) else (bournelaw04_small.j0 k t102 t103 t105 false)) = some r := H
        have A9 := Aside0.mk A90
        clear A90
        by_cases c10 : t110 = 1
        · rw [if_pos c10] at H
          have c10b0 : (t110 == 1) = true := beq_iff_eq.mpr c10
          have c10b1 : (t110 != 1) = false := bne_eq_false_iff_eq.mpr c10
          clear c10
          by_cases c11 : t107 = true
          · subst c11
            have H1 : ((group_Exp.f 4 (-1)).bind fun t111 => (if t111 = t106 then ((group_Exp.f 2 1152921504606845789).bind fun t112 => (bournelaw04_small.j0 k t102 t103 t105 (t112 == 2305843009213691578))) else (bournelaw04_small.j0 k t102 t103 t105 false))) = some r := by rw [if_pos rfl] at H; exact H
            clear H
            have H := H1
            clear H1
            replace H := Option.bind_eq_some_iff.mp H
            obtain ⟨t111, A120, H⟩ := H
            replace H : (if t111 = t106 then ((group_Exp.f 2 1152921504606845789).bind fun t112 => (bournelaw04_small.j0 k t102 t103 t105 (t112 == 2305843009213691578))) else (bournelaw04_small.j0 k t102 t103 t105 false)) = some r := H
            have A12 := Aside0.mk A120
            clear A120
            by_cases c13 : t111 = t106
            · rw [if_pos c13] at H
              have c13b0 : (t111 == t106) = true := beq_iff_eq.mpr c13
              have c13b1 : (t111 != t106) = false := bne_eq_false_iff_eq.mpr c13
              clear c13
              replace H := Option.bind_eq_some_iff.mp H
              obtain ⟨t112, A140, H⟩ := H
              replace H : (bournelaw04_small.j0 k t102 t103 t105 (t112 == 2305843009213691578)) = some r := H
              have A14 := Aside0.mk A140
              clear A140
              have H' := Aside0.mk H
              clear H
              go_wp2_with (first | ((with_reducible refine gate_callee (f := 13) rfl ?_); refine goesL_ (some 21) rfl rfl Try.func13 (by kernel_rfl) rfl #[.int .i64 4, .int .i64 3] rfl (by (try simp only [List.map_toArray, List.map_cons, List.map_nil]); first | done | rfl | (simp only [List.length_drop, List.length_take]; rfl)) ?_; (with_reducible refine (group_Exp.calls 4 3 t108 _ A5.out).mono ?_); rintro e w' ⟨rfl, ⟨nd, rfl⟩⟩; refine ⟨_, rfl, ?_⟩) | (go_at_call 13; (with_reducible refine (group_Exp.calls 0 0 t109 _ A7.out).mono ?_); rintro e w' ⟨rfl, ⟨nd, rfl⟩⟩) | (go_at_call 13; (with_reducible refine (group_Exp.calls 0 (-1152921504606845789) t110 _ A9.out).mono ?_); rintro e w' ⟨rfl, ⟨nd, rfl⟩⟩) | (go_at_call 13; (with_reducible refine (group_Exp.calls 4 (-1) t111 _ A12.out).mono ?_); rintro e w' ⟨rfl, ⟨nd, rfl⟩⟩) | (go_at_call 13; (with_reducible refine (group_Exp.calls 2 1152921504606845789 t112 _ A14.out).mono ?_); rintro e w' ⟨rfl, ⟨nd, rfl⟩⟩))
              go_meet
              case rel => exact ⟨_, ((t112 == 2305843009213691578)), (by first | rfl | (simp; done) | (simp [*]; done)), H', ⟨by first | omega | exact Nat.le_refl _⟩, by repeat (first | exact Drawn0.refl _ | apply Drawn0.step)⟩
            · rw [if_neg c13] at H
              have c13b0 : (t111 == t106) = false := beq_eq_false_iff_ne.mpr c13
              have c13b1 : (t111 != t106) = true := bne_iff_ne.mpr c13
              have H' := Aside0.mk H
              clear H
              go_wp2_with (first | ((with_reducible refine gate_callee (f := 13) rfl ?_); refine goesL_ (some 21) rfl rfl Try.func13 (by kernel_rfl) rfl #[.int .i64 4, .int .i64 3] rfl (by (try simp only [List.map_toArray, List.map_cons, List.map_nil]); first | done | rfl | (simp only [List.length_drop, List.length_take]; rfl)) ?_; (with_reducible refine (group_Exp.calls 4 3 t108 _ A5.out).mono ?_); rintro e w' ⟨rfl, ⟨nd, rfl⟩⟩; refine ⟨_, rfl, ?_⟩) | (go_at_call 13; (with_reducible refine (group_Exp.calls 0 0 t109 _ A7.out).mono ?_); rintro e w' ⟨rfl, ⟨nd, rfl⟩⟩) | (go_at_call 13; (with_reducible refine (group_Exp.calls 0 (-1152921504606845789) t110 _ A9.out).mono ?_); rintro e w' ⟨rfl, ⟨nd, rfl⟩⟩) | (go_at_call 13; (with_reducible refine (group_Exp.calls 4 (-1) t111 _ A12.out).mono ?_); rintro e w' ⟨rfl, ⟨nd, rfl⟩⟩))
              go_meet
              case rel => exact ⟨_, (false), (by first | rfl | (simp; done) | (simp [*]; done)), H', ⟨by first | omega | exact Nat.le_refl _⟩, by repeat (first | exact Drawn0.refl _ | apply Drawn0.step)⟩
          · replace c11 := Bool.eq_false_iff.mpr c11
            subst c11
            have H1 : (bournelaw04_small.j0 k t102 t103 t105 false) = some r := by rw [if_neg (show ¬ (false = true) by decide)] at H; exact H
            clear H
            have H := H1
            clear H1
            have H' := Aside0.mk H
            clear H
            go_wp2_with (first | ((with_reducible refine gate_callee (f := 13) rfl ?_); refine goesL_ (some 21) rfl rfl Try.func13 (by kernel_rfl) rfl #[.int .i64 4, .int .i64 3] rfl (by (try simp only [List.map_toArray, List.map_cons, List.map_nil]); first | done | rfl | (simp only [List.length_drop, List.length_take]; rfl)) ?_; (with_reducible refine (group_Exp.calls 4 3 t108 _ A5.out).mono ?_); rintro e w' ⟨rfl, ⟨nd, rfl⟩⟩; refine ⟨_, rfl, ?_⟩) | (go_at_call 13; (with_reducible refine (group_Exp.calls 0 0 t109 _ A7.out).mono ?_); rintro e w' ⟨rfl, ⟨nd, rfl⟩⟩) | (go_at_call 13; (with_reducible refine (group_Exp.calls 0 (-1152921504606845789) t110 _ A9.out).mono ?_); rintro e w' ⟨rfl, ⟨nd, rfl⟩⟩))
            go_meet
            case rel => exact ⟨_, (false), (by first | rfl | (simp; done) | (simp [*]; done)), H', ⟨by first | omega | exact Nat.le_refl _⟩, by repeat (first | exact Drawn0.refl _ | apply Drawn0.step)⟩
        · rw [if_neg c10] at H
          have c10b0 : (t110 == 1) = false := beq_eq_false_iff_ne.mpr c10
          have c10b1 : (t110 != 1) = true := bne_iff_ne.mpr c10
          have H' := Aside0.mk H
          clear H
          go_wp2_with (first | ((with_reducible refine gate_callee (f := 13) rfl ?_); refine goesL_ (some 21) rfl rfl Try.func13 (by kernel_rfl) rfl #[.int .i64 4, .int .i64 3] rfl (by (try simp only [List.map_toArray, List.map_cons, List.map_nil]); first | done | rfl | (simp only [List.length_drop, List.length_take]; rfl)) ?_; (with_reducible refine (group_Exp.calls 4 3 t108 _ A5.out).mono ?_); rintro e w' ⟨rfl, ⟨nd, rfl⟩⟩; refine ⟨_, rfl, ?_⟩) | (go_at_call 13; (with_reducible refine (group_Exp.calls 0 0 t109 _ A7.out).mono ?_); rintro e w' ⟨rfl, ⟨nd, rfl⟩⟩) | (go_at_call 13; (with_reducible refine (group_Exp.calls 0 (-1152921504606845789) t110 _ A9.out).mono ?_); rintro e w' ⟨rfl, ⟨nd, rfl⟩⟩))
          go_meet
          case rel => exact ⟨_, (false), (by first | rfl | (simp; done) | (simp [*]; done)), H', ⟨by first | omega | exact Nat.le_refl _⟩, by repeat (first | exact Drawn0.refl _ | apply Drawn0.step)⟩
      · rw [if_neg c8] at H
        have c8b0 : (t109 == 1) = false := beq_eq_false_iff_ne.mpr c8
        have c8b1 : (t109 != 1) = true := bne_iff_ne.mpr c8
        have H' := Aside0.mk H
        clear H
        go_wp2_with (first | ((with_reducible refine gate_callee (f := 13) rfl ?_); refine goesL_ (some 21) rfl rfl Try.func13 (by kernel_rfl) rfl #[.int .i64 4, .int .i64 3] rfl (by (try simp only [List.map_toArray, List.map_cons, List.map_nil]); first | done | rfl | (simp only [List.length_drop, List.length_take]; rfl)) ?_; (with_reducible refine (group_Exp.calls 4 3 t108 _ A5.out).mono ?_); rintro e w' ⟨rfl, ⟨nd, rfl⟩⟩; refine ⟨_, rfl, ?_⟩) | (go_at_call 13; (with_reducible refine (group_Exp.calls 0 0 t109 _ A7.out).mono ?_); rintro e w' ⟨rfl, ⟨nd, rfl⟩⟩))
        go_meet
        case rel => exact ⟨_, (false), (by first | rfl | (simp; done) | (simp [*]; done)), H', ⟨by first | omega | exact Nat.le_refl _⟩, by repeat (first | exact Drawn0.refl _ | apply Drawn0.step)⟩
    · rw [if_neg c6] at H
      have c6b0 : (t108 == 64) = false := beq_eq_false_iff_ne.mpr c6
      have c6b1 : (t108 != 64) = true := bne_iff_ne.mpr c6
      (first | rw [c6b0] | (simp only [i64_w, i32_w]; rw [c6b0]) | skip)
      have H' := Aside0.mk H
      clear H
      go_wp2_with (first | ((with_reducible refine gate_callee (f := 13) rfl ?_); refine goesL_ (some 21) rfl rfl Try.func13 (by kernel_rfl) rfl #[.int .i64 4, .int .i64 3] rfl (by (try simp only [List.map_toArray, List.map_cons, List.map_nil]); first | done | rfl | (simp only [List.length_drop, List.length_take]; rfl)) ?_; (with_reducible refine (group_Exp.calls 4 3 t108 _ A5.out).mono ?_); rintro e w' ⟨rfl, ⟨nd, rfl⟩⟩; refine ⟨_, rfl, ?_⟩))
      go_meet
      case rel => exact ⟨_, (false), (by first | rfl | (simp; done) | (simp [*]; done)), H', ⟨by first | omega | exact Nat.le_refl _⟩, by repeat (first | exact Drawn0.refl _ | apply Drawn0.step)⟩
  case rest =>
    clear HC4
    try clear c1
    try clear p2
    try clear c6
    try clear c6b0
    try clear c6b1
    try clear c8
    try clear c8b0
    try clear c8b1
    try clear c9
    try clear c10
    try clear c10b0
    try clear c10b1
    try clear c11
    try clear c13
    try clear c13b0
    try clear c13b1
    obtain ⟨kq, x7_3, rfl, HA, HJ3, ⟨mc3, rfl⟩⟩ := hcut
    cases kq with
    | zero => exact absurd HA.out (by simp [bournelaw04_small.j0])
    | succ kj3 =>
      have H := HA.out
      clear HA
      simp only [bournelaw04_small.j0] at H
      have HC15 := Aside0.mk H
      clear H
      go_upto_region 5 with (fail)
      go_cut [8] (fun v8 wc => ∃ (kq : Nat) (x8_14 : Bool), v8 = .bool x8_14 ∧ Aside0 (bournelaw04_small.j1 kq t102 t103 t105 x7_3 x8_14 = some r) ∧ Aside0 (kq ≤ kj3) ∧ Drawn0 w wc)
      case first =>
        have H := HC15.out
        clear HC15
        replace H := Option.bind_eq_some_iff.mp H
        obtain ⟨t113, A160, H⟩ := H
        replace H : (if t113 = true then ((group_In.f 1).bind fun t114 => (if t114 = true then ((group_In.f 2305843009213691578).bind fun t115 => (if t115 = true then (bournelaw04_small.j1 kj3 t102 t103 t105 x7_3 false) else ((group_In.f 0).bind fun t116 => (if t116 = true then (bournelaw04_small.j1 kj3 t102 t103 t105 x7_3 false) else ((group_In.f 2305843009213691583).bind fun t117 => (bournelaw04_small.j1 kj3 t102 t103 t105 x7_3 (!t117))))))) else (bournelaw04_small.j1 kj3 t102 t103 t105 x7_3 false))) else (bournelaw04_small.j1 kj3 t102 t103 t105 x7_3 false)) = some r := H
        have A16 := Aside0.mk A160
        clear A160
        by_cases c17 : t113 = true
        · subst c17
          have H1 : ((group_In.f 1).bind fun t114 => (if t114 = true then ((group_In.f 2305843009213691578).bind fun t115 => (if t115 = true then (bournelaw04_small.j1 kj3 t102 t103 t105 x7_3 false) else ((group_In.f 0).bind fun t116 => (if t116 = true then (bournelaw04_small.j1 kj3 t102 t103 t105 x7_3 false) else ((group_In.f 2305843009213691583).bind fun t117 => (bournelaw04_small.j1 kj3 t102 t103 t105 x7_3 (!t117))))))) else (bournelaw04_small.j1 kj3 t102 t103 t105 x7_3 false))) = some r := by rw [if_pos rfl] at H; exact H
          clear H
          have H := H1
          clear H1
          replace H := Option.bind_eq_some_iff.mp H
          obtain ⟨t114, A180, H⟩ := H
          replace H : (if t114 = true then ((group_In.f 2305843009213691578).bind fun t115 => (if t115 = true then (bournelaw04_small.j1 kj3 t102 t103 t105 x7_3 false) else ((group_In.f 0).bind fun t116 => (if t116 = true then (bournelaw04_small.j1 kj3 t102 t103 t105 x7_3 false) else ((group_In.f 2305843009213691583).bind fun t117 => (bournelaw04_small.j1 kj3 t102 t103 t105 x7_3 (!t117))))))) else (bournelaw04_small.j1 kj3 t102 t103 t105 x7_3 false)) = some r := H
          have A18 := Aside0.mk A180
          clear A180
          by_cases c19 : t114 = true
          · subst c19
            have H1 : ((group_In.f 2305843009213691578).bind fun t115 => (if t115 = true then (bournelaw04_small.j1 kj3 t102 t103 t105 x7_3 false) else ((group_In.f 0).bind fun t116 => (if t116 = true then (bournelaw04_small.j1 kj3 t102 t103 t105 x7_3 false) else ((group_In.f 2305843009213691583).bind fun t117 => (bournelaw04_small.j1 kj3 t102 t103 t105 x7_3 (!t117))))))) = some r := by rw [if_pos rfl] at H; exact H
            clear H
            have H := H1
            clear H1
            replace H := Option.bind_eq_some_iff.mp H
            obtain ⟨t115, A200, H⟩ := H
            replace H : (if t115 = true then (bournelaw04_small.j1 kj3 t102 t103 t105 x7_3 false) else ((group_In.f 0).bind fun t116 => (if t116 = true then (bournelaw04_small.j1 kj3 t102 t103 t105 x7_3 false) else ((group_In.f 2305843009213691583).bind fun t117 => (bournelaw04_small.j1 kj3 t102 t103 t105 x7_3 (!t117)))))) = some r := H
            have A20 := Aside0.mk A200
            clear A200
            by_cases c21 : t115 = true
            · subst c21
              have H1 : (bournelaw04_small.j1 kj3 t102 t103 t105 x7_3 false) = some r := by rw [if_pos rfl] at H; exact H
              clear H
              have H := H1
              clear H1
              have H' := Aside0.mk H
              clear H
              go_wp2_with (first | ((with_reducible refine gate_callee (f := 15) rfl ?_); refine goesL_ (some 43) rfl rfl Try.func15 (by kernel_rfl) rfl #[.int .i64 4] rfl (by (try simp only [List.map_toArray, List.map_cons, List.map_nil]); first | done | rfl | (simp only [List.length_drop, List.length_take]; rfl)) ?_; (with_reducible refine (group_In.calls 4 true _ A16.out).mono ?_); rintro e w' ⟨rfl, ⟨nd, rfl⟩⟩; refine ⟨_, rfl, ?_⟩) | (go_at_call 15; (with_reducible refine (group_In.calls 1 true _ A18.out).mono ?_); rintro e w' ⟨rfl, ⟨nd, rfl⟩⟩) | (go_at_call 15; (with_reducible refine (group_In.calls 2305843009213691578 true _ A20.out).mono ?_); rintro e w' ⟨rfl, ⟨nd, rfl⟩⟩))
              go_meet
              case rel => exact ⟨_, (false), (by first | rfl | (simp; done) | (simp [*]; done)), H', ⟨by have := HJ3.out; first | omega | exact Nat.le_refl _⟩, by repeat (first | exact Drawn0.refl _ | apply Drawn0.step)⟩
            · replace c21 := Bool.eq_false_iff.mpr c21
              subst c21
              have H1 : ((group_In.f 0).bind fun t116 => (if t116 = true then (bournelaw04_small.j1 kj3 t102 t103 t105 x7_3 false) else ((group_In.f 2305843009213691583).bind fun t117 => (bournelaw04_small.j1 kj3 t102 t103 t105 x7_3 (!t117))))) = some r := by rw [if_neg (show ¬ (false = true) by decide)] at H; exact H
              clear H
              have H := H1
              clear H1
              replace H := Option.bind_eq_some_iff.mp H
              obtain ⟨t116, A220, H⟩ := H
              replace H : (if t116 = true then (bournelaw04_small.j1 kj3 t102 t103 t105 x7_3 false) else ((group_In.f 2305843009213691583).bind fun t117 => (bournelaw04_small.j1 kj3 t102 t103 t105 x7_3 (!t117)))) = some r := H
              have A22 := Aside0.mk A220
              clear A220
              by_cases c23 : t116 = true
              · subst c23
                have H1 : (bournelaw04_small.j1 kj3 t102 t103 t105 x7_3 false) = some r := by rw [if_pos rfl] at H; exact H
                clear H
                have H := H1
                clear H1
                have H' := Aside0.mk H
                clear H
                go_wp2_with (first | ((with_reducible refine gate_callee (f := 15) rfl ?_); refine goesL_ (some 43) rfl rfl Try.func15 (by kernel_rfl) rfl #[.int .i64 4] rfl (by (try simp only [List.map_toArray, List.map_cons, List.map_nil]); first | done | rfl | (simp only [List.length_drop, List.length_take]; rfl)) ?_; (with_reducible refine (group_In.calls 4 true _ A16.out).mono ?_); rintro e w' ⟨rfl, ⟨nd, rfl⟩⟩; refine ⟨_, rfl, ?_⟩) | (go_at_call 15; (with_reducible refine (group_In.calls 1 true _ A18.out).mono ?_); rintro e w' ⟨rfl, ⟨nd, rfl⟩⟩) | (go_at_call 15; (with_reducible refine (group_In.calls 2305843009213691578 false _ A20.out).mono ?_); rintro e w' ⟨rfl, ⟨nd, rfl⟩⟩) | (go_at_call 15; (with_reducible refine (group_In.calls 0 true _ A22.out).mono ?_); rintro e w' ⟨rfl, ⟨nd, rfl⟩⟩))
                go_meet
                case rel => exact ⟨_, (false), (by first | rfl | (simp; done) | (simp [*]; done)), H', ⟨by have := HJ3.out; first | omega | exact Nat.le_refl _⟩, by repeat (first | exact Drawn0.refl _ | apply Drawn0.step)⟩
              · replace c23 := Bool.eq_false_iff.mpr c23
                subst c23
                have H1 : ((group_In.f 2305843009213691583).bind fun t117 => (bournelaw04_small.j1 kj3 t102 t103 t105 x7_3 (!t117))) = some r := by rw [if_neg (show ¬ (false = true) by decide)] at H; exact H
                clear H
                have H := H1
                clear H1
                replace H := Option.bind_eq_some_iff.mp H
                obtain ⟨t117, A240, H⟩ := H
                replace H : (bournelaw04_small.j1 kj3 t102 t103 t105 x7_3 (!t117)) = some r := H
                have A24 := Aside0.mk A240
                clear A240
                have H' := Aside0.mk H
                clear H
                go_wp2_with (first | ((with_reducible refine gate_callee (f := 15) rfl ?_); refine goesL_ (some 43) rfl rfl Try.func15 (by kernel_rfl) rfl #[.int .i64 4] rfl (by (try simp only [List.map_toArray, List.map_cons, List.map_nil]); first | done | rfl | (simp only [List.length_drop, List.length_take]; rfl)) ?_; (with_reducible refine (group_In.calls 4 true _ A16.out).mono ?_); rintro e w' ⟨rfl, ⟨nd, rfl⟩⟩; refine ⟨_, rfl, ?_⟩) | (go_at_call 15; (with_reducible refine (group_In.calls 1 true _ A18.out).mono ?_); rintro e w' ⟨rfl, ⟨nd, rfl⟩⟩) | (go_at_call 15; (with_reducible refine (group_In.calls 2305843009213691578 false _ A20.out).mono ?_); rintro e w' ⟨rfl, ⟨nd, rfl⟩⟩) | (go_at_call 15; (with_reducible refine (group_In.calls 0 false _ A22.out).mono ?_); rintro e w' ⟨rfl, ⟨nd, rfl⟩⟩) | (go_at_call 15; (with_reducible refine (group_In.calls 2305843009213691583 t117 _ A24.out).mono ?_); rintro e w' ⟨rfl, ⟨nd, rfl⟩⟩))
                go_meet
                case rel => exact ⟨_, (!t117), (by first | rfl | (simp; done) | (simp [*]; done)), H', ⟨by have := HJ3.out; first | omega | exact Nat.le_refl _⟩, by repeat (first | exact Drawn0.refl _ | apply Drawn0.step)⟩
          · replace c19 := Bool.eq_false_iff.mpr c19
            subst c19
            have H1 : (bournelaw04_small.j1 kj3 t102 t103 t105 x7_3 false) = some r := by rw [if_neg (show ¬ (false = true) by decide)] at H; exact H
            clear H
            have H := H1
            clear H1
            have H' := Aside0.mk H
            clear H
            go_wp2_with (first | ((with_reducible refine gate_callee (f := 15) rfl ?_); refine goesL_ (some 43) rfl rfl Try.func15 (by kernel_rfl) rfl #[.int .i64 4] rfl (by (try simp only [List.map_toArray, List.map_cons, List.map_nil]); first | done | rfl | (simp only [List.length_drop, List.length_take]; rfl)) ?_; (with_reducible refine (group_In.calls 4 true _ A16.out).mono ?_); rintro e w' ⟨rfl, ⟨nd, rfl⟩⟩; refine ⟨_, rfl, ?_⟩) | (go_at_call 15; (with_reducible refine (group_In.calls 1 false _ A18.out).mono ?_); rintro e w' ⟨rfl, ⟨nd, rfl⟩⟩))
            go_meet
            case rel => exact ⟨_, (false), (by first | rfl | (simp; done) | (simp [*]; done)), H', ⟨by have := HJ3.out; first | omega | exact Nat.le_refl _⟩, by repeat (first | exact Drawn0.refl _ | apply Drawn0.step)⟩
        · replace c17 := Bool.eq_false_iff.mpr c17
          subst c17
          have H1 : (bournelaw04_small.j1 kj3 t102 t103 t105 x7_3 false) = some r := by rw [if_neg (show ¬ (false = true) by decide)] at H; exact H
          clear H
          have H := H1
          clear H1
          have H' := Aside0.mk H
          clear H
          go_wp2_with (first | ((with_reducible refine gate_callee (f := 15) rfl ?_); refine goesL_ (some 43) rfl rfl Try.func15 (by kernel_rfl) rfl #[.int .i64 4] rfl (by (try simp only [List.map_toArray, List.map_cons, List.map_nil]); first | done | rfl | (simp only [List.length_drop, List.length_take]; rfl)) ?_; (with_reducible refine (group_In.calls 4 false _ A16.out).mono ?_); rintro e w' ⟨rfl, ⟨nd, rfl⟩⟩; refine ⟨_, rfl, ?_⟩))
          go_meet
          case rel => exact ⟨_, (false), (by first | rfl | (simp; done) | (simp [*]; done)), H', ⟨by have := HJ3.out; first | omega | exact Nat.le_refl _⟩, by repeat (first | exact Drawn0.refl _ | apply Drawn0.step)⟩
      case rest =>
        clear HC15
        try clear c1
        try clear c2
        try clear p2
        try clear c3
        try clear c6
        try clear c6b0
        try clear c6b1
        try clear c8
        try clear c8b0
        try clear c8b1
        try clear c9
        try clear c10
        try clear c10b0
        try clear c10b1
        try clear c11
        try clear c13
        try clear c13b0
        try clear c13b1
        try clear c15
        try clear c17
        try clear c19
        try clear c21
        try clear c23
        try clear p2
        obtain ⟨kq, x8_14, rfl, HA, HJ14, ⟨mc14, rfl⟩⟩ := hcut
        cases kq with
        | zero => exact absurd HA.out (by simp [bournelaw04_small.j1])
        | succ kj14 =>
          have H := HA.out
          clear HA
          simp only [bournelaw04_small.j1] at H
          replace H := Option.bind_eq_some_iff.mp H
          obtain ⟨t118, A250, H⟩ := H
          replace H : (if t118 = 1 then ((group_Mul.f (-1) 3).bind fun t119 => (if t119 = 2305843009213691576 then (if t102 = 1152921504606845790 then (if t103 = true then (if t105 = true then (some false) else (if x7_3 = true then (if x8_14 = true then ((group_AddQ.f 1152921504606845788 2).bind fun t120 => (if t120 = 1 then ((group_SubQ.f 0 1).bind fun t121 => (if t121 = 1152921504606845788 then ((group_MulQ.f 1152921504606845788 1152921504606845788).bind fun t122 => (if t122 = 1 then (some true) else (some false))) else (some false))) else (some false))) else (some false)) else (some false))) else (some false)) else (some false)) else (some false))) else (some false)) = some r := H
          have A25 := Aside0.mk A250
          clear A250
          by_cases c26 : t118 = 1
          · rw [if_pos c26] at H
            have c26b0 : (t118 == 1) = true := beq_iff_eq.mpr c26
            have c26b1 : (t118 != 1) = false := bne_eq_false_iff_eq.mpr c26
            clear c26
            replace H := Option.bind_eq_some_iff.mp H
            obtain ⟨t119, A270, H⟩ := H
            replace H : (if t119 = 2305843009213691576 then (if t102 = 1152921504606845790 then (if t103 = true then (if t105 = true then (some false) else (if x7_3 = true then (if x8_14 = true then ((group_AddQ.f 1152921504606845788 2).bind fun t120 => (if t120 = 1 then ((group_SubQ.f 0 1).bind fun t121 => (if t121 = 1152921504606845788 then ((group_MulQ.f 1152921504606845788 1152921504606845788).bind fun t122 => (if t122 = 1 then (some true) else (some false))) else (some false))) else (some false))) else (some false)) else (some false))) else (some false)) else (some false)) else (some false)) = some r := H
            have A27 := Aside0.mk A270
            clear A270
            by_cases c28 : t119 = 2305843009213691576
            · rw [if_pos c28] at H
              have c28b0 : (t119 == 2305843009213691576) = true := beq_iff_eq.mpr c28
              have c28b1 : (t119 != 2305843009213691576) = false := bne_eq_false_iff_eq.mpr c28
              clear c28
              by_cases c29 : t102 = 1152921504606845790
              · rw [if_pos c29] at H
                have c29b0 : (t102 == 1152921504606845790) = true := beq_iff_eq.mpr c29
                have c29b1 : (t102 != 1152921504606845790) = false := bne_eq_false_iff_eq.mpr c29
                clear c29
                by_cases c30 : t103 = true
                · subst c30
                  have H1 : (if t105 = true then (some false) else (if x7_3 = true then (if x8_14 = true then ((group_AddQ.f 1152921504606845788 2).bind fun t120 => (if t120 = 1 then ((group_SubQ.f 0 1).bind fun t121 => (if t121 = 1152921504606845788 then ((group_MulQ.f 1152921504606845788 1152921504606845788).bind fun t122 => (if t122 = 1 then (some true) else (some false))) else (some false))) else (some false))) else (some false)) else (some false))) = some r := by rw [if_pos rfl] at H; exact H
                  clear H
                  have H := H1
                  clear H1
                  by_cases c31 : t105 = true
                  · subst c31
                    have H1 : (some false) = some r := by rw [if_pos rfl] at H; exact H
                    clear H
                    have H := H1
                    clear H1
                    obtain rfl := Option.some.inj H
                    go_wp2_with (first | ((with_reducible refine gate_callee (f := 11) rfl ?_); refine goesL_ (some 59) rfl rfl Try.func11 (by kernel_rfl) rfl #[.int .i64 2305843009213691578, .int .i64 2305843009213691578] rfl (by (try simp only [List.map_toArray, List.map_cons, List.map_nil]); first | done | rfl | (simp only [List.length_drop, List.length_take]; rfl)) ?_; (with_reducible refine (group_Mul.calls 2305843009213691578 2305843009213691578 t118 _ A25.out).mono ?_); rintro e w' ⟨rfl, ⟨nd, rfl⟩⟩; refine ⟨_, rfl, ?_⟩) | (go_at_call 11; (with_reducible refine (group_Mul.calls (-1) 3 t119 _ A27.out).mono ?_); rintro e w' ⟨rfl, ⟨nd, rfl⟩⟩))
                    go_ret
                    exact ⟨by first | rfl | (simp; done) | (simp [*]; done), by repeat (first | exact Drawn0.refl _ | apply Drawn0.step)⟩
                  · replace c31 := Bool.eq_false_iff.mpr c31
                    subst c31
                    have H1 : (if x7_3 = true then (if x8_14 = true then ((group_AddQ.f 1152921504606845788 2).bind fun t120 => (if t120 = 1 then ((group_SubQ.f 0 1).bind fun t121 => (if t121 = 1152921504606845788 then ((group_MulQ.f 1152921504606845788 1152921504606845788).bind fun t122 => (if t122 = 1 then (some true) else (some false))) else (some false))) else (some false))) else (some false)) else (some false)) = some r := by rw [if_neg (show ¬ (false = true) by decide)] at H; exact H
                    clear H
                    have H := H1
                    clear H1
                    by_cases c32 : x7_3 = true
                    · subst c32
                      have H1 : (if x8_14 = true then ((group_AddQ.f 1152921504606845788 2).bind fun t120 => (if t120 = 1 then ((group_SubQ.f 0 1).bind fun t121 => (if t121 = 1152921504606845788 then ((group_MulQ.f 1152921504606845788 1152921504606845788).bind fun t122 => (if t122 = 1 then (some true) else (some false))) else (some false))) else (some false))) else (some false)) = some r := by rw [if_pos rfl] at H; exact H
                      clear H
                      have H := H1
                      clear H1
                      by_cases c33 : x8_14 = true
                      · subst c33
                        have H1 : ((group_AddQ.f 1152921504606845788 2).bind fun t120 => (if t120 = 1 then ((group_SubQ.f 0 1).bind fun t121 => (if t121 = 1152921504606845788 then ((group_MulQ.f 1152921504606845788 1152921504606845788).bind fun t122 => (if t122 = 1 then (some true) else (some false))) else (some false))) else (some false))) = some r := by rw [if_pos rfl] at H; exact H
                        clear H
                        have H := H1
                        clear H1
                        replace H := Option.bind_eq_some_iff.mp H
                        obtain ⟨t120, A340, H⟩ := H
                        replace H : (if t120 = 1 then ((group_SubQ.f 0 1).bind fun t121 => (if t121 = 1152921504606845788 then ((group_MulQ.f 1152921504606845788 1152921504606845788).bind fun t122 => (if t122 = 1 then (some true) else (some false))) else (some false))) else (some false)) = some r := H
                        have A34 := Aside0.mk A340
                        clear A340
                        by_cases c35 : t120 = 1
                        · rw [if_pos c35] at H
                          have c35b0 : (t120 == 1) = true := beq_iff_eq.mpr c35
                          have c35b1 : (t120 != 1) = false := bne_eq_false_iff_eq.mpr c35
                          clear c35
                          replace H := Option.bind_eq_some_iff.mp H
                          obtain ⟨t121, A360, H⟩ := H
                          replace H : (if t121 = 1152921504606845788 then ((group_MulQ.f 1152921504606845788 1152921504606845788).bind fun t122 => (if t122 = 1 then (some true) else (some false))) else (some false)) = some r := H
                          have A36 := Aside0.mk A360
                          clear A360
                          by_cases c37 : t121 = 1152921504606845788
                          · rw [if_pos c37] at H
                            have c37b0 : (t121 == 1152921504606845788) = true := beq_iff_eq.mpr c37
                            have c37b1 : (t121 != 1152921504606845788) = false := bne_eq_false_iff_eq.mpr c37
                            clear c37
                            replace H := Option.bind_eq_some_iff.mp H
                            obtain ⟨t122, A380, H⟩ := H
                            replace H : (if t122 = 1 then (some true) else (some false)) = some r := H
                            have A38 := Aside0.mk A380
                            clear A380
                            by_cases c39 : t122 = 1
                            · rw [if_pos c39] at H
                              have c39b0 : (t122 == 1) = true := beq_iff_eq.mpr c39
                              have c39b1 : (t122 != 1) = false := bne_eq_false_iff_eq.mpr c39
                              clear c39
                              obtain rfl := Option.some.inj H
                              go_wp2_with (first | ((with_reducible refine gate_callee (f := 11) rfl ?_); refine goesL_ (some 59) rfl rfl Try.func11 (by kernel_rfl) rfl #[.int .i64 2305843009213691578, .int .i64 2305843009213691578] rfl (by (try simp only [List.map_toArray, List.map_cons, List.map_nil]); first | done | rfl | (simp only [List.length_drop, List.length_take]; rfl)) ?_; (with_reducible refine (group_Mul.calls 2305843009213691578 2305843009213691578 t118 _ A25.out).mono ?_); rintro e w' ⟨rfl, ⟨nd, rfl⟩⟩; refine ⟨_, rfl, ?_⟩) | (go_at_call 11; (with_reducible refine (group_Mul.calls (-1) 3 t119 _ A27.out).mono ?_); rintro e w' ⟨rfl, ⟨nd, rfl⟩⟩) | (go_at_call 17; (with_reducible refine (group_AddQ.calls 1152921504606845788 2 t120 _ A34.out).mono ?_); rintro e w' ⟨rfl, ⟨nd, rfl⟩⟩) | (go_at_call 19; (with_reducible refine (group_SubQ.calls 0 1 t121 _ A36.out).mono ?_); rintro e w' ⟨rfl, ⟨nd, rfl⟩⟩) | (go_at_call 21; (with_reducible refine (group_MulQ.calls 1152921504606845788 1152921504606845788 t122 _ A38.out).mono ?_); rintro e w' ⟨rfl, ⟨nd, rfl⟩⟩))
                              go_ret
                              exact ⟨by first | rfl | (simp; done) | (simp [*]; done), by repeat (first | exact Drawn0.refl _ | apply Drawn0.step)⟩
                            · rw [if_neg c39] at H
                              have c39b0 : (t122 == 1) = false := beq_eq_false_iff_ne.mpr c39
                              have c39b1 : (t122 != 1) = true := bne_iff_ne.mpr c39
                              obtain rfl := Option.some.inj H
                              go_wp2_with (first | ((with_reducible refine gate_callee (f := 11) rfl ?_); refine goesL_ (some 59) rfl rfl Try.func11 (by kernel_rfl) rfl #[.int .i64 2305843009213691578, .int .i64 2305843009213691578] rfl (by (try simp only [List.map_toArray, List.map_cons, List.map_nil]); first | done | rfl | (simp only [List.length_drop, List.length_take]; rfl)) ?_; (with_reducible refine (group_Mul.calls 2305843009213691578 2305843009213691578 t118 _ A25.out).mono ?_); rintro e w' ⟨rfl, ⟨nd, rfl⟩⟩; refine ⟨_, rfl, ?_⟩) | (go_at_call 11; (with_reducible refine (group_Mul.calls (-1) 3 t119 _ A27.out).mono ?_); rintro e w' ⟨rfl, ⟨nd, rfl⟩⟩) | (go_at_call 17; (with_reducible refine (group_AddQ.calls 1152921504606845788 2 t120 _ A34.out).mono ?_); rintro e w' ⟨rfl, ⟨nd, rfl⟩⟩) | (go_at_call 19; (with_reducible refine (group_SubQ.calls 0 1 t121 _ A36.out).mono ?_); rintro e w' ⟨rfl, ⟨nd, rfl⟩⟩) | (go_at_call 21; (with_reducible refine (group_MulQ.calls 1152921504606845788 1152921504606845788 t122 _ A38.out).mono ?_); rintro e w' ⟨rfl, ⟨nd, rfl⟩⟩))
                              go_ret
                              exact ⟨by first | rfl | (simp; done) | (simp [*]; done), by repeat (first | exact Drawn0.refl _ | apply Drawn0.step)⟩
                          · rw [if_neg c37] at H
                            have c37b0 : (t121 == 1152921504606845788) = false := beq_eq_false_iff_ne.mpr c37
                            have c37b1 : (t121 != 1152921504606845788) = true := bne_iff_ne.mpr c37
                            obtain rfl := Option.some.inj H
                            go_wp2_with (first | ((with_reducible refine gate_callee (f := 11) rfl ?_); refine goesL_ (some 59) rfl rfl Try.func11 (by kernel_rfl) rfl #[.int .i64 2305843009213691578, .int .i64 2305843009213691578] rfl (by (try simp only [List.map_toArray, List.map_cons, List.map_nil]); first | done | rfl | (simp only [List.length_drop, List.length_take]; rfl)) ?_; (with_reducible refine (group_Mul.calls 2305843009213691578 2305843009213691578 t118 _ A25.out).mono ?_); rintro e w' ⟨rfl, ⟨nd, rfl⟩⟩; refine ⟨_, rfl, ?_⟩) | (go_at_call 11; (with_reducible refine (group_Mul.calls (-1) 3 t119 _ A27.out).mono ?_); rintro e w' ⟨rfl, ⟨nd, rfl⟩⟩) | (go_at_call 17; (with_reducible refine (group_AddQ.calls 1152921504606845788 2 t120 _ A34.out).mono ?_); rintro e w' ⟨rfl, ⟨nd, rfl⟩⟩) | (go_at_call 19; (with_reducible refine (group_SubQ.calls 0 1 t121 _ A36.out).mono ?_); rintro e w' ⟨rfl, ⟨nd, rfl⟩⟩))
                            go_ret
                            exact ⟨by first | rfl | (simp; done) | (simp [*]; done), by repeat (first | exact Drawn0.refl _ | apply Drawn0.step)⟩
                        · rw [if_neg c35] at H
                          have c35b0 : (t120 == 1) = false := beq_eq_false_iff_ne.mpr c35
                          have c35b1 : (t120 != 1) = true := bne_iff_ne.mpr c35
                          obtain rfl := Option.some.inj H
                          go_wp2_with (first | ((with_reducible refine gate_callee (f := 11) rfl ?_); refine goesL_ (some 59) rfl rfl Try.func11 (by kernel_rfl) rfl #[.int .i64 2305843009213691578, .int .i64 2305843009213691578] rfl (by (try simp only [List.map_toArray, List.map_cons, List.map_nil]); first | done | rfl | (simp only [List.length_drop, List.length_take]; rfl)) ?_; (with_reducible refine (group_Mul.calls 2305843009213691578 2305843009213691578 t118 _ A25.out).mono ?_); rintro e w' ⟨rfl, ⟨nd, rfl⟩⟩; refine ⟨_, rfl, ?_⟩) | (go_at_call 11; (with_reducible refine (group_Mul.calls (-1) 3 t119 _ A27.out).mono ?_); rintro e w' ⟨rfl, ⟨nd, rfl⟩⟩) | (go_at_call 17; (with_reducible refine (group_AddQ.calls 1152921504606845788 2 t120 _ A34.out).mono ?_); rintro e w' ⟨rfl, ⟨nd, rfl⟩⟩))
                          go_ret
                          exact ⟨by first | rfl | (simp; done) | (simp [*]; done), by repeat (first | exact Drawn0.refl _ | apply Drawn0.step)⟩
                      · replace c33 := Bool.eq_false_iff.mpr c33
                        subst c33
                        have H1 : (some false) = some r := by rw [if_neg (show ¬ (false = true) by decide)] at H; exact H
                        clear H
                        have H := H1
                        clear H1
                        obtain rfl := Option.some.inj H
                        go_wp2_with (first | ((with_reducible refine gate_callee (f := 11) rfl ?_); refine goesL_ (some 59) rfl rfl Try.func11 (by kernel_rfl) rfl #[.int .i64 2305843009213691578, .int .i64 2305843009213691578] rfl (by (try simp only [List.map_toArray, List.map_cons, List.map_nil]); first | done | rfl | (simp only [List.length_drop, List.length_take]; rfl)) ?_; (with_reducible refine (group_Mul.calls 2305843009213691578 2305843009213691578 t118 _ A25.out).mono ?_); rintro e w' ⟨rfl, ⟨nd, rfl⟩⟩; refine ⟨_, rfl, ?_⟩) | (go_at_call 11; (with_reducible refine (group_Mul.calls (-1) 3 t119 _ A27.out).mono ?_); rintro e w' ⟨rfl, ⟨nd, rfl⟩⟩))
                        go_ret
                        exact ⟨by first | rfl | (simp; done) | (simp [*]; done), by repeat (first | exact Drawn0.refl _ | apply Drawn0.step)⟩
                    · replace c32 := Bool.eq_false_iff.mpr c32
                      subst c32
                      have H1 : (some false) = some r := by rw [if_neg (show ¬ (false = true) by decide)] at H; exact H
                      clear H
                      have H := H1
                      clear H1
                      obtain rfl := Option.some.inj H
                      go_wp2_with (first | ((with_reducible refine gate_callee (f := 11) rfl ?_); refine goesL_ (some 59) rfl rfl Try.func11 (by kernel_rfl) rfl #[.int .i64 2305843009213691578, .int .i64 2305843009213691578] rfl (by (try simp only [List.map_toArray, List.map_cons, List.map_nil]); first | done | rfl | (simp only [List.length_drop, List.length_take]; rfl)) ?_; (with_reducible refine (group_Mul.calls 2305843009213691578 2305843009213691578 t118 _ A25.out).mono ?_); rintro e w' ⟨rfl, ⟨nd, rfl⟩⟩; refine ⟨_, rfl, ?_⟩) | (go_at_call 11; (with_reducible refine (group_Mul.calls (-1) 3 t119 _ A27.out).mono ?_); rintro e w' ⟨rfl, ⟨nd, rfl⟩⟩))
                      go_ret
                      exact ⟨by first | rfl | (simp; done) | (simp [*]; done), by repeat (first | exact Drawn0.refl _ | apply Drawn0.step)⟩
                · replace c30 := Bool.eq_false_iff.mpr c30
                  subst c30
                  have H1 : (some false) = some r := by rw [if_neg (show ¬ (false = true) by decide)] at H; exact H
                  clear H
                  have H := H1
                  clear H1
                  obtain rfl := Option.some.inj H
                  go_wp2_with (first | ((with_reducible refine gate_callee (f := 11) rfl ?_); refine goesL_ (some 59) rfl rfl Try.func11 (by kernel_rfl) rfl #[.int .i64 2305843009213691578, .int .i64 2305843009213691578] rfl (by (try simp only [List.map_toArray, List.map_cons, List.map_nil]); first | done | rfl | (simp only [List.length_drop, List.length_take]; rfl)) ?_; (with_reducible refine (group_Mul.calls 2305843009213691578 2305843009213691578 t118 _ A25.out).mono ?_); rintro e w' ⟨rfl, ⟨nd, rfl⟩⟩; refine ⟨_, rfl, ?_⟩) | (go_at_call 11; (with_reducible refine (group_Mul.calls (-1) 3 t119 _ A27.out).mono ?_); rintro e w' ⟨rfl, ⟨nd, rfl⟩⟩))
                  go_ret
                  exact ⟨by first | rfl | (simp; done) | (simp [*]; done), by repeat (first | exact Drawn0.refl _ | apply Drawn0.step)⟩
              · rw [if_neg c29] at H
                have c29b0 : (t102 == 1152921504606845790) = false := beq_eq_false_iff_ne.mpr c29
                have c29b1 : (t102 != 1152921504606845790) = true := bne_iff_ne.mpr c29
                obtain rfl := Option.some.inj H
                go_wp2_with (first | ((with_reducible refine gate_callee (f := 11) rfl ?_); refine goesL_ (some 59) rfl rfl Try.func11 (by kernel_rfl) rfl #[.int .i64 2305843009213691578, .int .i64 2305843009213691578] rfl (by (try simp only [List.map_toArray, List.map_cons, List.map_nil]); first | done | rfl | (simp only [List.length_drop, List.length_take]; rfl)) ?_; (with_reducible refine (group_Mul.calls 2305843009213691578 2305843009213691578 t118 _ A25.out).mono ?_); rintro e w' ⟨rfl, ⟨nd, rfl⟩⟩; refine ⟨_, rfl, ?_⟩) | (go_at_call 11; (with_reducible refine (group_Mul.calls (-1) 3 t119 _ A27.out).mono ?_); rintro e w' ⟨rfl, ⟨nd, rfl⟩⟩))
                go_ret
                exact ⟨by first | rfl | (simp; done) | (simp [*]; done), by repeat (first | exact Drawn0.refl _ | apply Drawn0.step)⟩
            · rw [if_neg c28] at H
              have c28b0 : (t119 == 2305843009213691576) = false := beq_eq_false_iff_ne.mpr c28
              have c28b1 : (t119 != 2305843009213691576) = true := bne_iff_ne.mpr c28
              obtain rfl := Option.some.inj H
              go_wp2_with (first | ((with_reducible refine gate_callee (f := 11) rfl ?_); refine goesL_ (some 59) rfl rfl Try.func11 (by kernel_rfl) rfl #[.int .i64 2305843009213691578, .int .i64 2305843009213691578] rfl (by (try simp only [List.map_toArray, List.map_cons, List.map_nil]); first | done | rfl | (simp only [List.length_drop, List.length_take]; rfl)) ?_; (with_reducible refine (group_Mul.calls 2305843009213691578 2305843009213691578 t118 _ A25.out).mono ?_); rintro e w' ⟨rfl, ⟨nd, rfl⟩⟩; refine ⟨_, rfl, ?_⟩) | (go_at_call 11; (with_reducible refine (group_Mul.calls (-1) 3 t119 _ A27.out).mono ?_); rintro e w' ⟨rfl, ⟨nd, rfl⟩⟩))
              go_ret
              exact ⟨by first | rfl | (simp; done) | (simp [*]; done), by repeat (first | exact Drawn0.refl _ | apply Drawn0.step)⟩
          · rw [if_neg c26] at H
            have c26b0 : (t118 == 1) = false := beq_eq_false_iff_ne.mpr c26
            have c26b1 : (t118 != 1) = true := bne_iff_ne.mpr c26
            obtain rfl := Option.some.inj H
            go_wp2_with (first | ((with_reducible refine gate_callee (f := 11) rfl ?_); refine goesL_ (some 59) rfl rfl Try.func11 (by kernel_rfl) rfl #[.int .i64 2305843009213691578, .int .i64 2305843009213691578] rfl (by (try simp only [List.map_toArray, List.map_cons, List.map_nil]); first | done | rfl | (simp only [List.length_drop, List.length_take]; rfl)) ?_; (with_reducible refine (group_Mul.calls 2305843009213691578 2305843009213691578 t118 _ A25.out).mono ?_); rintro e w' ⟨rfl, ⟨nd, rfl⟩⟩; refine ⟨_, rfl, ?_⟩))
            go_ret
            exact ⟨by first | rfl | (simp; done) | (simp [*]; done), by repeat (first | exact Drawn0.refl _ | apply Drawn0.step)⟩

/-- THE ONE PURE STATEMENT of bournelaw04_small: yours. -/
def bournelaw04_small.Pure : Prop := ∃ k, bournelaw04_small.f k  = some true
theorem bournelaw04_small.walk (P : bournelaw04_small.Pure)  (w : World)  :
    Calls Try.prog 8 #[] w fun e w' => e = .returned (.bool true) ∧ Below w.heap.size w w' := by
  obtain ⟨k, h⟩ := P  
  refine (bournelaw04_small.calls k  true w h).mono ?_
  rintro e w' ⟨rfl, hd⟩
  exact ⟨rfl, hd.below⟩

/-! ### bourneref04_In: function 16 -/
def bourneref04_In.f (a0 : Int) : Option (Bool) := if a0 ≥ 1 then (if a0 < 2305843009213691579 then ((bourneref04_Exp.f a0 1152921504606845789).bind fun t123 => (some (t123 == 1))) else (some false)) else (some false)
set_option maxHeartbeats 8000000 in
set_option maxRecDepth 100000 in
theorem bourneref04_In.calls (a0 : Int) (r : Bool) (w : World) (h : bourneref04_In.f a0 = some r) :
    Calls Try.prog 16 #[.int .i64 a0] w fun e w' => e = .returned (.bool r) ∧ Drawn0 w w' := by
  have H : (if a0 ≥ 1 then (if a0 < 2305843009213691579 then ((bourneref04_Exp.f a0 1152921504606845789).bind fun t123 => (some (t123 == 1))) else (some false)) else (some false)) = some r := h
  clear h
  by_cases c2 : a0 ≥ 1
  · rw [if_pos c2] at H
    have c2b0 : decide (1 ≤ a0) = true := decide_eq_true c2
    clear c2
    by_cases c3 : a0 < 2305843009213691579
    · rw [if_pos c3] at H
      have c3b0 : decide (a0 < 2305843009213691579) = true := decide_eq_true c3
      clear c3
      replace H := Option.bind_eq_some_iff.mp H
      obtain ⟨t123, A40, H⟩ := H
      replace H : (some (t123 == 1)) = some r := H
      have A4 := Aside0.mk A40
      clear A40
      obtain rfl := Option.some.inj H
      go_enter Try.func16, Try.ntmps16
      go_wp2_with (first | (go_at_call 14; (with_reducible refine (bourneref04_Exp.calls a0 1152921504606845789 t123 _ A4.out).mono ?_); rintro e w' ⟨rfl, ⟨nd, rfl⟩⟩))
      go_ret
      exact ⟨by first | rfl | (simp; done) | (simp [*]; done), by repeat (first | exact Drawn0.refl _ | apply Drawn0.step)⟩
    · rw [if_neg c3] at H
      have c3b0 : decide (a0 < 2305843009213691579) = false := decide_eq_false c3
      clear c3
      obtain rfl := Option.some.inj H
      go_enter Try.func16, Try.ntmps16
      go_wp2
      go_ret
      exact ⟨by first | rfl | (simp; done) | (simp [*]; done), by repeat (first | exact Drawn0.refl _ | apply Drawn0.step)⟩
  · rw [if_neg c2] at H
    have c2b0 : decide (1 ≤ a0) = false := decide_eq_false c2
    clear c2
    obtain rfl := Option.some.inj H
    go_enter Try.func16, Try.ntmps16
    go_wp2
    go_ret
    exact ⟨by first | rfl | (simp; done) | (simp [*]; done), by repeat (first | exact Drawn0.refl _ | apply Drawn0.step)⟩

/-- THE ONE PURE STATEMENT of bourneref04_In: yours. -/
def bourneref04_In.Pure : Prop := ∀ (a0 : Int), (Lit.int .i64 a0).wf = true → bourneref04_In.f a0 = some true
theorem bourneref04_In.walk (P : bourneref04_In.Pure) (a0 : Int) (w : World) (w0 : (Lit.int .i64 a0).wf = true) :
    Calls Try.prog 16 #[.int .i64 a0] w fun e w' => e = .returned (.bool true) ∧ Below w.heap.size w w' := by
  have h := P a0 w0
  refine (bourneref04_In.calls a0 true w h).mono ?_
  rintro e w' ⟨rfl, hd⟩
  exact ⟨rfl, hd.below⟩

end Go.Proofs.Ytgakeihdnlmeaaa.L
