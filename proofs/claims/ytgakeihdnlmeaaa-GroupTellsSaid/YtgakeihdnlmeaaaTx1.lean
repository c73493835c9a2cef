-- Written by a program of this session (wip/tools/pp.py) out of the translation; Lean checks it.
import Derived.Test.YtgakeihdnlmeaaaTx0
namespace Go.Proofs.Ytgakeihdnlmeaaa.T
open Go.RowKit Go.Proofs.YtgakeihdnlmeaaaW.PrintWords Go.Proofs.YtgakeihdnlmeaaaW.PrintLast Go.Proofs.YtgakeihdnlmeaaaW.PrintMore
open Go.Proofs.Ytgakeihdnlmeaaa.S
attribute [local go_sem] max2_int min2_int max_two min_two max_three min_three max_four min_four   -- for this text's walks alone
set_option linter.unusedVariables false
set_option linter.unusedSimpArgs false

/-! ### bournelaw04_GroupTells: function 3 -/
def bournelaw04_GroupTells.j0 : Nat → Int → Int → Bool → Bool → Option (Bool)
  | 0, _, _, _, _ => none
  | k + 1, x0, x1, x5, x53 => if x53 = true then (some false) else (if x5 = true then ((group_AddQ.f x0 x1).bind fun t112 => ((bourneref04_AddQ.f x0 x1).bind fun t113 => (if t112 = t113 then ((group_SubQ.f x0 x1).bind fun t114 => ((bourneref04_SubQ.f x0 x1).bind fun t115 => (if t114 = t115 then ((group_MulQ.f x0 x1).bind fun t116 => ((bourneref04_MulQ.f x0 x1).bind fun t117 => (some (t116 == t117)))) else (some false)))) else (some false)))) else (some false))
def bournelaw04_GroupTells.f (k : Nat) (a0 : Int) (a1 : Int) : Option (Bool) := (bournelaw04_small.f).bind fun t101 => ((group_Inv.f a0).bind fun bt102 => ((bourneref04_Inv.f a0).bind fun bt104 => (if bt102.1 = bt104.1 then (if (bt102.2 != bt104.2) = true then (bournelaw04_GroupTells.j0 k a0 a1 t101 true) else ((group_Mul.f a0 a1).bind fun t106 => ((bourneref04_Mul.f a0 a1).bind fun t107 => (if t106 = t107 then ((group_Exp.f a0 a1).bind fun t108 => ((bourneref04_Exp.f a0 a1).bind fun t109 => (if t108 = t109 then ((group_In.f a0).bind fun t110 => ((bourneref04_In.f a0).bind fun t111 => (bournelaw04_GroupTells.j0 k a0 a1 t101 (t110 != t111)))) else (bournelaw04_GroupTells.j0 k a0 a1 t101 true)))) else (bournelaw04_GroupTells.j0 k a0 a1 t101 true))))) else (bournelaw04_GroupTells.j0 k a0 a1 t101 true))))
theorem bournelaw04_GroupTells.mono_l : ∀ k, (∀ y0 y1 y2 y3, LeO (bournelaw04_GroupTells.j0 k y0 y1 y2 y3) (bournelaw04_GroupTells.j0 (k + 1) y0 y1 y2 y3))
  | 0 => fun _ _ _ _ r h => by simp [bournelaw04_GroupTells.j0] at h
  | k + 1 => by
    have ih0 := bournelaw04_GroupTells.mono_l k
    · intro y0 y1 y2 y3
      unfold bournelaw04_GroupTells.j0
      repeat' first
      | (with_reducible exact ih0 _ _ _ _)
      | (with_reducible exact LeO.refl _)
      | (with_reducible exact LeO.none _)
      | (with_reducible refine LeO.ite ?_ ?_)
      | (with_reducible refine LeO.bind ?_ (fun _ => ?_))
      | exact ih0 _ _ _ _
      | exact LeO.none _
      | refine LeO.ite ?_ ?_
      | refine LeO.bind ?_ (fun _ => ?_)
theorem bournelaw04_GroupTells.mono : ∀ a0 a1 k, LeO (bournelaw04_GroupTells.f k a0 a1) (bournelaw04_GroupTells.f (k + 1) a0 a1) := by
  intro a0 a1 k
  have ih0 := bournelaw04_GroupTells.mono_l k
  unfold bournelaw04_GroupTells.f
  repeat' first
      | (with_reducible exact ih0 _ _ _ _)
      | (with_reducible exact LeO.refl _)
      | (with_reducible exact LeO.none _)
      | (with_reducible refine LeO.ite ?_ ?_)
      | (with_reducible refine LeO.bind ?_ (fun _ => ?_))
      | exact ih0 _ _ _ _
      | exact LeO.none _
      | refine LeO.ite ?_ ?_
      | refine LeO.bind ?_ (fun _ => ?_)
set_option maxHeartbeats 8000000 in
set_option maxRecDepth 100000 in
theorem bournelaw04_GroupTells.calls (k : Nat) (a0 : Int) (a1 : Int) (r : Bool) (w : World) (h : bournelaw04_GroupTells.f k a0 a1 = some r) :
    Calls Try.prog 3 #[.int .i64 a0, .int .i64 a1] w fun e w' => e = .returned (.bool r) ∧ Drawn0 w w' := by
  have H : ((bournelaw04_small.f).bind fun t101 => ((group_Inv.f a0).bind fun bt102 => ((bourneref04_Inv.f a0).bind fun bt104 => (if bt102.1 = bt104.1 then (if (bt102.2 != bt104.2) = true then (bournelaw04_GroupTells.j0 k a0 a1 t101 true) else ((group_Mul.f a0 a1).bind fun t106 => ((bourneref04_Mul.f a0 a1).bind fun t107 => (if t106 = t107 then ((group_Exp.f a0 a1).bind fun t108 => ((bourneref04_Exp.f a0 a1).bind fun t109 => (if t108 = t109 then ((group_In.f a0).bind fun t110 => ((bourneref04_In.f a0).bind fun t111 => (bournelaw04_GroupTells.j0 k a0 a1 t101 (t110 != t111)))) else (bournelaw04_GroupTells.j0 k a0 a1 t101 true)))) else (bournelaw04_GroupTells.j0 k a0 a1 t101 true))))) else (bournelaw04_GroupTells.j0 k a0 a1 t101 true))))) = some r := h
  clear h
  replace H := Option.bind_eq_some_iff.mp H
  obtain ⟨t101, A30, H⟩ := H
  replace H : ((group_Inv.f a0).bind fun bt102 => ((bourneref04_Inv.f a0).bind fun bt104 => (if bt102.1 = bt104.1 then (if (bt102.2 != bt104.2) = true then (bournelaw04_GroupTells.j0 k a0 a1 t101 true) else ((group_Mul.f a0 a1).bind fun t106 => ((bourneref04_Mul.f a0 a1).bind fun t107 => (if t106 = t107 then ((group_Exp.f a0 a1).bind fun t108 => ((bourneref04_Exp.f a0 a1).bind fun t109 => (if t108 = t109 then ((group_In.f a0).bind fun t110 => ((bourneref04_In.f a0).bind fun t111 => (bournelaw04_GroupTells.j0 k a0 a1 t101 (t110 != t111)))) else (bournelaw04_GroupTells.j0 k a0 a1 t101 true)))) else (bournelaw04_GroupTells.j0 k a0 a1 t101 true))))) else (bournelaw04_GroupTells.j0 k a0 a1 t101 true)))) = some r := H
  have A3 := Aside0.mk A30
  clear A30
  replace H := Option.bind_eq_some_iff.mp H
  obtain ⟨⟨t102, t103⟩, A40, H⟩ := H
  replace H : ((bourneref04_Inv.f a0).bind fun bt104 => (if t102 = bt104.1 then (if (t103 != bt104.2) = true then (bournelaw04_GroupTells.j0 k a0 a1 t101 true) else ((group_Mul.f a0 a1).bind fun t106 => ((bourneref04_Mul.f a0 a1).bind fun t107 => (if t106 = t107 then ((group_Exp.f a0 a1).bind fun t108 => ((bourneref04_Exp.f a0 a1).bind fun t109 => (if t108 = t109 then ((group_In.f a0).bind fun t110 => ((bourneref04_In.f a0).bind fun t111 => (bournelaw04_GroupTells.j0 k a0 a1 t101 (t110 != t111)))) else (bournelaw04_GroupTells.j0 k a0 a1 t101 true)))) else (bournelaw04_GroupTells.j0 k a0 a1 t101 true))))) else (bournelaw04_GroupTells.j0 k a0 a1 t101 true))) = some r := H
  have A4 := Aside0.mk A40
  clear A40
  replace H := Option.bind_eq_some_iff.mp H
  obtain ⟨⟨t104, t105⟩, A50, H⟩ := H
  replace H : (if t102 = t104 then (if (t103 != t105) = true then (bournelaw04_GroupTells.j0 k a0 a1 t101 true) else ((group_Mul.f a0 a1).bind fun t106 => ((bourneref04_Mul.f a0 a1).bind fun t107 => (if t106 = t107 then ((group_Exp.f a0 a1).bind fun t108 => ((bourneref04_Exp.f a0 a1).bind fun t109 => (if t108 = t109 then ((group_In.f a0).bind fun t110 => ((bourneref04_In.f a0).bind fun t111 => (bournelaw04_GroupTells.j0 k a0 a1 t101 (t110 != t111)))) else (bournelaw04_GroupTells.j0 k a0 a1 t101 true)))) else (bournelaw04_GroupTells.j0 k a0 a1 t101 true))))) else (bournelaw04_GroupTells.j0 k a0 a1 t101 true)) = some r := H
  have A5 := Aside0.mk A50
  clear A50
  have HC6 := Aside0.mk H
  clear H
  go_enter Try.func3, Try.ntmps3
  go_upto_region 4 with (first | ((with_reducible refine gate_callee (f := 8) rfl ?_); refine goesL_ (some 10) rfl rfl Try.func8 (by kernel_rfl) rfl #[] rfl (by (try simp only [List.map_toArray, List.map_cons, List.map_nil]); first | done | rfl | (simp only [List.length_drop, List.length_take]; rfl)) ?_; (with_reducible refine (bournelaw04_small.calls  t101 _ A3.out).mono ?_); rintro e w' ⟨rfl, ⟨nd, rfl⟩⟩; refine ⟨_, rfl, ?_⟩) | ((with_reducible refine gate_callee (f := 9) rfl ?_); refine goesL_ (some 13) rfl rfl Try.func9 (by kernel_rfl) rfl #[.int .i64 a0] rfl (by (try simp only [List.map_toArray, List.map_cons, List.map_nil]); first | done | rfl | (simp only [List.length_drop, List.length_take]; rfl)) ?_; (with_reducible refine (group_Inv.calls a0 t102 t103 _ A4.out).mono ?_); rintro e w' ⟨rfl, ⟨nd, rfl⟩⟩; refine ⟨_, rfl, ?_⟩) | ((with_reducible refine gate_callee (f := 10) rfl ?_); refine goesL_ (some 18) rfl rfl Try.func10 (by kernel_rfl) rfl #[.int .i64 a0] rfl (by (try simp only [List.map_toArray, List.map_cons, List.map_nil]); first | done | rfl | (simp only [List.length_drop, List.length_take]; rfl)) ?_; (with_reducible refine (bourneref04_Inv.calls a0 t104 t105 _ A5.out).mono ?_); rintro e w' ⟨rfl, ⟨nd, rfl⟩⟩; refine ⟨_, rfl, ?_⟩))
  (try simp only [Act.put, List.setIfInBounds_toArray, List.set_cons_zero, List.set_cons_succ])
  go_cut [53] (fun v53 wc => ∃ (kq : Nat) (x53_5 : Bool), v53 = .bool x53_5 ∧ Aside0 (bournelaw04_GroupTells.j0 kq a0 a1 t101 x53_5 = some r) ∧ Aside0 (kq ≤ k) ∧ Drawn0 w wc)
  case first =>
    have H := HC6.out
    clear HC6
    by_cases c7 : t102 = t104
    · rw [if_pos c7] at H
      have c7b0 : (t102 == t104) = true := beq_iff_eq.mpr c7
      have c7b1 : (t102 != t104) = false := bne_eq_false_iff_eq.mpr c7
      clear c7
      (first | rw [c7b0] | (simp only [i64_w, i32_w]; rw [c7b0]) | skip)
      by_cases c8 : (t103 != t105) = true
      · rw [if_pos c8] at H
        have c8b0 : (t103 != t105) = true := c8
        (try (have c8b1 : decide (t103 = t105) = false := by simpa using c8))
        (try (have c8b2 : (t103 == t105) = false := by simpa using c8))
        (try (have c8b3 : ¬ (t103 = t105) := by simpa using c8))
        clear c8
        have H' := Aside0.mk H
        clear H
        go_wp2
        go_meet
        case rel => exact ⟨_, (true), (by first | rfl | (simp; done) | (simp [*]; done)), H', ⟨by first | omega | exact Nat.le_refl _⟩, by repeat (first | exact Drawn0.refl _ | apply Drawn0.step)⟩
      · rw [if_neg c8] at H
        have c8b0 : (t103 != t105) = false := by simpa using c8
        (try (have c8b1 : decide (t103 = t105) = true := by simpa using c8))
        (try (have c8b2 : (t103 == t105) = true := by simpa using c8))
        clear c8
        replace H := Option.bind_eq_some_iff.mp H
        obtain ⟨t106, A90, H⟩ := H
        replace H : ((bourneref04_Mul.f a0 a1).bind fun t107 => (if t106 = t107 then ((group_Exp.f a0 a1).bind fun t108 => ((bourneref04_Exp.f a0 a1).bind fun t109 => (if t108 = t109 then ((group_In.f a0).bind fun t110 => ((bourneref04_In.f a0).bind fun t111 => (bournelaw04_GroupTells.j0 k a0 a1 t101 (t110 != t111)))) else (bournelaw04_GroupTells.j0 k a0 a1 t101 true)))) else (bournelaw04_GroupTells.j0 k a0 a1 t101 true))) = some r := H
        have A9 := Aside0.mk A90
        clear A90
        replace H := Option.bind_eq_some_iff.mp H
        obtain ⟨t107, A100, H⟩ := H
        replace H : (if t106 = t107 then ((group_Exp.f a0 a1).bind fun t108 => ((bourneref04_Exp.f a0 a1).bind fun t109 => (if t108 = t109 then ((group_In.f a0).bind fun t110 => ((bourneref04_In.f a0).bind fun t111 => (bournelaw04_GroupTells.j0 k a0 a1 t101 (t110 != t111)))) else (bournelaw04_GroupTells.j0 k a0 a1 t101 true)))) else (bournelaw04_GroupTells.j0 k a0 a1 t101 true)) = some r := H
        have A10 := Aside0.mk A100
        clear A100
        by_cases c11 : t106 = t107
        · rw [if_pos c11] at H
          have c11b0 : (t106 == t107) = true := beq_iff_eq.mpr c11
          have c11b1 : (t106 != t107) = false := bne_eq_false_iff_eq.mpr c11
          clear c11
          replace H := Option.bind_eq_some_iff.mp H
          obtain ⟨t108, A120, H⟩ := H
          replace H : ((bourneref04_Exp.f a0 a1).bind fun t109 => (if t108 = t109 then ((group_In.f a0).bind fun t110 => ((bourneref04_In.f a0).bind fun t111 => (bournelaw04_GroupTells.j0 k a0 a1 t101 (t110 != t111)))) else (bournelaw04_GroupTells.j0 k a0 a1 t101 true))) = some r := H
          have A12 := Aside0.mk A120
          clear A120
          replace H := Option.bind_eq_some_iff.mp H
          obtain ⟨t109, A130, H⟩ := H
          replace H : (if t108 = t109 then ((group_In.f a0).bind fun t110 => ((bourneref04_In.f a0).bind fun t111 => (bournelaw04_GroupTells.j0 k a0 a1 t101 (t110 != t111)))) else (bournelaw04_GroupTells.j0 k a0 a1 t101 true)) = some r := H
          have A13 := Aside0.mk A130
          clear A130
          by_cases c14 : t108 = t109
          · rw [if_pos c14] at H
            have c14b0 : (t108 == t109) = true := beq_iff_eq.mpr c14
            have c14b1 : (t108 != t109) = false := bne_eq_false_iff_eq.mpr c14
            clear c14
            replace H := Option.bind_eq_some_iff.mp H
            obtain ⟨t110, A150, H⟩ := H
            replace H : ((bourneref04_In.f a0).bind fun t111 => (bournelaw04_GroupTells.j0 k a0 a1 t101 (t110 != t111))) = some r := H
            have A15 := Aside0.mk A150
            clear A150
            replace H := Option.bind_eq_some_iff.mp H
            obtain ⟨t111, A160, H⟩ := H
            replace H : (bournelaw04_GroupTells.j0 k a0 a1 t101 (t110 != t111)) = some r := H
            have A16 := Aside0.mk A160
            clear A160
            have H' := Aside0.mk H
            clear H
            go_wp2_with (first | (go_at_call 11; (with_reducible refine (group_Mul.calls a0 a1 t106 _ A9.out).mono ?_); rintro e w' ⟨rfl, ⟨nd, rfl⟩⟩) | (go_at_call 12; (with_reducible refine (bourneref04_Mul.calls a0 a1 t107 _ A10.out).mono ?_); rintro e w' ⟨rfl, ⟨nd, rfl⟩⟩) | (go_at_call 13; (with_reducible refine (group_Exp.calls a0 a1 t108 _ A12.out).mono ?_); rintro e w' ⟨rfl, ⟨nd, rfl⟩⟩) | (go_at_call 14; (with_reducible refine (bourneref04_Exp.calls a0 a1 t109 _ A13.out).mono ?_); rintro e w' ⟨rfl, ⟨nd, rfl⟩⟩) | (go_at_call 15; (with_reducible refine (group_In.calls a0 t110 _ A15.out).mono ?_); rintro e w' ⟨rfl, ⟨nd, rfl⟩⟩) | (go_at_call 16; (with_reducible refine (bourneref04_In.calls a0 t111 _ A16.out).mono ?_); rintro e w' ⟨rfl, ⟨nd, rfl⟩⟩))
            go_meet
            case rel => exact ⟨_, ((t110 != t111)), (by first | rfl | (simp; done) | (simp [*]; done)), H', ⟨by first | omega | exact Nat.le_refl _⟩, by repeat (first | exact Drawn0.refl _ | apply Drawn0.step)⟩
          · rw [if_neg c14] at H
            have c14b0 : (t108 == t109) = false := beq_eq_false_iff_ne.mpr c14
            have c14b1 : (t108 != t109) = true := bne_iff_ne.mpr c14
            have H' := Aside0.mk H
            clear H
            go_wp2_with (first | (go_at_call 11; (with_reducible refine (group_Mul.calls a0 a1 t106 _ A9.out).mono ?_); rintro e w' ⟨rfl, ⟨nd, rfl⟩⟩) | (go_at_call 12; (with_reducible refine (bourneref04_Mul.calls a0 a1 t107 _ A10.out).mono ?_); rintro e w' ⟨rfl, ⟨nd, rfl⟩⟩) | (go_at_call 13; (with_reducible refine (group_Exp.calls a0 a1 t108 _ A12.out).mono ?_); rintro e w' ⟨rfl, ⟨nd, rfl⟩⟩) | (go_at_call 14; (with_reducible refine (bourneref04_Exp.calls a0 a1 t109 _ A13.out).mono ?_); rintro e w' ⟨rfl, ⟨nd, rfl⟩⟩))
            go_meet
            case rel => exact ⟨_, (true), (by first | rfl | (simp; done) | (simp [*]; done)), H', ⟨by first | omega | exact Nat.le_refl _⟩, by repeat (first | exact Drawn0.refl _ | apply Drawn0.step)⟩
        · rw [if_neg c11] at H
          have c11b0 : (t106 == t107) = false := beq_eq_false_iff_ne.mpr c11
          have c11b1 : (t106 != t107) = true := bne_iff_ne.mpr c11
          have H' := Aside0.mk H
          clear H
          go_wp2_with (first | (go_at_call 11; (with_reducible refine (group_Mul.calls a0 a1 t106 _ A9.out).mono ?_); rintro e w' ⟨rfl, ⟨nd, rfl⟩⟩) | (go_at_call 12; (with_reducible refine (bourneref04_Mul.calls a0 a1 t107 _ A10.out).mono ?_); rintro e w' ⟨rfl, ⟨nd, rfl⟩⟩))
          go_meet
          case rel => exact ⟨_, (true), (by first | rfl | (simp; done) | (simp [*]; done)), H', ⟨by first | omega | exact Nat.le_refl _⟩, by repeat (first | exact Drawn0.refl _ | apply Drawn0.step)⟩
    · rw [if_neg c7] at H
      have c7b0 : (t102 == t104) = false := beq_eq_false_iff_ne.mpr c7
      have c7b1 : (t102 != t104) = true := bne_iff_ne.mpr c7
      (first | rw [c7b0] | (simp only [i64_w, i32_w]; rw [c7b0]) | skip)
      have H' := Aside0.mk H
      clear H
      go_wp2
      go_meet
      case rel => exact ⟨_, (true), (by first | rfl | (simp; done) | (simp [*]; done)), H', ⟨by first | omega | exact Nat.le_refl _⟩, by repeat (first | exact Drawn0.refl _ | apply Drawn0.step)⟩
  case rest =>
    clear HC6
    try clear c1
    try clear p2
    try clear c3
    try clear c7
    try clear c7b0
    try clear c7b1
    try clear c8
    try clear c8b0
    try clear c8b1
    try clear c8b2
    try clear c9
    try clear c10
    try clear c11
    try clear c11b0
    try clear c11b1
    try clear c14
    try clear c14b0
    try clear c14b1
    obtain ⟨kq, x53_5, rfl, HA, HJ5, ⟨mc5, rfl⟩⟩ := hcut
    cases kq with
    | zero => exact absurd HA.out (by simp [bournelaw04_GroupTells.j0])
    | succ kj5 =>
      have H := HA.out
      clear HA
      simp only [bournelaw04_GroupTells.j0] at H
      by_cases c17 : x53_5 = true
      · subst c17
        have H1 : (some false) = some r := by rw [if_pos rfl] at H; exact H
        clear H
        have H := H1
        clear H1
        obtain rfl := Option.some.inj H
        go_wp2
        go_ret
        exact ⟨by first | rfl | (simp; done) | (simp [*]; done), by repeat (first | exact Drawn0.refl _ | apply Drawn0.step)⟩
      · replace c17 := Bool.eq_false_iff.mpr c17
        subst c17
        have H1 : (if t101 = true then ((group_AddQ.f a0 a1).bind fun t112 => ((bourneref04_AddQ.f a0 a1).bind fun t113 => (if t112 = t113 then ((group_SubQ.f a0 a1).bind fun t114 => ((bourneref04_SubQ.f a0 a1).bind fun t115 => (if t114 = t115 then ((group_MulQ.f a0 a1).bind fun t116 => ((bourneref04_MulQ.f a0 a1).bind fun t117 => (some (t116 == t117)))) else (some false)))) else (some false)))) else (some false)) = some r := by rw [if_neg (show ¬ (false = true) by decide)] at H; exact H
        clear H
        have H := H1
        clear H1
        by_cases c18 : t101 = true
        · subst c18
          have H1 : ((group_AddQ.f a0 a1).bind fun t112 => ((bourneref04_AddQ.f a0 a1).bind fun t113 => (if t112 = t113 then ((group_SubQ.f a0 a1).bind fun t114 => ((bourneref04_SubQ.f a0 a1).bind fun t115 => (if t114 = t115 then ((group_MulQ.f a0 a1).bind fun t116 => ((bourneref04_MulQ.f a0 a1).bind fun t117 => (some (t116 == t117)))) else (some false)))) else (some false)))) = some r := by rw [if_pos rfl] at H; exact H
          clear H
          have H := H1
          clear H1
          replace H := Option.bind_eq_some_iff.mp H
          obtain ⟨t112, A190, H⟩ := H
          replace H : ((bourneref04_AddQ.f a0 a1).bind fun t113 => (if t112 = t113 then ((group_SubQ.f a0 a1).bind fun t114 => ((bourneref04_SubQ.f a0 a1).bind fun t115 => (if t114 = t115 then ((group_MulQ.f a0 a1).bind fun t116 => ((bourneref04_MulQ.f a0 a1).bind fun t117 => (some (t116 == t117)))) else (some false)))) else (some false))) = some r := H
          have A19 := Aside0.mk A190
          clear A190
          replace H := Option.bind_eq_some_iff.mp H
          obtain ⟨t113, A200, H⟩ := H
          replace H : (if t112 = t113 then ((group_SubQ.f a0 a1).bind fun t114 => ((bourneref04_SubQ.f a0 a1).bind fun t115 => (if t114 = t115 then ((group_MulQ.f a0 a1).bind fun t116 => ((bourneref04_MulQ.f a0 a1).bind fun t117 => (some (t116 == t117)))) else (some false)))) else (some false)) = some r := H
          have A20 := Aside0.mk A200
          clear A200
          by_cases c21 : t112 = t113
          · rw [if_pos c21] at H
            have c21b0 : (t112 == t113) = true := beq_iff_eq.mpr c21
            have c21b1 : (t112 != t113) = false := bne_eq_false_iff_eq.mpr c21
            clear c21
            replace H := Option.bind_eq_some_iff.mp H
            obtain ⟨t114, A220, H⟩ := H
            replace H : ((bourneref04_SubQ.f a0 a1).bind fun t115 => (if t114 = t115 then ((group_MulQ.f a0 a1).bind fun t116 => ((bourneref04_MulQ.f a0 a1).bind fun t117 => (some (t116 == t117)))) else (some false))) = some r := H
            have A22 := Aside0.mk A220
            clear A220
            replace H := Option.bind_eq_some_iff.mp H
            obtain ⟨t115, A230, H⟩ := H
            replace H : (if t114 = t115 then ((group_MulQ.f a0 a1).bind fun t116 => ((bourneref04_MulQ.f a0 a1).bind fun t117 => (some (t116 == t117)))) else (some false)) = some r := H
            have A23 := Aside0.mk A230
            clear A230
            by_cases c24 : t114 = t115
            · rw [if_pos c24] at H
              have c24b0 : (t114 == t115) = true := beq_iff_eq.mpr c24
              have c24b1 : (t114 != t115) = false := bne_eq_false_iff_eq.mpr c24
              clear c24
              replace H := Option.bind_eq_some_iff.mp H
              obtain ⟨t116, A250, H⟩ := H
              replace H : ((bourneref04_MulQ.f a0 a1).bind fun t117 => (some (t116 == t117))) = some r := H
              have A25 := Aside0.mk A250
              clear A250
              replace H := Option.bind_eq_some_iff.mp H
              obtain ⟨t117, A260, H⟩ := H
              replace H : (some (t116 == t117)) = some r := H
              have A26 := Aside0.mk A260
              clear A260
              obtain rfl := Option.some.inj H
              go_wp2_with (first | (go_at_call 17; (with_reducible refine (group_AddQ.calls a0 a1 t112 _ A19.out).mono ?_); rintro e w' ⟨rfl, ⟨nd, rfl⟩⟩) | (go_at_call 18; (with_reducible refine (bourneref04_AddQ.calls a0 a1 t113 _ A20.out).mono ?_); rintro e w' ⟨rfl, ⟨nd, rfl⟩⟩) | (go_at_call 19; (with_reducible refine (group_SubQ.calls a0 a1 t114 _ A22.out).mono ?_); rintro e w' ⟨rfl, ⟨nd, rfl⟩⟩) | (go_at_call 20; (with_reducible refine (bourneref04_SubQ.calls a0 a1 t115 _ A23.out).mono ?_); rintro e w' ⟨rfl, ⟨nd, rfl⟩⟩) | (go_at_call 21; (with_reducible refine (group_MulQ.calls a0 a1 t116 _ A25.out).mono ?_); rintro e w' ⟨rfl, ⟨nd, rfl⟩⟩) | (go_at_call 22; (with_reducible refine (bourneref04_MulQ.calls a0 a1 t117 _ A26.out).mono ?_); rintro e w' ⟨rfl, ⟨nd, rfl⟩⟩))
              go_ret
              exact ⟨by first | rfl | (simp; done) | (simp [*]; done), by repeat (first | exact Drawn0.refl _ | apply Drawn0.step)⟩
            · rw [if_neg c24] at H
              have c24b0 : (t114 == t115) = false := beq_eq_false_iff_ne.mpr c24
              have c24b1 : (t114 != t115) = true := bne_iff_ne.mpr c24
              obtain rfl := Option.some.inj H
              go_wp2_with (first | (go_at_call 17; (with_reducible refine (group_AddQ.calls a0 a1 t112 _ A19.out).mono ?_); rintro e w' ⟨rfl, ⟨nd, rfl⟩⟩) | (go_at_call 18; (with_reducible refine (bourneref04_AddQ.calls a0 a1 t113 _ A20.out).mono ?_); rintro e w' ⟨rfl, ⟨nd, rfl⟩⟩) | (go_at_call 19; (with_reducible refine (group_SubQ.calls a0 a1 t114 _ A22.out).mono ?_); rintro e w' ⟨rfl, ⟨nd, rfl⟩⟩) | (go_at_call 20; (with_reducible refine (bourneref04_SubQ.calls a0 a1 t115 _ A23.out).mono ?_); rintro e w' ⟨rfl, ⟨nd, rfl⟩⟩))
              go_ret
              exact ⟨by first | rfl | (simp; done) | (simp [*]; done), by repeat (first | exact Drawn0.refl _ | apply Drawn0.step)⟩
          · rw [if_neg c21] at H
            have c21b0 : (t112 == t113) = false := beq_eq_false_iff_ne.mpr c21
            have c21b1 : (t112 != t113) = true := bne_iff_ne.mpr c21
            obtain rfl := Option.some.inj H
            go_wp2_with (first | (go_at_call 17; (with_reducible refine (group_AddQ.calls a0 a1 t112 _ A19.out).mono ?_); rintro e w' ⟨rfl, ⟨nd, rfl⟩⟩) | (go_at_call 18; (with_reducible refine (bourneref04_AddQ.calls a0 a1 t113 _ A20.out).mono ?_); rintro e w' ⟨rfl, ⟨nd, rfl⟩⟩))
            go_ret
            exact ⟨by first | rfl | (simp; done) | (simp [*]; done), by repeat (first | exact Drawn0.refl _ | apply Drawn0.step)⟩
        · replace c18 := Bool.eq_false_iff.mpr c18
          subst c18
          have H1 : (some false) = some r := by rw [if_neg (show ¬ (false = true) by decide)] at H; exact H
          clear H
          have H := H1
          clear H1
          obtain rfl := Option.some.inj H
          go_wp2
          go_ret
          exact ⟨by first | rfl | (simp; done) | (simp [*]; done), by repeat (first | exact Drawn0.refl _ | apply Drawn0.step)⟩

/-- THE ONE PURE STATEMENT of bournelaw04_GroupTells: yours. -/
def bournelaw04_GroupTells.Pure : Prop := ∀ (a0 : Int) (a1 : Int), (Lit.int .i64 a0).wf = true → (Lit.int .i64 a1).wf = true → ∃ k, bournelaw04_GroupTells.f k a0 a1 = some true
theorem bournelaw04_GroupTells.walk (P : bournelaw04_GroupTells.Pure) (a0 : Int) (a1 : Int) (w : World) (w0 : (Lit.int .i64 a0).wf = true) (w1 : (Lit.int .i64 a1).wf = true) :
    Calls Try.prog 3 #[.int .i64 a0, .int .i64 a1] w fun e w' => e = .returned (.bool true) ∧ Below w.heap.size w w' := by
  obtain ⟨k, h⟩ := P a0 a1 w0 w1
  refine (bournelaw04_GroupTells.calls k a0 a1 true w h).mono ?_
  rintro e w' ⟨rfl, hd⟩
  exact ⟨rfl, hd.below⟩

end Go.Proofs.Ytgakeihdnlmeaaa.T
