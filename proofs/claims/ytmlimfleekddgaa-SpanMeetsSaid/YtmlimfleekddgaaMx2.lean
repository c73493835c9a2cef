-- Written by a program of this session (wip/tools/pp.py) out of the translation; Lean checks it.
import Derived.Test.YtmlimfleekddgaaMx0
import Derived.Test.YtmlimfleekddgaaQs
import Derived.Test.YtmlimfleekddgaaMx1
namespace Go.Proofs.Ytmlimfleekddgaa.M
open Go.RowKit Go.Proofs.YtmlimfleekddgaaW.PrintWords Go.Proofs.YtmlimfleekddgaaW.PrintLast Go.Proofs.YtmlimfleekddgaaW.PrintMore
open Go.Proofs.Ytmlimfleekddgaa.S
attribute [local go_sem] max2_int min2_int max_two min_two max_three min_three max_four min_four   -- for this text's walks alone
set_option linter.unusedVariables false
set_option linter.unusedSimpArgs false

attribute [local go_sem high] eqA23
/-! ### bournelaw09_SpanMeets: function 5 -/
mutual
def bournelaw09_SpanMeets.j0 : Nat → Int → Bool → Bool → Int → Int → Int → Int → Option (Bool)
 | 0, _, _, _, _, _, _, _ => none
 | k + 1, x2, x7, x20, x102000, x102001, x103000, x103001 => if x20 = true then (some x7) else ((span_Meet.f x102000 x102001 x103000 x103001).bind fun bt106 => ((span_Join.f x102000 x102001 x103000 x103001).bind fun bt110 => ((span_Has.f x102000 x102001 x2).bind fun t113 => (if t113 = true then ((span_Has.f x103000 x103001 x2).bind fun t114 => (bournelaw09_SpanMeets.j1 k x2 x7 bt106.2.2 t114 x102000 x102001 x103000 x103001 bt106.1 bt106.2.1 bt110.1 bt110.2)) else (bournelaw09_SpanMeets.j1 k x2 x7 bt106.2.2 false x102000 x102001 x103000 x103001 bt106.1 bt106.2.1 bt110.1 bt110.2)))))
def bournelaw09_SpanMeets.j1 : Nat → Int → Bool → Bool → Bool → Int → Int → Int → Int → Int → Int → Int → Int → Option (Bool)
 | 0, _, _, _, _, _, _, _, _, _, _, _, _ => none
 | k + 1, x2, x7, x9, x11, x102000, x102001, x103000, x103001, x110000, x110001, x113000, x113001 => if x9 = true then ((span_Has.f x110000 x110001 x2).bind fun t115 => (if (x11 != t115) = true then (bournelaw09_SpanMeets.j2 k x2 x7 true x102000 x102001 x103000 x103001 x113000 x113001) else ((span_Within.f x110000 x110001 x102000 x102001).bind fun t116 => (if t116 = true then ((span_Within.f x110000 x110001 x103000 x103001).bind fun t117 => (if t117 = true then ((span_Right.f x110000 x110001).bind fun t118 => (if t118 = true then (bournelaw09_SpanMeets.j2 k x2 x7 false x102000 x102001 x103000 x103001 x113000 x113001) else (bournelaw09_SpanMeets.j2 k x2 x7 true x102000 x102001 x103000 x103001 x113000 x113001))) else (bournelaw09_SpanMeets.j2 k x2 x7 true x102000 x102001 x103000 x103001 x113000 x113001))) else (bournelaw09_SpanMeets.j2 k x2 x7 true x102000 x102001 x103000 x103001 x113000 x113001))))) else (if (x11 != false) = true then (bournelaw09_SpanMeets.j2 k x2 x7 true x102000 x102001 x103000 x103001 x113000 x113001) else (bournelaw09_SpanMeets.j2 k x2 x7 (!(x110000 == 0) || (!(x110001 == 0))) x102000 x102001 x103000 x103001 x113000 x113001))
def bournelaw09_SpanMeets.j2 : Nat → Int → Bool → Bool → Int → Int → Int → Int → Int → Int → Option (Bool)
 | 0, _, _, _, _, _, _, _, _, _ => none
 | k + 1, x2, x7, x75, x102000, x102001, x103000, x103001, x113000, x113001 => if x75 = true then (some false) else ((span_Has.f x102000 x102001 x2).bind fun t119 => (if t119 = true then ((span_Has.f x113000 x113001 x2).bind fun t120 => (if t120 = true then ((span_Within.f x102000 x102001 x113000 x113001).bind fun t121 => (if t121 = true then ((span_Within.f x103000 x103001 x113000 x113001).bind fun t122 => (bournelaw09_SpanMeets.j3 k x7 (!t122) x102000 x102001 x103000 x103001 x113000 x113001)) else (bournelaw09_SpanMeets.j3 k x7 true x102000 x102001 x103000 x103001 x113000 x113001))) else (bournelaw09_SpanMeets.j3 k x7 true x102000 x102001 x103000 x103001 x113000 x113001))) else ((span_Has.f x103000 x103001 x2).bind fun t123 => (if t123 = true then ((span_Has.f x113000 x113001 x2).bind fun t124 => (if t124 = true then ((span_Within.f x102000 x102001 x113000 x113001).bind fun t125 => (if t125 = true then ((span_Within.f x103000 x103001 x113000 x113001).bind fun t126 => (bournelaw09_SpanMeets.j3 k x7 (!t126) x102000 x102001 x103000 x103001 x113000 x113001)) else (bournelaw09_SpanMeets.j3 k x7 true x102000 x102001 x103000 x103001 x113000 x113001))) else (bournelaw09_SpanMeets.j3 k x7 true x102000 x102001 x103000 x103001 x113000 x113001))) else ((span_Within.f x102000 x102001 x113000 x113001).bind fun t127 => (if t127 = true then ((span_Within.f x103000 x103001 x113000 x113001).bind fun t128 => (bournelaw09_SpanMeets.j3 k x7 (!t128) x102000 x102001 x103000 x103001 x113000 x113001)) else (bournelaw09_SpanMeets.j3 k x7 true x102000 x102001 x103000 x103001 x113000 x113001)))))))
def bournelaw09_SpanMeets.j3 : Nat → Bool → Bool → Int → Int → Int → Int → Int → Int → Option (Bool)
 | 0, _, _, _, _, _, _, _, _ => none
 | k + 1, x7, x101, x102000, x102001, x103000, x103001, x113000, x113001 => if x101 = true then (some false) else (if x7 = true then (if x113000 = x102000 then (if x113001 = x102001 then (some true) else (some (x113001 == x103001))) else (if x113000 = x103000 then (if x113001 = x102001 then (some true) else (some (x113001 == x103001))) else (some false))) else (some false))
end
def bournelaw09_SpanMeets.f (k : Nat) (a0_0 : Int) (a0_1 : Int) (a1_0 : Int) (a1_1 : Int) (a2 : Int) : Option (Bool) := (bournelaw09_small.f).bind fun t103 => ((span_Right.f a0_0 a0_1).bind fun t104 => (if t104 = true then ((span_Right.f a1_0 a1_1).bind fun t105 => (bournelaw09_SpanMeets.j0 k a2 t103 (!t105) a0_0 a0_1 a1_0 a1_1)) else (bournelaw09_SpanMeets.j0 k a2 t103 true a0_0 a0_1 a1_0 a1_1)))
theorem bournelaw09_SpanMeets.mono_l : ∀ k, (∀ y0 y1 y2 y3 y4 y5 y6, LeO (bournelaw09_SpanMeets.j0 k y0 y1 y2 y3 y4 y5 y6) (bournelaw09_SpanMeets.j0 (k + 1) y0 y1 y2 y3 y4 y5 y6)) ∧ (∀ y0 y1 y2 y3 y4 y5 y6 y7 y8 y9 y10 y11, LeO (bournelaw09_SpanMeets.j1 k y0 y1 y2 y3 y4 y5 y6 y7 y8 y9 y10 y11) (bournelaw09_SpanMeets.j1 (k + 1) y0 y1 y2 y3 y4 y5 y6 y7 y8 y9 y10 y11)) ∧ (∀ y0 y1 y2 y3 y4 y5 y6 y7 y8, LeO (bournelaw09_SpanMeets.j2 k y0 y1 y2 y3 y4 y5 y6 y7 y8) (bournelaw09_SpanMeets.j2 (k + 1) y0 y1 y2 y3 y4 y5 y6 y7 y8)) ∧ (∀ y0 y1 y2 y3 y4 y5 y6 y7, LeO (bournelaw09_SpanMeets.j3 k y0 y1 y2 y3 y4 y5 y6 y7) (bournelaw09_SpanMeets.j3 (k + 1) y0 y1 y2 y3 y4 y5 y6 y7))
 | 0 => ⟨fun _ _ _ _ _ _ _ r h => by simp [bournelaw09_SpanMeets.j0] at h, fun _ _ _ _ _ _ _ _ _ _ _ _ r h => by simp [bournelaw09_SpanMeets.j1] at h, fun _ _ _ _ _ _ _ _ _ r h => by simp [bournelaw09_SpanMeets.j2] at h, fun _ _ _ _ _ _ _ _ r h => by simp [bournelaw09_SpanMeets.j3] at h⟩
 | k + 1 => by
  obtain ⟨ih0, ih1, ih2, ih3⟩ := bournelaw09_SpanMeets.mono_l k
  refine ⟨?_, ?_, ?_, ?_⟩
  ·intro y0 y1 y2 y3 y4 y5 y6
   unfold bournelaw09_SpanMeets.j0
   repeat' first
   | (with_reducible exact ih0 _ _ _ _ _ _ _)
   | (with_reducible exact ih1 _ _ _ _ _ _ _ _ _ _ _ _)
   | (with_reducible exact ih2 _ _ _ _ _ _ _ _ _)
   | (with_reducible exact ih3 _ _ _ _ _ _ _ _)
   | (with_reducible exact LeO.refl _)
   | (with_reducible exact LeO.none _)
   | (with_reducible refine LeO.ite ?_ ?_)
   | (with_reducible refine LeO.bind ?_ (fun _ => ?_))
   | exact ih0 _ _ _ _ _ _ _
   | exact ih1 _ _ _ _ _ _ _ _ _ _ _ _
   | exact ih2 _ _ _ _ _ _ _ _ _
   | exact ih3 _ _ _ _ _ _ _ _
   | exact LeO.none _
   | refine LeO.ite ?_ ?_
   | refine LeO.bind ?_ (fun _ => ?_)
  ·intro y0 y1 y2 y3 y4 y5 y6 y7 y8 y9 y10 y11
   unfold bournelaw09_SpanMeets.j1
   repeat' first
   | (with_reducible exact ih0 _ _ _ _ _ _ _)
   | (with_reducible exact ih1 _ _ _ _ _ _ _ _ _ _ _ _)
   | (with_reducible exact ih2 _ _ _ _ _ _ _ _ _)
   | (with_reducible exact ih3 _ _ _ _ _ _ _ _)
   | (with_reducible exact LeO.refl _)
   | (with_reducible exact LeO.none _)
   | (with_reducible refine LeO.ite ?_ ?_)
   | (with_reducible refine LeO.bind ?_ (fun _ => ?_))
   | exact ih0 _ _ _ _ _ _ _
   | exact ih1 _ _ _ _ _ _ _ _ _ _ _ _
   | exact ih2 _ _ _ _ _ _ _ _ _
   | exact ih3 _ _ _ _ _ _ _ _
   | exact LeO.none _
   | refine LeO.ite ?_ ?_
   | refine LeO.bind ?_ (fun _ => ?_)
  ·intro y0 y1 y2 y3 y4 y5 y6 y7 y8
   unfold bournelaw09_SpanMeets.j2
   repeat' first
   | (with_reducible exact ih0 _ _ _ _ _ _ _)
   | (with_reducible exact ih1 _ _ _ _ _ _ _ _ _ _ _ _)
   | (with_reducible exact ih2 _ _ _ _ _ _ _ _ _)
   | (with_reducible exact ih3 _ _ _ _ _ _ _ _)
   | (with_reducible exact LeO.refl _)
   | (with_reducible exact LeO.none _)
   | (with_reducible refine LeO.ite ?_ ?_)
   | (with_reducible refine LeO.bind ?_ (fun _ => ?_))
   | exact ih0 _ _ _ _ _ _ _
   | exact ih1 _ _ _ _ _ _ _ _ _ _ _ _
   | exact ih2 _ _ _ _ _ _ _ _ _
   | exact ih3 _ _ _ _ _ _ _ _
   | exact LeO.none _
   | refine LeO.ite ?_ ?_
   | refine LeO.bind ?_ (fun _ => ?_)
  ·intro y0 y1 y2 y3 y4 y5 y6 y7
   unfold bournelaw09_SpanMeets.j3
   repeat' first
   | (with_reducible exact ih0 _ _ _ _ _ _ _)
   | (with_reducible exact ih1 _ _ _ _ _ _ _ _ _ _ _ _)
   | (with_reducible exact ih2 _ _ _ _ _ _ _ _ _)
   | (with_reducible exact ih3 _ _ _ _ _ _ _ _)
   | (with_reducible exact LeO.refl _)
   | (with_reducible exact LeO.none _)
   | (with_reducible refine LeO.ite ?_ ?_)
   | (with_reducible refine LeO.bind ?_ (fun _ => ?_))
   | exact ih0 _ _ _ _ _ _ _
   | exact ih1 _ _ _ _ _ _ _ _ _ _ _ _
   | exact ih2 _ _ _ _ _ _ _ _ _
   | exact ih3 _ _ _ _ _ _ _ _
   | exact LeO.none _
   | refine LeO.ite ?_ ?_
   | refine LeO.bind ?_ (fun _ => ?_)
theorem bournelaw09_SpanMeets.mono : ∀ a0 a1 a2 a3 a4 k, LeO (bournelaw09_SpanMeets.f k a0 a1 a2 a3 a4) (bournelaw09_SpanMeets.f (k + 1) a0 a1 a2 a3 a4) := by
 intro a0 a1 a2 a3 a4 k
 obtain ⟨ih0, ih1, ih2, ih3⟩ := bournelaw09_SpanMeets.mono_l k
 unfold bournelaw09_SpanMeets.f
 repeat' first
   | (with_reducible exact ih0 _ _ _ _ _ _ _)
   | (with_reducible exact ih1 _ _ _ _ _ _ _ _ _ _ _ _)
   | (with_reducible exact ih2 _ _ _ _ _ _ _ _ _)
   | (with_reducible exact ih3 _ _ _ _ _ _ _ _)
   | (with_reducible exact LeO.refl _)
   | (with_reducible exact LeO.none _)
   | (with_reducible refine LeO.ite ?_ ?_)
   | (with_reducible refine LeO.bind ?_ (fun _ => ?_))
   | exact ih0 _ _ _ _ _ _ _
   | exact ih1 _ _ _ _ _ _ _ _ _ _ _ _
   | exact ih2 _ _ _ _ _ _ _ _ _
   | exact ih3 _ _ _ _ _ _ _ _
   | exact LeO.none _
   | refine LeO.ite ?_ ?_
   | refine LeO.bind ?_ (fun _ => ?_)
set_option maxHeartbeats 8000000 in
set_option maxRecDepth 100000 in
theorem bournelaw09_SpanMeets.calls (k : Nat) (a0_0 : Int) (a0_1 : Int) (a1_0 : Int) (a1_1 : Int) (a2 : Int) (r : Bool) (w : World) (h : bournelaw09_SpanMeets.f k a0_0 a0_1 a1_0 a1_1 a2 = some r) (hr : Aside0 (r = true)) :
  Calls Try.prog 5 #[.agg #[.int .i64 a0_0, .int .i64 a0_1], .agg #[.int .i64 a1_0, .int .i64 a1_1], .int .i64 a2] w fun e w' => e = .returned (.bool r) ∧ Below w.heap.size w w' := by
 have hu23 := Try.underlying23
 have HB := Aside0.mk (Below.refl w.heap.size w)
 have H : ((bournelaw09_small.f).bind fun t103 => ((span_Right.f a0_0 a0_1).bind fun t104 => (if t104 = true then ((span_Right.f a1_0 a1_1).bind fun t105 => (bournelaw09_SpanMeets.j0 k a2 t103 (!t105) a0_0 a0_1 a1_0 a1_1)) else (bournelaw09_SpanMeets.j0 k a2 t103 true a0_0 a0_1 a1_0 a1_1)))) = some r := h
 clear h
 replace H := Option.bind_eq_some_iff.mp H
 obtain ⟨t103, A40, H⟩ := H
 replace H : ((span_Right.f a0_0 a0_1).bind fun t104 => (if t104 = true then ((span_Right.f a1_0 a1_1).bind fun t105 => (bournelaw09_SpanMeets.j0 k a2 t103 (!t105) a0_0 a0_1 a1_0 a1_1)) else (bournelaw09_SpanMeets.j0 k a2 t103 true a0_0 a0_1 a1_0 a1_1))) = some r := H
 have A4 := Aside0.mk A40
 clear A40
 have HC5 := Aside0.mk H
 clear H
 go_enter Try.func5, Try.ntmps5
 go_upto_region 2 with (first | ((with_reducible refine gate_dst (N := 3) rfl ?_); refine box_event ?hg (N := 3) ?hd (cs := #[.int .i64 a0_0, .int .i64 a0_1]) (t := 23) ?hr ?_; (case hd => rfl); (case hg => rfl); (case hr => first | (go_simp; done) | (go_simp; rfl)); intro gb101 hg w6 hbox hb; have n0_ := Aside0.mk (below_step ahx hb); have n1_ := Aside0.mk (hbox); have n2_ := Aside0.mk ((by rw [hg]; exact (below_size ahx) : w.heap.size ≤ gb101)); have n3_ := Aside0.mk ((by rw [hg]; exact (below_size ahx) : w.heap.size ≤ gb101)); clear HB; have HB := n0_; have BK101 := n1_; have GW101 := n2_; have GE101 := n3_; clear n0_ n1_ n2_ n3_; clear hb hbox hg) | ((with_reducible refine gate_dst (N := 4) rfl ?_); refine box_event ?hg (N := 4) ?hd (cs := #[.int .i64 a1_0, .int .i64 a1_1]) (t := 23) ?hr ?_; (case hd => rfl); (case hg => rfl); (case hr => first | (go_simp; done) | (go_simp; rfl)); intro gb102 hg w7 hbox hb; have n0_ := Aside0.mk (blk_below (g := gb101) (o := .cells #[.int .i64 a0_0, .int .i64 a0_1] 23 (0, 0)) abx hb); have n1_ := Aside0.mk (below_step ahx hb); have n2_ := Aside0.mk (hbox); have n3_ := Aside0.mk ((by rw [hg]; exact (below_size ahx) : w.heap.size ≤ gb102)); have n4_ := Aside0.mk ((by rw [hg]; exact (below_size ahx) : w.heap.size ≤ gb102)); have n5_ := Aside0.mk ((by rw [hg]; exact Nat.ne_of_lt (blk_lt (g := gb101) (o := .cells #[.int .i64 a0_0, .int .i64 a0_1] 23 (0, 0)) abx) : gb101 ≠ gb102)); have n6_ := Aside0.mk ((by rw [hg]; exact Nat.ne_of_gt (blk_lt (g := gb101) (o := .cells #[.int .i64 a0_0, .int .i64 a0_1] 23 (0, 0)) abx) : gb102 ≠ gb101)); clear BK101; clear HB; have BK101 := n0_; have HB := n1_; have BK102 := n2_; have GW102 := n3_; have GE102 := n4_; have NB101_102 := n5_; have NB102_101 := n6_; clear n0_ n1_ n2_ n3_ n4_ n5_ n6_; clear hb hbox hg) | ((with_reducible refine gate_callee (f := 8) rfl ?_); refine goesL_ (some 12) rfl rfl Try.func8 (by kernel_rfl) rfl #[] rfl (by first | done | rfl) ?_; (with_reducible refine (bournelaw09_small.calls  t103 _ A4.out).mono ?_); rintro e w8 ⟨rfl, hb⟩; refine ⟨_, rfl, ?_⟩; have n0_ := Aside0.mk (blk_below (g := gb101) (o := .cells #[.int .i64 a0_0, .int .i64 a0_1] 23 (0, 0)) abx hb); have n1_ := Aside0.mk (blk_below (g := gb102) (o := .cells #[.int .i64 a1_0, .int .i64 a1_1] 23 (0, 0)) abx hb); have n2_ := Aside0.mk (below_step ahx hb); clear BK101; clear BK102; clear HB; have BK101 := n0_; have BK102 := n1_; have HB := n2_; clear n0_ n1_ n2_; (try clear hb); (try clear hb2); (try clear hk); (try clear hi)) | (go_at_call 8; (with_reducible refine (bournelaw09_small.calls  t103 _ A4.out).mono ?_); rintro e w8 ⟨rfl, hb⟩; have n0_ := Aside0.mk (blk_below (g := gb101) (o := .cells #[.int .i64 a0_0, .int .i64 a0_1] 23 (0, 0)) abx hb); have n1_ := Aside0.mk (blk_below (g := gb102) (o := .cells #[.int .i64 a1_0, .int .i64 a1_1] 23 (0, 0)) abx hb); have n2_ := Aside0.mk (below_step ahx hb); clear BK101; clear BK102; clear HB; have BK101 := n0_; have BK102 := n1_; have HB := n2_; clear n0_ n1_ n2_; (try clear hb); (try clear hb2); (try clear hk); (try clear hi)))
 (try simp only [Act.put, List.setIfInBounds_toArray, List.set_cons_zero, List.set_cons_succ])
 go_cut [20] (fun v20 wc => ∃ (kq : Nat) (x20_4 : Bool), v20 = .bool x20_4 ∧ Aside0 (bournelaw09_SpanMeets.j0 kq a2 t103 x20_4 a0_0 a0_1 a1_0 a1_1 = some r) ∧ Aside0 (kq ≤ k) ∧ Aside0 (wc.heap[gb101]? = some (.cells #[.int .i64 a0_0, .int .i64 a0_1] 23 (0, 0))) ∧ Aside0 (wc.heap[gb102]? = some (.cells #[.int .i64 a1_0, .int .i64 a1_1] 23 (0, 0))) ∧ Aside0 (Below w.heap.size w wc))
 case first =>
  have H := HC5.out
  clear HC5
  replace H := Option.bind_eq_some_iff.mp H
  obtain ⟨t104, A90, H⟩ := H
  replace H : (if t104 = true then ((span_Right.f a1_0 a1_1).bind fun t105 => (bournelaw09_SpanMeets.j0 k a2 t103 (!t105) a0_0 a0_1 a1_0 a1_1)) else (bournelaw09_SpanMeets.j0 k a2 t103 true a0_0 a0_1 a1_0 a1_1)) = some r := H
  have A9 := Aside0.mk A90
  clear A90
  by_cases c10 : t104 = true
  ·subst c10
   have H1 : ((span_Right.f a1_0 a1_1).bind fun t105 => (bournelaw09_SpanMeets.j0 k a2 t103 (!t105) a0_0 a0_1 a1_0 a1_1)) = some r := by rw [if_pos rfl] at H; exact H
   clear H
   have H := H1
   clear H1
   replace H := Option.bind_eq_some_iff.mp H
   obtain ⟨t105, A110, H⟩ := H
   replace H : (bournelaw09_SpanMeets.j0 k a2 t103 (!t105) a0_0 a0_1 a1_0 a1_1) = some r := H
   have A11 := Aside0.mk A110
   clear A110
   have H' := Aside0.mk H
   clear H
   have hnb12 := NB101_102.out
   have hnc12 := NB102_101.out
   have hcz13_0 : w8.cell? ⟨gb101, 0, none⟩ = some (.int .i64 a0_0) := (blk_cell BK101.out 0).trans rfl
   have hcz13_1 : w8.cell? ⟨gb101, 1, none⟩ = some (.int .i64 a0_1) := (blk_cell BK101.out 1).trans rfl
   have hfz13_0 := blk_frozen BK101.out 0
   have hfz13_1 := blk_frozen BK101.out 1
   go_wp2_with (first | ((with_reducible refine gate_callee (f := 13) rfl ?_); refine goesL_ (some 14) rfl rfl Try.func13 (by kernel_rfl) rfl #[.agg #[.int .i64 a0_0, .int .i64 a0_1]] rfl (by first | done | rfl) ?_; (with_reducible refine (span_Right.calls a0_0 a0_1 true _ A9.out).mono ?_); rintro e w14 ⟨rfl, hb⟩; refine ⟨_, rfl, ?_⟩; have n0_ := Aside0.mk (blk_below (g := gb101) (o := .cells #[.int .i64 a0_0, .int .i64 a0_1] 23 (0, 0)) abx hb); have n1_ := Aside0.mk (blk_below (g := gb102) (o := .cells #[.int .i64 a1_0, .int .i64 a1_1] 23 (0, 0)) abx hb); have n2_ := Aside0.mk (below_step ahx hb); clear BK101; clear BK102; clear HB; have BK101 := n0_; have BK102 := n1_; have HB := n2_; clear n0_ n1_ n2_; (try clear hb); (try clear hb2); (try clear hk); (try clear hi); have hcz15_0 : w14.cell? ⟨gb102, 0, none⟩ = some (.int .i64 a1_0) := (blk_cell BK102.out 0).trans rfl; have hcz15_1 : w14.cell? ⟨gb102, 1, none⟩ = some (.int .i64 a1_1) := (blk_cell BK102.out 1).trans rfl; have hfz15_0 := blk_frozen BK102.out 0; have hfz15_1 := blk_frozen BK102.out 1) | (go_at_call 13; (with_reducible refine (span_Right.calls a0_0 a0_1 true _ A9.out).mono ?_); rintro e w14 ⟨rfl, hb⟩; have n0_ := Aside0.mk (blk_below (g := gb101) (o := .cells #[.int .i64 a0_0, .int .i64 a0_1] 23 (0, 0)) abx hb); have n1_ := Aside0.mk (blk_below (g := gb102) (o := .cells #[.int .i64 a1_0, .int .i64 a1_1] 23 (0, 0)) abx hb); have n2_ := Aside0.mk (below_step ahx hb); clear BK101; clear BK102; clear HB; have BK101 := n0_; have BK102 := n1_; have HB := n2_; clear n0_ n1_ n2_; (try clear hb); (try clear hb2); (try clear hk); (try clear hi); have hcz15_0 : w14.cell? ⟨gb102, 0, none⟩ = some (.int .i64 a1_0) := (blk_cell BK102.out 0).trans rfl; have hcz15_1 : w14.cell? ⟨gb102, 1, none⟩ = some (.int .i64 a1_1) := (blk_cell BK102.out 1).trans rfl; have hfz15_0 := blk_frozen BK102.out 0; have hfz15_1 := blk_frozen BK102.out 1) | (go_at_call 13; (with_reducible refine (span_Right.calls a1_0 a1_1 t105 _ A11.out).mono ?_); rintro e w16 ⟨rfl, hb⟩; have n0_ := Aside0.mk (blk_below (g := gb101) (o := .cells #[.int .i64 a0_0, .int .i64 a0_1] 23 (0, 0)) abx hb); have n1_ := Aside0.mk (blk_below (g := gb102) (o := .cells #[.int .i64 a1_0, .int .i64 a1_1] 23 (0, 0)) abx hb); have n2_ := Aside0.mk (below_step ahx hb); clear BK101; clear BK102; clear HB; have BK101 := n0_; have BK102 := n1_; have HB := n2_; clear n0_ n1_ n2_; (try clear hb); (try clear hb2); (try clear hk); (try clear hi)))
   go_meet
   case rel => exact ⟨_, (!t105), (by first | rfl | (simp; done) | (simp [*]; done)), H', ⟨by first | omega | exact Nat.le_refl _⟩, ⟨by (with_reducible repeat (first | refine blk_drewN ?_ _ | refine blk_drew ?_ | refine blk_alloc ?_ _)); exact BK101.out⟩, ⟨by (with_reducible repeat (first | refine blk_drewN ?_ _ | refine blk_drew ?_ | refine blk_alloc ?_ _)); exact BK102.out⟩, ⟨ahx⟩⟩
  ·replace c10 := Bool.eq_false_iff.mpr c10
   subst c10
   have H1 : (bournelaw09_SpanMeets.j0 k a2 t103 true a0_0 a0_1 a1_0 a1_1) = some r := by rw [if_neg (show ¬ (false = true) by decide)] at H; exact H
   clear H
   have H := H1
   clear H1
   have H' := Aside0.mk H
   clear H
   have hnb17 := NB101_102.out
   have hnc17 := NB102_101.out
   have hcz18_0 : w8.cell? ⟨gb101, 0, none⟩ = some (.int .i64 a0_0) := (blk_cell BK101.out 0).trans rfl
   have hcz18_1 : w8.cell? ⟨gb101, 1, none⟩ = some (.int .i64 a0_1) := (blk_cell BK101.out 1).trans rfl
   have hfz18_0 := blk_frozen BK101.out 0
   have hfz18_1 := blk_frozen BK101.out 1
   go_wp2_with (first | ((with_reducible refine gate_callee (f := 13) rfl ?_); refine goesL_ (some 14) rfl rfl Try.func13 (by kernel_rfl) rfl #[.agg #[.int .i64 a0_0, .int .i64 a0_1]] rfl (by first | done | rfl) ?_; (with_reducible refine (span_Right.calls a0_0 a0_1 false _ A9.out).mono ?_); rintro e w19 ⟨rfl, hb⟩; refine ⟨_, rfl, ?_⟩; have n0_ := Aside0.mk (blk_below (g := gb101) (o := .cells #[.int .i64 a0_0, .int .i64 a0_1] 23 (0, 0)) abx hb); have n1_ := Aside0.mk (blk_below (g := gb102) (o := .cells #[.int .i64 a1_0, .int .i64 a1_1] 23 (0, 0)) abx hb); have n2_ := Aside0.mk (below_step ahx hb); clear BK101; clear BK102; clear HB; have BK101 := n0_; have BK102 := n1_; have HB := n2_; clear n0_ n1_ n2_; (try clear hb); (try clear hb2); (try clear hk); (try clear hi)) | (go_at_call 13; (with_reducible refine (span_Right.calls a0_0 a0_1 false _ A9.out).mono ?_); rintro e w19 ⟨rfl, hb⟩; have n0_ := Aside0.mk (blk_below (g := gb101) (o := .cells #[.int .i64 a0_0, .int .i64 a0_1] 23 (0, 0)) abx hb); have n1_ := Aside0.mk (blk_below (g := gb102) (o := .cells #[.int .i64 a1_0, .int .i64 a1_1] 23 (0, 0)) abx hb); have n2_ := Aside0.mk (below_step ahx hb); clear BK101; clear BK102; clear HB; have BK101 := n0_; have BK102 := n1_; have HB := n2_; clear n0_ n1_ n2_; (try clear hb); (try clear hb2); (try clear hk); (try clear hi)))
   go_meet
   case rel => exact ⟨_, (true), (by first | rfl | (simp; done) | (simp [*]; done)), H', ⟨by first | omega | exact Nat.le_refl _⟩, ⟨by (with_reducible repeat (first | refine blk_drewN ?_ _ | refine blk_drew ?_ | refine blk_alloc ?_ _)); exact BK101.out⟩, ⟨by (with_reducible repeat (first | refine blk_drewN ?_ _ | refine blk_drew ?_ | refine blk_alloc ?_ _)); exact BK102.out⟩, ⟨ahx⟩⟩
 case rest =>
  clear HC5
  try clear c1
  try clear p2
  try clear c5
  try clear c8
  try clear c10
  try clear c12
  try clear c13
  try clear c17
  try clear hcz13_0
  try clear hcz13_1
  try clear hcz15_0
  try clear hcz15_1
  try clear hcz18_0
  try clear hcz18_1
  try clear hfz13_0
  try clear hfz13_1
  try clear hfz15_0
  try clear hfz15_1
  try clear hfz18_0
  try clear hfz18_1
  obtain ⟨kq, x20_4, rfl, HA, HJ4, BK101, BK102, HB⟩ := hcut
  cases kq with
  | zero => exact absurd HA.out (by simp [bournelaw09_SpanMeets.j0])
  | succ kj4 =>
   have H := HA.out
   clear HA
   simp only [bournelaw09_SpanMeets.j0] at H
   by_cases c20 : x20_4 = true
   ·subst c20
    have H1 : (some t103) = some r := by rw [if_pos rfl] at H; exact H
    clear H
    have H := H1
    clear H1
    obtain rfl := Option.some.inj H
    go_wp2
    go_ret
    exact ⟨by first | rfl | (simp [errW_none, errW_some] <;> rfl) | (simp [*, errW_none, errW_some] <;> rfl), ahx⟩
   ·replace c20 := Bool.eq_false_iff.mpr c20
    subst c20
    have H1 : ((span_Meet.f a0_0 a0_1 a1_0 a1_1).bind fun bt106 => ((span_Join.f a0_0 a0_1 a1_0 a1_1).bind fun bt110 => ((span_Has.f a0_0 a0_1 a2).bind fun t113 => (if t113 = true then ((span_Has.f a1_0 a1_1 a2).bind fun t114 => (bournelaw09_SpanMeets.j1 kj4 a2 t103 bt106.2.2 t114 a0_0 a0_1 a1_0 a1_1 bt106.1 bt106.2.1 bt110.1 bt110.2)) else (bournelaw09_SpanMeets.j1 kj4 a2 t103 bt106.2.2 false a0_0 a0_1 a1_0 a1_1 bt106.1 bt106.2.1 bt110.1 bt110.2))))) = some r := by rw [if_neg (show ¬ (false = true) by decide)] at H; exact H
    clear H
    have H := H1
    clear H1
    replace H := Option.bind_eq_some_iff.mp H
    obtain ⟨⟨t106, t107, t108⟩, A210, H⟩ := H
    replace H : ((span_Join.f a0_0 a0_1 a1_0 a1_1).bind fun bt110 => ((span_Has.f a0_0 a0_1 a2).bind fun t113 => (if t113 = true then ((span_Has.f a1_0 a1_1 a2).bind fun t114 => (bournelaw09_SpanMeets.j1 kj4 a2 t103 t108 t114 a0_0 a0_1 a1_0 a1_1 t106 t107 bt110.1 bt110.2)) else (bournelaw09_SpanMeets.j1 kj4 a2 t103 t108 false a0_0 a0_1 a1_0 a1_1 t106 t107 bt110.1 bt110.2)))) = some r := H
    have A21 := Aside0.mk A210
    clear A210
    replace H := Option.bind_eq_some_iff.mp H
    obtain ⟨⟨t110, t111⟩, A220, H⟩ := H
    replace H : ((span_Has.f a0_0 a0_1 a2).bind fun t113 => (if t113 = true then ((span_Has.f a1_0 a1_1 a2).bind fun t114 => (bournelaw09_SpanMeets.j1 kj4 a2 t103 t108 t114 a0_0 a0_1 a1_0 a1_1 t106 t107 t110 t111)) else (bournelaw09_SpanMeets.j1 kj4 a2 t103 t108 false a0_0 a0_1 a1_0 a1_1 t106 t107 t110 t111))) = some r := H
    have A22 := Aside0.mk A220
    clear A220
    have HC23 := Aside0.mk H
    clear H
    have hnb24 := NB101_102.out
    have hnc24 := NB102_101.out
    have hcz25_0 : wc.cell? ⟨gb101, 0, none⟩ = some (.int .i64 a0_0) := (blk_cell BK101.out 0).trans rfl
    have hcz25_1 : wc.cell? ⟨gb101, 1, none⟩ = some (.int .i64 a0_1) := (blk_cell BK101.out 1).trans rfl
    have hfz25_0 := blk_frozen BK101.out 0
    have hfz25_1 := blk_frozen BK101.out 1
    have hcz26_0 : wc.cell? ⟨gb102, 0, none⟩ = some (.int .i64 a1_0) := (blk_cell BK102.out 0).trans rfl
    have hcz26_1 : wc.cell? ⟨gb102, 1, none⟩ = some (.int .i64 a1_1) := (blk_cell BK102.out 1).trans rfl
    have hfz26_0 := blk_frozen BK102.out 0
    have hfz26_1 := blk_frozen BK102.out 1
    go_upto_region 6 with (first | ((with_reducible refine gate_callee (f := 11) rfl ?_); refine goesL_ (some 25) rfl rfl Try.func11 (by kernel_rfl) rfl #[.agg #[.int .i64 a0_0, .int .i64 a0_1], .agg #[.int .i64 a1_0, .int .i64 a1_1]] rfl (by first | done | rfl) ?_; (with_reducible refine (span_Meet.calls a0_0 a0_1 a1_0 a1_1 t106 t107 t108 _ A21.out).mono ?_); rintro e w27 ⟨rfl, hb⟩; refine ⟨_, rfl, ?_⟩; have n0_ := Aside0.mk (blk_below (g := gb101) (o := .cells #[.int .i64 a0_0, .int .i64 a0_1] 23 (0, 0)) abx hb); have n1_ := Aside0.mk (blk_below (g := gb102) (o := .cells #[.int .i64 a1_0, .int .i64 a1_1] 23 (0, 0)) abx hb); have n2_ := Aside0.mk (below_step ahx hb); clear BK101; clear BK102; clear HB; have BK101 := n0_; have BK102 := n1_; have HB := n2_; clear n0_ n1_ n2_; (try clear hb); (try clear hb2); (try clear hk); (try clear hi)) | (go_at_call 11; (with_reducible refine (span_Meet.calls a0_0 a0_1 a1_0 a1_1 t106 t107 t108 _ A21.out).mono ?_); rintro e w27 ⟨rfl, hb⟩; have n0_ := Aside0.mk (blk_below (g := gb101) (o := .cells #[.int .i64 a0_0, .int .i64 a0_1] 23 (0, 0)) abx hb); have n1_ := Aside0.mk (blk_below (g := gb102) (o := .cells #[.int .i64 a1_0, .int .i64 a1_1] 23 (0, 0)) abx hb); have n2_ := Aside0.mk (below_step ahx hb); clear BK101; clear BK102; clear HB; have BK101 := n0_; have BK102 := n1_; have HB := n2_; clear n0_ n1_ n2_; (try clear hb); (try clear hb2); (try clear hk); (try clear hi)) | ((with_reducible refine gate_dst (N := 8) rfl ?_); refine box_event ?hg (N := 8) ?hd (cs := #[.int .i64 0, .int .i64 0]) (t := 23) ?hr ?_; (case hd => rfl); (case hg => rfl); (case hr => first | (go_simp; done) | (go_simp; rfl)); intro gb109 hg w28 hbox hb; have n0_ := Aside0.mk (blk_below (g := gb101) (o := .cells #[.int .i64 a0_0, .int .i64 a0_1] 23 (0, 0)) abx hb); have n1_ := Aside0.mk (blk_below (g := gb102) (o := .cells #[.int .i64 a1_0, .int .i64 a1_1] 23 (0, 0)) abx hb); have n2_ := Aside0.mk (below_step ahx hb); have n3_ := Aside0.mk (hbox); have n4_ := Aside0.mk ((by rw [hg]; exact (below_size ahx) : w.heap.size ≤ gb109)); have n5_ := Aside0.mk ((by rw [hg]; exact (below_size ahx) : w.heap.size ≤ gb109)); have n6_ := Aside0.mk ((by rw [hg]; exact Nat.ne_of_lt (blk_lt (g := gb101) (o := .cells #[.int .i64 a0_0, .int .i64 a0_1] 23 (0, 0)) abx) : gb101 ≠ gb109)); have n7_ := Aside0.mk ((by rw [hg]; exact Nat.ne_of_gt (blk_lt (g := gb101) (o := .cells #[.int .i64 a0_0, .int .i64 a0_1] 23 (0, 0)) abx) : gb109 ≠ gb101)); have n8_ := Aside0.mk ((by rw [hg]; exact Nat.ne_of_lt (blk_lt (g := gb102) (o := .cells #[.int .i64 a1_0, .int .i64 a1_1] 23 (0, 0)) abx) : gb102 ≠ gb109)); have n9_ := Aside0.mk ((by rw [hg]; exact Nat.ne_of_gt (blk_lt (g := gb102) (o := .cells #[.int .i64 a1_0, .int .i64 a1_1] 23 (0, 0)) abx) : gb109 ≠ gb102)); clear BK101; clear BK102; clear HB; have BK101 := n0_; have BK102 := n1_; have HB := n2_; have BK109 := n3_; have GW109 := n4_; have GE109 := n5_; have NB101_109 := n6_; have NB109_101 := n7_; have NB102_109 := n8_; have NB109_102 := n9_; clear n0_ n1_ n2_ n3_ n4_ n5_ n6_ n7_ n8_ n9_; clear hb hbox hg; have hnb29 := NB109_101.out; have hnc29 := NB101_109.out; have hnb30 := NB109_102.out; have hnc30 := NB102_109.out; have hcz31_0 : w28.cell? ⟨gb109, 0, none⟩ = some (.int .i64 0) := (blk_cell BK109.out 0).trans rfl; have hcz31_1 : w28.cell? ⟨gb109, 1, none⟩ = some (.int .i64 0) := (blk_cell BK109.out 1).trans rfl; have hfz31_0 := blk_frozen BK109.out 0; have hfz31_1 := blk_frozen BK109.out 1; have hcz32_0 : w28.cell? ⟨gb101, 0, none⟩ = some (.int .i64 a0_0) := (blk_cell BK101.out 0).trans rfl; have hcz32_1 : w28.cell? ⟨gb101, 1, none⟩ = some (.int .i64 a0_1) := (blk_cell BK101.out 1).trans rfl; have hfz32_0 := blk_frozen BK101.out 0; have hfz32_1 := blk_frozen BK101.out 1; have hcz33_0 : w28.cell? ⟨gb102, 0, none⟩ = some (.int .i64 a1_0) := (blk_cell BK102.out 0).trans rfl; have hcz33_1 : w28.cell? ⟨gb102, 1, none⟩ = some (.int .i64 a1_1) := (blk_cell BK102.out 1).trans rfl; have hfz33_0 := blk_frozen BK102.out 0; have hfz33_1 := blk_frozen BK102.out 1) | ((with_reducible refine gate_callee (f := 23) rfl ?_); refine goesL_ (some 30) rfl rfl Try.func23 (by kernel_rfl) rfl #[.agg #[.int .i64 a0_0, .int .i64 a0_1], .agg #[.int .i64 a1_0, .int .i64 a1_1]] rfl (by first | done | rfl) ?_; (with_reducible refine (span_Join.calls a0_0 a0_1 a1_0 a1_1 t110 t111 _ A22.out).mono ?_); rintro e w34 ⟨rfl, hb⟩; refine ⟨_, rfl, ?_⟩; have n0_ := Aside0.mk (blk_below (g := gb101) (o := .cells #[.int .i64 a0_0, .int .i64 a0_1] 23 (0, 0)) (by (with_reducible repeat (first | refine blk_drewN ?_ _ | refine blk_drew ?_ | refine blk_alloc ?_ _)); refine blk_far ?_ NB101_109.out _; (with_reducible repeat (first | refine blk_drewN ?_ _ | refine blk_drew ?_ | refine blk_alloc ?_ _)); refine blk_far ?_ NB101_109.out _; (with_reducible repeat (first | refine blk_drewN ?_ _ | refine blk_drew ?_ | refine blk_alloc ?_ _)); exact BK101.out) hb); have n1_ := Aside0.mk (blk_below (g := gb102) (o := .cells #[.int .i64 a1_0, .int .i64 a1_1] 23 (0, 0)) (by (with_reducible repeat (first | refine blk_drewN ?_ _ | refine blk_drew ?_ | refine blk_alloc ?_ _)); refine blk_far ?_ NB102_109.out _; (with_reducible repeat (first | refine blk_drewN ?_ _ | refine blk_drew ?_ | refine blk_alloc ?_ _)); refine blk_far ?_ NB102_109.out _; (with_reducible repeat (first | refine blk_drewN ?_ _ | refine blk_drew ?_ | refine blk_alloc ?_ _)); exact BK102.out) hb); have n2_ := Aside0.mk (blk_below (g := gb109) (o := .cells #[.int .i64 t106, .int .i64 t107] 23 (0, 0)) (by (with_reducible repeat (first | refine blk_drewN ?_ _ | refine blk_drew ?_ | refine blk_alloc ?_ _)); refine blk_put (cs := #[.int .i64 t106, .int .i64 0]) ?_ 1 _ rfl; (with_reducible repeat (first | refine blk_drewN ?_ _ | refine blk_drew ?_ | refine blk_alloc ?_ _)); refine blk_put (cs := #[.int .i64 0, .int .i64 0]) ?_ 0 _ rfl; (with_reducible repeat (first | refine blk_drewN ?_ _ | refine blk_drew ?_ | refine blk_alloc ?_ _)); exact BK109.out) hb); have n3_ := Aside0.mk (below_step ahx hb); clear BK101; clear BK102; clear BK109; clear HB; have BK101 := n0_; have BK102 := n1_; have BK109 := n2_; have HB := n3_; clear n0_ n1_ n2_ n3_; (try clear hb); (try clear hb2); (try clear hk); (try clear hi)) | (go_at_call 23; (with_reducible refine (span_Join.calls a0_0 a0_1 a1_0 a1_1 t110 t111 _ A22.out).mono ?_); rintro e w34 ⟨rfl, hb⟩; have n0_ := Aside0.mk (blk_below (g := gb101) (o := .cells #[.int .i64 a0_0, .int .i64 a0_1] 23 (0, 0)) (by (with_reducible repeat (first | refine blk_drewN ?_ _ | refine blk_drew ?_ | refine blk_alloc ?_ _)); refine blk_far ?_ NB101_109.out _; (with_reducible repeat (first | refine blk_drewN ?_ _ | refine blk_drew ?_ | refine blk_alloc ?_ _)); refine blk_far ?_ NB101_109.out _; (with_reducible repeat (first | refine blk_drewN ?_ _ | refine blk_drew ?_ | refine blk_alloc ?_ _)); exact BK101.out) hb); have n1_ := Aside0.mk (blk_below (g := gb102) (o := .cells #[.int .i64 a1_0, .int .i64 a1_1] 23 (0, 0)) (by (with_reducible repeat (first | refine blk_drewN ?_ _ | refine blk_drew ?_ | refine blk_alloc ?_ _)); refine blk_far ?_ NB102_109.out _; (with_reducible repeat (first | refine blk_drewN ?_ _ | refine blk_drew ?_ | refine blk_alloc ?_ _)); refine blk_far ?_ NB102_109.out _; (with_reducible repeat (first | refine blk_drewN ?_ _ | refine blk_drew ?_ | refine blk_alloc ?_ _)); exact BK102.out) hb); have n2_ := Aside0.mk (blk_below (g := gb109) (o := .cells #[.int .i64 t106, .int .i64 t107] 23 (0, 0)) (by (with_reducible repeat (first | refine blk_drewN ?_ _ | refine blk_drew ?_ | refine blk_alloc ?_ _)); refine blk_put (cs := #[.int .i64 t106, .int .i64 0]) ?_ 1 _ rfl; (with_reducible repeat (first | refine blk_drewN ?_ _ | refine blk_drew ?_ | refine blk_alloc ?_ _)); refine blk_put (cs := #[.int .i64 0, .int .i64 0]) ?_ 0 _ rfl; (with_reducible repeat (first | refine blk_drewN ?_ _ | refine blk_drew ?_ | refine blk_alloc ?_ _)); exact BK109.out) hb); have n3_ := Aside0.mk (below_step ahx hb); clear BK101; clear BK102; clear BK109; clear HB; have BK101 := n0_; have BK102 := n1_; have BK109 := n2_; have HB := n3_; clear n0_ n1_ n2_ n3_; (try clear hb); (try clear hb2); (try clear hk); (try clear hi)) | ((with_reducible refine gate_dst (N := 10) rfl ?_); refine box_event ?hg (N := 10) ?hd (cs := #[.int .i64 0, .int .i64 0]) (t := 23) ?hr ?_; (case hd => rfl); (case hg => rfl); (case hr => first | (go_simp; done) | (go_simp; rfl)); intro gb112 hg w35 hbox hb; have n0_ := Aside0.mk (blk_below (g := gb101) (o := .cells #[.int .i64 a0_0, .int .i64 a0_1] 23 (0, 0)) abx hb); have n1_ := Aside0.mk (blk_below (g := gb102) (o := .cells #[.int .i64 a1_0, .int .i64 a1_1] 23 (0, 0)) abx hb); have n2_ := Aside0.mk (blk_below (g := gb109) (o := .cells #[.int .i64 t106, .int .i64 t107] 23 (0, 0)) abx hb); have n3_ := Aside0.mk (below_step ahx hb); have n4_ := Aside0.mk (hbox); have n5_ := Aside0.mk ((by rw [hg]; exact (below_size ahx) : w.heap.size ≤ gb112)); have n6_ := Aside0.mk ((by rw [hg]; exact (below_size ahx) : w.heap.size ≤ gb112)); have n7_ := Aside0.mk ((by rw [hg]; exact Nat.ne_of_lt (blk_lt (g := gb101) (o := .cells #[.int .i64 a0_0, .int .i64 a0_1] 23 (0, 0)) abx) : gb101 ≠ gb112)); have n8_ := Aside0.mk ((by rw [hg]; exact Nat.ne_of_gt (blk_lt (g := gb101) (o := .cells #[.int .i64 a0_0, .int .i64 a0_1] 23 (0, 0)) abx) : gb112 ≠ gb101)); have n9_ := Aside0.mk ((by rw [hg]; exact Nat.ne_of_lt (blk_lt (g := gb102) (o := .cells #[.int .i64 a1_0, .int .i64 a1_1] 23 (0, 0)) abx) : gb102 ≠ gb112)); have n10_ := Aside0.mk ((by rw [hg]; exact Nat.ne_of_gt (blk_lt (g := gb102) (o := .cells #[.int .i64 a1_0, .int .i64 a1_1] 23 (0, 0)) abx) : gb112 ≠ gb102)); have n11_ := Aside0.mk ((by rw [hg]; exact Nat.ne_of_lt (blk_lt (g := gb109) (o := .cells #[.int .i64 t106, .int .i64 t107] 23 (0, 0)) abx) : gb109 ≠ gb112)); have n12_ := Aside0.mk ((by rw [hg]; exact Nat.ne_of_gt (blk_lt (g := gb109) (o := .cells #[.int .i64 t106, .int .i64 t107] 23 (0, 0)) abx) : gb112 ≠ gb109)); clear BK101; clear BK102; clear BK109; clear HB; have BK101 := n0_; have BK102 := n1_; have BK109 := n2_; have HB := n3_; have BK112 := n4_; have GW112 := n5_; have GE112 := n6_; have NB101_112 := n7_; have NB112_101 := n8_; have NB102_112 := n9_; have NB112_102 := n10_; have NB109_112 := n11_; have NB112_109 := n12_; clear n0_ n1_ n2_ n3_ n4_ n5_ n6_ n7_ n8_ n9_ n10_ n11_ n12_; clear hb hbox hg; have hnb36 := NB112_101.out; have hnc36 := NB101_112.out; have hnb37 := NB112_102.out; have hnc37 := NB102_112.out; have hnb38 := NB112_109.out; have hnc38 := NB109_112.out; have hcz39_0 : w35.cell? ⟨gb112, 0, none⟩ = some (.int .i64 0) := (blk_cell BK112.out 0).trans rfl; have hcz39_1 : w35.cell? ⟨gb112, 1, none⟩ = some (.int .i64 0) := (blk_cell BK112.out 1).trans rfl; have hfz39_0 := blk_frozen BK112.out 0; have hfz39_1 := blk_frozen BK112.out 1))
    (try simp only [Act.put, List.setIfInBounds_toArray, List.set_cons_zero, List.set_cons_succ])
    go_cut [11] (fun v11 wc => ∃ (kq : Nat) (x11_22 : Bool), v11 = .bool x11_22 ∧ Aside0 (bournelaw09_SpanMeets.j1 kq a2 t103 t108 x11_22 a0_0 a0_1 a1_0 a1_1 t106 t107 t110 t111 = some r) ∧ Aside0 (kq ≤ kj4) ∧ Aside0 (wc.heap[gb101]? = some (.cells #[.int .i64 a0_0, .int .i64 a0_1] 23 (0, 0))) ∧ Aside0 (wc.heap[gb102]? = some (.cells #[.int .i64 a1_0, .int .i64 a1_1] 23 (0, 0))) ∧ Aside0 (wc.heap[gb109]? = some (.cells #[.int .i64 t106, .int .i64 t107] 23 (0, 0))) ∧ Aside0 (wc.heap[gb112]? = some (.cells #[.int .i64 t110, .int .i64 t111] 23 (0, 0))) ∧ Aside0 (Below w.heap.size w wc))
    case first =>
     have H := HC23.out
     clear HC23
     replace H := Option.bind_eq_some_iff.mp H
     obtain ⟨t113, A400, H⟩ := H
     replace H : (if t113 = true then ((span_Has.f a1_0 a1_1 a2).bind fun t114 => (bournelaw09_SpanMeets.j1 kj4 a2 t103 t108 t114 a0_0 a0_1 a1_0 a1_1 t106 t107 t110 t111)) else (bournelaw09_SpanMeets.j1 kj4 a2 t103 t108 false a0_0 a0_1 a1_0 a1_1 t106 t107 t110 t111)) = some r := H
     have A40 := Aside0.mk A400
     clear A400
     by_cases c41 : t113 = true
     ·subst c41
      have H1 : ((span_Has.f a1_0 a1_1 a2).bind fun t114 => (bournelaw09_SpanMeets.j1 kj4 a2 t103 t108 t114 a0_0 a0_1 a1_0 a1_1 t106 t107 t110 t111)) = some r := by rw [if_pos rfl] at H; exact H
      clear H
      have H := H1
      clear H1
      replace H := Option.bind_eq_some_iff.mp H
      obtain ⟨t114, A420, H⟩ := H
      replace H : (bournelaw09_SpanMeets.j1 kj4 a2 t103 t108 t114 a0_0 a0_1 a1_0 a1_1 t106 t107 t110 t111) = some r := H
      have A42 := Aside0.mk A420
      clear A420
      have H' := Aside0.mk H
      clear H
      have hnb43 := NB101_102.out
      have hnc43 := NB102_101.out
      have hnb44 := NB101_109.out
      have hnc44 := NB109_101.out
      have hnb45 := NB101_112.out
      have hnc45 := NB112_101.out
      have hcz46_0 : w35.cell? ⟨gb101, 0, none⟩ = some (.int .i64 a0_0) := (blk_cell BK101.out 0).trans rfl
      have hcz46_1 : w35.cell? ⟨gb101, 1, none⟩ = some (.int .i64 a0_1) := (blk_cell BK101.out 1).trans rfl
      have hfz46_0 := blk_frozen BK101.out 0
      have hfz46_1 := blk_frozen BK101.out 1
      go_wp2_with (first | ((with_reducible refine gate_callee (f := 17) rfl ?_); refine goesL_ (some 33) rfl rfl Try.func17 (by kernel_rfl) rfl #[.agg #[.int .i64 a0_0, .int .i64 a0_1], .int .i64 a2] rfl (by first | done | rfl) ?_; (with_reducible refine (span_Has.calls a0_0 a0_1 a2 true _ A40.out).mono ?_); rintro e w47 ⟨rfl, hb⟩; refine ⟨_, rfl, ?_⟩; have n0_ := Aside0.mk (blk_below (g := gb101) (o := .cells #[.int .i64 a0_0, .int .i64 a0_1] 23 (0, 0)) (by (with_reducible repeat (first | refine blk_drewN ?_ _ | refine blk_drew ?_ | refine blk_alloc ?_ _)); refine blk_far ?_ NB101_112.out _; (with_reducible repeat (first | refine blk_drewN ?_ _ | refine blk_drew ?_ | refine blk_alloc ?_ _)); refine blk_far ?_ NB101_112.out _; (with_reducible repeat (first | refine blk_drewN ?_ _ | refine blk_drew ?_ | refine blk_alloc ?_ _)); exact BK101.out) hb); have n1_ := Aside0.mk (blk_below (g := gb102) (o := .cells #[.int .i64 a1_0, .int .i64 a1_1] 23 (0, 0)) (by (with_reducible repeat (first | refine blk_drewN ?_ _ | refine blk_drew ?_ | refine blk_alloc ?_ _)); refine blk_far ?_ NB102_112.out _; (with_reducible repeat (first | refine blk_drewN ?_ _ | refine blk_drew ?_ | refine blk_alloc ?_ _)); refine blk_far ?_ NB102_112.out _; (with_reducible repeat (first | refine blk_drewN ?_ _ | refine blk_drew ?_ | refine blk_alloc ?_ _)); exact BK102.out) hb); have n2_ := Aside0.mk (blk_below (g := gb109) (o := .cells #[.int .i64 t106, .int .i64 t107] 23 (0, 0)) (by (with_reducible repeat (first | refine blk_drewN ?_ _ | refine blk_drew ?_ | refine blk_alloc ?_ _)); refine blk_far ?_ NB109_112.out _; (with_reducible repeat (first | refine blk_drewN ?_ _ | refine blk_drew ?_ | refine blk_alloc ?_ _)); refine blk_far ?_ NB109_112.out _; (with_reducible repeat (first | refine blk_drewN ?_ _ | refine blk_drew ?_ | refine blk_alloc ?_ _)); exact BK109.out) hb); have n3_ := Aside0.mk (blk_below (g := gb112) (o := .cells #[.int .i64 t110, .int .i64 t111] 23 (0, 0)) (by (with_reducible repeat (first | refine blk_drewN ?_ _ | refine blk_drew ?_ | refine blk_alloc ?_ _)); refine blk_put (cs := #[.int .i64 t110, .int .i64 0]) ?_ 1 _ rfl; (with_reducible repeat (first | refine blk_drewN ?_ _ | refine blk_drew ?_ | refine blk_alloc ?_ _)); refine blk_put (cs := #[.int .i64 0, .int .i64 0]) ?_ 0 _ rfl; (with_reducible repeat (first | refine blk_drewN ?_ _ | refine blk_drew ?_ | refine blk_alloc ?_ _)); exact BK112.out) hb); have n4_ := Aside0.mk (below_step ahx hb); clear BK101; clear BK102; clear BK109; clear BK112; clear HB; have BK101 := n0_; have BK102 := n1_; have BK109 := n2_; have BK112 := n3_; have HB := n4_; clear n0_ n1_ n2_ n3_ n4_; (try clear hb); (try clear hb2); (try clear hk); (try clear hi); have hnb48 := NB102_109.out; have hnc48 := NB109_102.out; have hnb49 := NB102_112.out; have hnc49 := NB112_102.out; have hcz50_0 : w47.cell? ⟨gb102, 0, none⟩ = some (.int .i64 a1_0) := (blk_cell BK102.out 0).trans rfl; have hcz50_1 : w47.cell? ⟨gb102, 1, none⟩ = some (.int .i64 a1_1) := (blk_cell BK102.out 1).trans rfl; have hfz50_0 := blk_frozen BK102.out 0; have hfz50_1 := blk_frozen BK102.out 1) | (go_at_call 17; (with_reducible refine (span_Has.calls a0_0 a0_1 a2 true _ A40.out).mono ?_); rintro e w47 ⟨rfl, hb⟩; have n0_ := Aside0.mk (blk_below (g := gb101) (o := .cells #[.int .i64 a0_0, .int .i64 a0_1] 23 (0, 0)) (by (with_reducible repeat (first | refine blk_drewN ?_ _ | refine blk_drew ?_ | refine blk_alloc ?_ _)); refine blk_far ?_ NB101_112.out _; (with_reducible repeat (first | refine blk_drewN ?_ _ | refine blk_drew ?_ | refine blk_alloc ?_ _)); refine blk_far ?_ NB101_112.out _; (with_reducible repeat (first | refine blk_drewN ?_ _ | refine blk_drew ?_ | refine blk_alloc ?_ _)); exact BK101.out) hb); have n1_ := Aside0.mk (blk_below (g := gb102) (o := .cells #[.int .i64 a1_0, .int .i64 a1_1] 23 (0, 0)) (by (with_reducible repeat (first | refine blk_drewN ?_ _ | refine blk_drew ?_ | refine blk_alloc ?_ _)); refine blk_far ?_ NB102_112.out _; (with_reducible repeat (first | refine blk_drewN ?_ _ | refine blk_drew ?_ | refine blk_alloc ?_ _)); refine blk_far ?_ NB102_112.out _; (with_reducible repeat (first | refine blk_drewN ?_ _ | refine blk_drew ?_ | refine blk_alloc ?_ _)); exact BK102.out) hb); have n2_ := Aside0.mk (blk_below (g := gb109) (o := .cells #[.int .i64 t106, .int .i64 t107] 23 (0, 0)) (by (with_reducible repeat (first | refine blk_drewN ?_ _ | refine blk_drew ?_ | refine blk_alloc ?_ _)); refine blk_far ?_ NB109_112.out _; (with_reducible repeat (first | refine blk_drewN ?_ _ | refine blk_drew ?_ | refine blk_alloc ?_ _)); refine blk_far ?_ NB109_112.out _; (with_reducible repeat (first | refine blk_drewN ?_ _ | refine blk_drew ?_ | refine blk_alloc ?_ _)); exact BK109.out) hb); have n3_ := Aside0.mk (blk_below (g := gb112) (o := .cells #[.int .i64 t110, .int .i64 t111] 23 (0, 0)) (by (with_reducible repeat (first | refine blk_drewN ?_ _ | refine blk_drew ?_ | refine blk_alloc ?_ _)); refine blk_put (cs := #[.int .i64 t110, .int .i64 0]) ?_ 1 _ rfl; (with_reducible repeat (first | refine blk_drewN ?_ _ | refine blk_drew ?_ | refine blk_alloc ?_ _)); refine blk_put (cs := #[.int .i64 0, .int .i64 0]) ?_ 0 _ rfl; (with_reducible repeat (first | refine blk_drewN ?_ _ | refine blk_drew ?_ | refine blk_alloc ?_ _)); exact BK112.out) hb); have n4_ := Aside0.mk (below_step ahx hb); clear BK101; clear BK102; clear BK109; clear BK112; clear HB; have BK101 := n0_; have BK102 := n1_; have BK109 := n2_; have BK112 := n3_; have HB := n4_; clear n0_ n1_ n2_ n3_ n4_; (try clear hb); (try clear hb2); (try clear hk); (try clear hi); have hnb48 := NB102_109.out; have hnc48 := NB109_102.out; have hnb49 := NB102_112.out; have hnc49 := NB112_102.out; have hcz50_0 : w47.cell? ⟨gb102, 0, none⟩ = some (.int .i64 a1_0) := (blk_cell BK102.out 0).trans rfl; have hcz50_1 : w47.cell? ⟨gb102, 1, none⟩ = some (.int .i64 a1_1) := (blk_cell BK102.out 1).trans rfl; have hfz50_0 := blk_frozen BK102.out 0; have hfz50_1 := blk_frozen BK102.out 1) | (go_at_call 17; (with_reducible refine (span_Has.calls a1_0 a1_1 a2 t114 _ A42.out).mono ?_); rintro e w51 ⟨rfl, hb⟩; have n0_ := Aside0.mk (blk_below (g := gb101) (o := .cells #[.int .i64 a0_0, .int .i64 a0_1] 23 (0, 0)) abx hb); have n1_ := Aside0.mk (blk_below (g := gb102) (o := .cells #[.int .i64 a1_0, .int .i64 a1_1] 23 (0, 0)) abx hb); have n2_ := Aside0.mk (blk_below (g := gb109) (o := .cells #[.int .i64 t106, .int .i64 t107] 23 (0, 0)) abx hb); have n3_ := Aside0.mk (blk_below (g := gb112) (o := .cells #[.int .i64 t110, .int .i64 t111] 23 (0, 0)) abx hb); have n4_ := Aside0.mk (below_step ahx hb); clear BK101; clear BK102; clear BK109; clear BK112; clear HB; have BK101 := n0_; have BK102 := n1_; have BK109 := n2_; have BK112 := n3_; have HB := n4_; clear n0_ n1_ n2_ n3_ n4_; (try clear hb); (try clear hb2); (try clear hk); (try clear hi)))
      go_meet
      case rel => exact ⟨_, (t114), (by first | rfl | (simp; done) | (simp [*]; done)), H', ⟨by have := HJ4.out; first | omega | exact Nat.le_refl _⟩, ⟨by (with_reducible repeat (first | refine blk_drewN ?_ _ | refine blk_drew ?_ | refine blk_alloc ?_ _)); exact BK101.out⟩, ⟨by (with_reducible repeat (first | refine blk_drewN ?_ _ | refine blk_drew ?_ | refine blk_alloc ?_ _)); exact BK102.out⟩, ⟨by (with_reducible repeat (first | refine blk_drewN ?_ _ | refine blk_drew ?_ | refine blk_alloc ?_ _)); exact BK109.out⟩, ⟨by (with_reducible repeat (first | refine blk_drewN ?_ _ | refine blk_drew ?_ | refine blk_alloc ?_ _)); exact BK112.out⟩, ⟨ahx⟩⟩
     ·replace c41 := Bool.eq_false_iff.mpr c41
      subst c41
      have H1 : (bournelaw09_SpanMeets.j1 kj4 a2 t103 t108 false a0_0 a0_1 a1_0 a1_1 t106 t107 t110 t111) = some r := by rw [if_neg (show ¬ (false = true) by decide)] at H; exact H
      clear H
      have H := H1
      clear H1
      have H' := Aside0.mk H
      clear H
      have hnb52 := NB101_102.out
      have hnc52 := NB102_101.out
      have hnb53 := NB101_109.out
      have hnc53 := NB109_101.out
      have hnb54 := NB101_112.out
      have hnc54 := NB112_101.out
      have hcz55_0 : w35.cell? ⟨gb101, 0, none⟩ = some (.int .i64 a0_0) := (blk_cell BK101.out 0).trans rfl
      have hcz55_1 : w35.cell? ⟨gb101, 1, none⟩ = some (.int .i64 a0_1) := (blk_cell BK101.out 1).trans rfl
      have hfz55_0 := blk_frozen BK101.out 0
      have hfz55_1 := blk_frozen BK101.out 1
      go_wp2_with (first | ((with_reducible refine gate_callee (f := 17) rfl ?_); refine goesL_ (some 33) rfl rfl Try.func17 (by kernel_rfl) rfl #[.agg #[.int .i64 a0_0, .int .i64 a0_1], .int .i64 a2] rfl (by first | done | rfl) ?_; (with_reducible refine (span_Has.calls a0_0 a0_1 a2 false _ A40.out).mono ?_); rintro e w56 ⟨rfl, hb⟩; refine ⟨_, rfl, ?_⟩; have n0_ := Aside0.mk (blk_below (g := gb101) (o := .cells #[.int .i64 a0_0, .int .i64 a0_1] 23 (0, 0)) (by (with_reducible repeat (first | refine blk_drewN ?_ _ | refine blk_drew ?_ | refine blk_alloc ?_ _)); refine blk_far ?_ NB101_112.out _; (with_reducible repeat (first | refine blk_drewN ?_ _ | refine blk_drew ?_ | refine blk_alloc ?_ _)); refine blk_far ?_ NB101_112.out _; (with_reducible repeat (first | refine blk_drewN ?_ _ | refine blk_drew ?_ | refine blk_alloc ?_ _)); exact BK101.out) hb); have n1_ := Aside0.mk (blk_below (g := gb102) (o := .cells #[.int .i64 a1_0, .int .i64 a1_1] 23 (0, 0)) (by (with_reducible repeat (first | refine blk_drewN ?_ _ | refine blk_drew ?_ | refine blk_alloc ?_ _)); refine blk_far ?_ NB102_112.out _; (with_reducible repeat (first | refine blk_drewN ?_ _ | refine blk_drew ?_ | refine blk_alloc ?_ _)); refine blk_far ?_ NB102_112.out _; (with_reducible repeat (first | refine blk_drewN ?_ _ | refine blk_drew ?_ | refine blk_alloc ?_ _)); exact BK102.out) hb); have n2_ := Aside0.mk (blk_below (g := gb109) (o := .cells #[.int .i64 t106, .int .i64 t107] 23 (0, 0)) (by (with_reducible repeat (first | refine blk_drewN ?_ _ | refine blk_drew ?_ | refine blk_alloc ?_ _)); refine blk_far ?_ NB109_112.out _; (with_reducible repeat (first | refine blk_drewN ?_ _ | refine blk_drew ?_ | refine blk_alloc ?_ _)); refine blk_far ?_ NB109_112.out _; (with_reducible repeat (first | refine blk_drewN ?_ _ | refine blk_drew ?_ | refine blk_alloc ?_ _)); exact BK109.out) hb); have n3_ := Aside0.mk (blk_below (g := gb112) (o := .cells #[.int .i64 t110, .int .i64 t111] 23 (0, 0)) (by (with_reducible repeat (first | refine blk_drewN ?_ _ | refine blk_drew ?_ | refine blk_alloc ?_ _)); refine blk_put (cs := #[.int .i64 t110, .int .i64 0]) ?_ 1 _ rfl; (with_reducible repeat (first | refine blk_drewN ?_ _ | refine blk_drew ?_ | refine blk_alloc ?_ _)); refine blk_put (cs := #[.int .i64 0, .int .i64 0]) ?_ 0 _ rfl; (with_reducible repeat (first | refine blk_drewN ?_ _ | refine blk_drew ?_ | refine blk_alloc ?_ _)); exact BK112.out) hb); have n4_ := Aside0.mk (below_step ahx hb); clear BK101; clear BK102; clear BK109; clear BK112; clear HB; have BK101 := n0_; have BK102 := n1_; have BK109 := n2_; have BK112 := n3_; have HB := n4_; clear n0_ n1_ n2_ n3_ n4_; (try clear hb); (try clear hb2); (try clear hk); (try clear hi)) | (go_at_call 17; (with_reducible refine (span_Has.calls a0_0 a0_1 a2 false _ A40.out).mono ?_); rintro e w56 ⟨rfl, hb⟩; have n0_ := Aside0.mk (blk_below (g := gb101) (o := .cells #[.int .i64 a0_0, .int .i64 a0_1] 23 (0, 0)) (by (with_reducible repeat (first | refine blk_drewN ?_ _ | refine blk_drew ?_ | refine blk_alloc ?_ _)); refine blk_far ?_ NB101_112.out _; (with_reducible repeat (first | refine blk_drewN ?_ _ | refine blk_drew ?_ | refine blk_alloc ?_ _)); refine blk_far ?_ NB101_112.out _; (with_reducible repeat (first | refine blk_drewN ?_ _ | refine blk_drew ?_ | refine blk_alloc ?_ _)); exact BK101.out) hb); have n1_ := Aside0.mk (blk_below (g := gb102) (o := .cells #[.int .i64 a1_0, .int .i64 a1_1] 23 (0, 0)) (by (with_reducible repeat (first | refine blk_drewN ?_ _ | refine blk_drew ?_ | refine blk_alloc ?_ _)); refine blk_far ?_ NB102_112.out _; (with_reducible repeat (first | refine blk_drewN ?_ _ | refine blk_drew ?_ | refine blk_alloc ?_ _)); refine blk_far ?_ NB102_112.out _; (with_reducible repeat (first | refine blk_drewN ?_ _ | refine blk_drew ?_ | refine blk_alloc ?_ _)); exact BK102.out) hb); have n2_ := Aside0.mk (blk_below (g := gb109) (o := .cells #[.int .i64 t106, .int .i64 t107] 23 (0, 0)) (by (with_reducible repeat (first | refine blk_drewN ?_ _ | refine blk_drew ?_ | refine blk_alloc ?_ _)); refine blk_far ?_ NB109_112.out _; (with_reducible repeat (first | refine blk_drewN ?_ _ | refine blk_drew ?_ | refine blk_alloc ?_ _)); refine blk_far ?_ NB109_112.out _; (with_reducible repeat (first | refine blk_drewN ?_ _ | refine blk_drew ?_ | refine blk_alloc ?_ _)); exact BK109.out) hb); have n3_ := Aside0.mk (blk_below (g := gb112) (o := .cells #[.int .i64 t110, .int .i64 t111] 23 (0, 0)) (by (with_reducible repeat (first | refine blk_drewN ?_ _ | refine blk_drew ?_ | refine blk_alloc ?_ _)); refine blk_put (cs := #[.int .i64 t110, .int .i64 0]) ?_ 1 _ rfl; (with_reducible repeat (first | refine blk_drewN ?_ _ | refine blk_drew ?_ | refine blk_alloc ?_ _)); refine blk_put (cs := #[.int .i64 0, .int .i64 0]) ?_ 0 _ rfl; (with_reducible repeat (first | refine blk_drewN ?_ _ | refine blk_drew ?_ | refine blk_alloc ?_ _)); exact BK112.out) hb); have n4_ := Aside0.mk (below_step ahx hb); clear BK101; clear BK102; clear BK109; clear BK112; clear HB; have BK101 := n0_; have BK102 := n1_; have BK109 := n2_; have BK112 := n3_; have HB := n4_; clear n0_ n1_ n2_ n3_ n4_; (try clear hb); (try clear hb2); (try clear hk); (try clear hi)))
      go_meet
      case rel => exact ⟨_, (false), (by first | rfl | (simp; done) | (simp [*]; done)), H', ⟨by have := HJ4.out; first | omega | exact Nat.le_refl _⟩, ⟨by (with_reducible repeat (first | refine blk_drewN ?_ _ | refine blk_drew ?_ | refine blk_alloc ?_ _)); exact BK101.out⟩, ⟨by (with_reducible repeat (first | refine blk_drewN ?_ _ | refine blk_drew ?_ | refine blk_alloc ?_ _)); exact BK102.out⟩, ⟨by (with_reducible repeat (first | refine blk_drewN ?_ _ | refine blk_drew ?_ | refine blk_alloc ?_ _)); exact BK109.out⟩, ⟨by (with_reducible repeat (first | refine blk_drewN ?_ _ | refine blk_drew ?_ | refine blk_alloc ?_ _)); exact BK112.out⟩, ⟨ahx⟩⟩
    case rest =>
     clear HC23
     try clear c1
     try clear c2
     try clear p2
     try clear c3
     try clear c4
     try clear c5
     try clear c8
     try clear c10
     try clear c11
     try clear c12
     try clear c13
     try clear c17
     try clear c20
     try clear c23
     try clear c24
     try clear c29
     try clear c30
     try clear c36
     try clear c37
     try clear c38
     try clear c41
     try clear c43
     try clear c44
     try clear c45
     try clear c48
     try clear c49
     try clear c52
     try clear c53
     try clear c54
     try clear hcz13_0
     try clear hcz13_1
     try clear hcz15_0
     try clear hcz15_1
     try clear hcz18_0
     try clear hcz18_1
     try clear hcz25_0
     try clear hcz25_1
     try clear hcz26_0
     try clear hcz26_1
     try clear hcz31_0
     try clear hcz31_1
     try clear hcz32_0
     try clear hcz32_1
     try clear hcz33_0
     try clear hcz33_1
     try clear hcz39_0
     try clear hcz39_1
     try clear hcz46_0
     try clear hcz46_1
     try clear hcz50_0
     try clear hcz50_1
     try clear hcz55_0
     try clear hcz55_1
     try clear hfz13_0
     try clear hfz13_1
     try clear hfz15_0
     try clear hfz15_1
     try clear hfz18_0
     try clear hfz18_1
     try clear hfz25_0
     try clear hfz25_1
     try clear hfz26_0
     try clear hfz26_1
     try clear hfz31_0
     try clear hfz31_1
     try clear hfz32_0
     try clear hfz32_1
     try clear hfz33_0
     try clear hfz33_1
     try clear hfz39_0
     try clear hfz39_1
     try clear hfz46_0
     try clear hfz46_1
     try clear hfz50_0
     try clear hfz50_1
     try clear hfz55_0
     try clear hfz55_1
     try clear p2
     obtain ⟨kq, x11_22, rfl, HA, HJ22, BK101, BK102, BK109, BK112, HB⟩ := hcut
     cases kq with
     | zero => exact absurd HA.out (by simp [bournelaw09_SpanMeets.j1])
     | succ kj22 =>
      have H := HA.out
      clear HA
      simp only [bournelaw09_SpanMeets.j1] at H
      have HC57 := Aside0.mk H
      clear H
      go_upto_region 7 with (fail)
      go_cut [75] (fun v75 wc => ∃ (kq : Nat) (x75_56 : Bool), v75 = .bool x75_56 ∧ Aside0 (bournelaw09_SpanMeets.j2 kq a2 t103 x75_56 a0_0 a0_1 a1_0 a1_1 t110 t111 = some r) ∧ Aside0 (kq ≤ kj22) ∧ Aside0 (wc.heap[gb101]? = some (.cells #[.int .i64 a0_0, .int .i64 a0_1] 23 (0, 0))) ∧ Aside0 (wc.heap[gb102]? = some (.cells #[.int .i64 a1_0, .int .i64 a1_1] 23 (0, 0))) ∧ Aside0 (wc.heap[gb109]? = some (.cells #[.int .i64 t106, .int .i64 t107] 23 (0, 0))) ∧ Aside0 (wc.heap[gb112]? = some (.cells #[.int .i64 t110, .int .i64 t111] 23 (0, 0))) ∧ Aside0 (Below w.heap.size w wc))
      case first =>
       have H := HC57.out
       clear HC57
       by_cases c58 : t108 = true
       ·subst c58
        have H1 : ((span_Has.f t106 t107 a2).bind fun t115 => (if (x11_22 != t115) = true then (bournelaw09_SpanMeets.j2 kj22 a2 t103 true a0_0 a0_1 a1_0 a1_1 t110 t111) else ((span_Within.f t106 t107 a0_0 a0_1).bind fun t116 => (if t116 = true then ((span_Within.f t106 t107 a1_0 a1_1).bind fun t117 => (if t117 = true then ((span_Right.f t106 t107).bind fun t118 => (if t118 = true then (bournelaw09_SpanMeets.j2 kj22 a2 t103 false a0_0 a0_1 a1_0 a1_1 t110 t111) else (bournelaw09_SpanMeets.j2 kj22 a2 t103 true a0_0 a0_1 a1_0 a1_1 t110 t111))) else (bournelaw09_SpanMeets.j2 kj22 a2 t103 true a0_0 a0_1 a1_0 a1_1 t110 t111))) else (bournelaw09_SpanMeets.j2 kj22 a2 t103 true a0_0 a0_1 a1_0 a1_1 t110 t111))))) = some r := by rw [if_pos rfl] at H; exact H
        clear H
        have H := H1
        clear H1
        replace H := Option.bind_eq_some_iff.mp H
        obtain ⟨t115, A590, H⟩ := H
        replace H : (if (x11_22 != t115) = true then (bournelaw09_SpanMeets.j2 kj22 a2 t103 true a0_0 a0_1 a1_0 a1_1 t110 t111) else ((span_Within.f t106 t107 a0_0 a0_1).bind fun t116 => (if t116 = true then ((span_Within.f t106 t107 a1_0 a1_1).bind fun t117 => (if t117 = true then ((span_Right.f t106 t107).bind fun t118 => (if t118 = true then (bournelaw09_SpanMeets.j2 kj22 a2 t103 false a0_0 a0_1 a1_0 a1_1 t110 t111) else (bournelaw09_SpanMeets.j2 kj22 a2 t103 true a0_0 a0_1 a1_0 a1_1 t110 t111))) else (bournelaw09_SpanMeets.j2 kj22 a2 t103 true a0_0 a0_1 a1_0 a1_1 t110 t111))) else (bournelaw09_SpanMeets.j2 kj22 a2 t103 true a0_0 a0_1 a1_0 a1_1 t110 t111)))) = some r := H
        have A59 := Aside0.mk A590
        clear A590
        by_cases c60 : (x11_22 != t115) = true
        ·rw [if_pos c60] at H
         have c60b0 : (x11_22 != t115) = true := c60
         (try (have c60b1 : decide (x11_22 = t115) = false := by simpa using c60))
         (try (have c60b2 : (x11_22 == t115) = false := by simpa using c60))
         (try (have c60b3 : ¬ (x11_22 = t115) := by simpa using c60))
         clear c60
         (first | rw [c60b0] | (simp only [i64_w, i32_w]; rw [c60b0]) | skip)
         have H' := Aside0.mk H
         clear H
         have hnb61 := NB109_101.out
         have hnc61 := NB101_109.out
         have hnb62 := NB109_102.out
         have hnc62 := NB102_109.out
         have hnb63 := NB109_112.out
         have hnc63 := NB112_109.out
         have hcz64_0 : wc.cell? ⟨gb109, 0, none⟩ = some (.int .i64 t106) := (blk_cell BK109.out 0).trans rfl
         have hcz64_1 : wc.cell? ⟨gb109, 1, none⟩ = some (.int .i64 t107) := (blk_cell BK109.out 1).trans rfl
         have hfz64_0 := blk_frozen BK109.out 0
         have hfz64_1 := blk_frozen BK109.out 1
         go_wp2_with (first | (go_at_call 17; (with_reducible refine (span_Has.calls t106 t107 a2 t115 _ A59.out).mono ?_); rintro e w65 ⟨rfl, hb⟩; have n0_ := Aside0.mk (blk_below (g := gb101) (o := .cells #[.int .i64 a0_0, .int .i64 a0_1] 23 (0, 0)) abx hb); have n1_ := Aside0.mk (blk_below (g := gb102) (o := .cells #[.int .i64 a1_0, .int .i64 a1_1] 23 (0, 0)) abx hb); have n2_ := Aside0.mk (blk_below (g := gb109) (o := .cells #[.int .i64 t106, .int .i64 t107] 23 (0, 0)) abx hb); have n3_ := Aside0.mk (blk_below (g := gb112) (o := .cells #[.int .i64 t110, .int .i64 t111] 23 (0, 0)) abx hb); have n4_ := Aside0.mk (below_step ahx hb); clear BK101; clear BK102; clear BK109; clear BK112; clear HB; have BK101 := n0_; have BK102 := n1_; have BK109 := n2_; have BK112 := n3_; have HB := n4_; clear n0_ n1_ n2_ n3_ n4_; (try clear hb); (try clear hb2); (try clear hk); (try clear hi)))
         go_meet
         case rel => exact ⟨_, (true), (by first | rfl | (simp; done) | (simp [*]; done)), H', ⟨by have := HJ4.out; have := HJ22.out; first | omega | exact Nat.le_refl _⟩, ⟨by (with_reducible repeat (first | refine blk_drewN ?_ _ | refine blk_drew ?_ | refine blk_alloc ?_ _)); exact BK101.out⟩, ⟨by (with_reducible repeat (first | refine blk_drewN ?_ _ | refine blk_drew ?_ | refine blk_alloc ?_ _)); exact BK102.out⟩, ⟨by (with_reducible repeat (first | refine blk_drewN ?_ _ | refine blk_drew ?_ | refine blk_alloc ?_ _)); exact BK109.out⟩, ⟨by (with_reducible repeat (first | refine blk_drewN ?_ _ | refine blk_drew ?_ | refine blk_alloc ?_ _)); exact BK112.out⟩, ⟨ahx⟩⟩
        ·rw [if_neg c60] at H
         have c60b0 : (x11_22 != t115) = false := by simpa using c60
         (try (have c60b1 : decide (x11_22 = t115) = true := by simpa using c60))
         (try (have c60b2 : (x11_22 == t115) = true := by simpa using c60))
         clear c60
         (first | rw [c60b0] | (simp only [i64_w, i32_w]; rw [c60b0]) | skip)
         replace H := Option.bind_eq_some_iff.mp H
         obtain ⟨t116, A660, H⟩ := H
         replace H : (if t116 = true then ((span_Within.f t106 t107 a1_0 a1_1).bind fun t117 => (if t117 = true then ((span_Right.f t106 t107).bind fun t118 => (if t118 = true then (bournelaw09_SpanMeets.j2 kj22 a2 t103 false a0_0 a0_1 a1_0 a1_1 t110 t111) else (bournelaw09_SpanMeets.j2 kj22 a2 t103 true a0_0 a0_1 a1_0 a1_1 t110 t111))) else (bournelaw09_SpanMeets.j2 kj22 a2 t103 true a0_0 a0_1 a1_0 a1_1 t110 t111))) else (bournelaw09_SpanMeets.j2 kj22 a2 t103 true a0_0 a0_1 a1_0 a1_1 t110 t111)) = some r := H
         have A66 := Aside0.mk A660
         clear A660
         by_cases c67 : t116 = true
         ·subst c67
          have H1 : ((span_Within.f t106 t107 a1_0 a1_1).bind fun t117 => (if t117 = true then ((span_Right.f t106 t107).bind fun t118 => (if t118 = true then (bournelaw09_SpanMeets.j2 kj22 a2 t103 false a0_0 a0_1 a1_0 a1_1 t110 t111) else (bournelaw09_SpanMeets.j2 kj22 a2 t103 true a0_0 a0_1 a1_0 a1_1 t110 t111))) else (bournelaw09_SpanMeets.j2 kj22 a2 t103 true a0_0 a0_1 a1_0 a1_1 t110 t111))) = some r := by rw [if_pos rfl] at H; exact H
          clear H
          have H := H1
          clear H1
          replace H := Option.bind_eq_some_iff.mp H
          obtain ⟨t117, A680, H⟩ := H
          replace H : (if t117 = true then ((span_Right.f t106 t107).bind fun t118 => (if t118 = true then (bournelaw09_SpanMeets.j2 kj22 a2 t103 false a0_0 a0_1 a1_0 a1_1 t110 t111) else (bournelaw09_SpanMeets.j2 kj22 a2 t103 true a0_0 a0_1 a1_0 a1_1 t110 t111))) else (bournelaw09_SpanMeets.j2 kj22 a2 t103 true a0_0 a0_1 a1_0 a1_1 t110 t111)) = some r := H
          have A68 := Aside0.mk A680
          clear A680
          by_cases c69 : t117 = true
          ·subst c69
           have H1 : ((span_Right.f t106 t107).bind fun t118 => (if t118 = true then (bournelaw09_SpanMeets.j2 kj22 a2 t103 false a0_0 a0_1 a1_0 a1_1 t110 t111) else (bournelaw09_SpanMeets.j2 kj22 a2 t103 true a0_0 a0_1 a1_0 a1_1 t110 t111))) = some r := by rw [if_pos rfl] at H; exact H
           clear H
           have H := H1
           clear H1
           replace H := Option.bind_eq_some_iff.mp H
           obtain ⟨t118, A700, H⟩ := H
           replace H : (if t118 = true then (bournelaw09_SpanMeets.j2 kj22 a2 t103 false a0_0 a0_1 a1_0 a1_1 t110 t111) else (bournelaw09_SpanMeets.j2 kj22 a2 t103 true a0_0 a0_1 a1_0 a1_1 t110 t111)) = some r := H
           have A70 := Aside0.mk A700
           clear A700
           by_cases c71 : t118 = true
           ·subst c71
            have H1 : (bournelaw09_SpanMeets.j2 kj22 a2 t103 false a0_0 a0_1 a1_0 a1_1 t110 t111) = some r := by rw [if_pos rfl] at H; exact H
            clear H
            have H := H1
            clear H1
            have H' := Aside0.mk H
            clear H
            have hnb72 := NB109_101.out
            have hnc72 := NB101_109.out
            have hnb73 := NB109_102.out
            have hnc73 := NB102_109.out
            have hnb74 := NB109_112.out
            have hnc74 := NB112_109.out
            have hcz75_0 : wc.cell? ⟨gb109, 0, none⟩ = some (.int .i64 t106) := (blk_cell BK109.out 0).trans rfl
            have hcz75_1 : wc.cell? ⟨gb109, 1, none⟩ = some (.int .i64 t107) := (blk_cell BK109.out 1).trans rfl
            have hfz75_0 := blk_frozen BK109.out 0
            have hfz75_1 := blk_frozen BK109.out 1
            go_wp2_with (first | (go_at_call 17; (with_reducible refine (span_Has.calls t106 t107 a2 t115 _ A59.out).mono ?_); rintro e w76 ⟨rfl, hb⟩; have n0_ := Aside0.mk (blk_below (g := gb101) (o := .cells #[.int .i64 a0_0, .int .i64 a0_1] 23 (0, 0)) abx hb); have n1_ := Aside0.mk (blk_below (g := gb102) (o := .cells #[.int .i64 a1_0, .int .i64 a1_1] 23 (0, 0)) abx hb); have n2_ := Aside0.mk (blk_below (g := gb109) (o := .cells #[.int .i64 t106, .int .i64 t107] 23 (0, 0)) abx hb); have n3_ := Aside0.mk (blk_below (g := gb112) (o := .cells #[.int .i64 t110, .int .i64 t111] 23 (0, 0)) abx hb); have n4_ := Aside0.mk (below_step ahx hb); clear BK101; clear BK102; clear BK109; clear BK112; clear HB; have BK101 := n0_; have BK102 := n1_; have BK109 := n2_; have BK112 := n3_; have HB := n4_; clear n0_ n1_ n2_ n3_ n4_; (try clear hb); (try clear hb2); (try clear hk); (try clear hi); have hcz77_0 : w76.cell? ⟨gb109, 0, none⟩ = some (.int .i64 t106) := (blk_cell BK109.out 0).trans rfl; have hcz77_1 : w76.cell? ⟨gb109, 1, none⟩ = some (.int .i64 t107) := (blk_cell BK109.out 1).trans rfl; have hfz77_0 := blk_frozen BK109.out 0; have hfz77_1 := blk_frozen BK109.out 1; have hnb78 := NB101_102.out; have hnc78 := NB102_101.out; have hnb79 := NB101_112.out; have hnc79 := NB112_101.out; have hcz80_0 : w76.cell? ⟨gb101, 0, none⟩ = some (.int .i64 a0_0) := (blk_cell BK101.out 0).trans rfl; have hcz80_1 : w76.cell? ⟨gb101, 1, none⟩ = some (.int .i64 a0_1) := (blk_cell BK101.out 1).trans rfl; have hfz80_0 := blk_frozen BK101.out 0; have hfz80_1 := blk_frozen BK101.out 1) | (go_at_call 25; (with_reducible refine (span_Within.calls t106 t107 a0_0 a0_1 true _ A66.out).mono ?_); rintro e w81 ⟨rfl, hb⟩; have n0_ := Aside0.mk (blk_below (g := gb101) (o := .cells #[.int .i64 a0_0, .int .i64 a0_1] 23 (0, 0)) abx hb); have n1_ := Aside0.mk (blk_below (g := gb102) (o := .cells #[.int .i64 a1_0, .int .i64 a1_1] 23 (0, 0)) abx hb); have n2_ := Aside0.mk (blk_below (g := gb109) (o := .cells #[.int .i64 t106, .int .i64 t107] 23 (0, 0)) abx hb); have n3_ := Aside0.mk (blk_below (g := gb112) (o := .cells #[.int .i64 t110, .int .i64 t111] 23 (0, 0)) abx hb); have n4_ := Aside0.mk (below_step ahx hb); clear BK101; clear BK102; clear BK109; clear BK112; clear HB; have BK101 := n0_; have BK102 := n1_; have BK109 := n2_; have BK112 := n3_; have HB := n4_; clear n0_ n1_ n2_ n3_ n4_; (try clear hb); (try clear hb2); (try clear hk); (try clear hi); have hcz82_0 : w81.cell? ⟨gb109, 0, none⟩ = some (.int .i64 t106) := (blk_cell BK109.out 0).trans rfl; have hcz82_1 : w81.cell? ⟨gb109, 1, none⟩ = some (.int .i64 t107) := (blk_cell BK109.out 1).trans rfl; have hfz82_0 := blk_frozen BK109.out 0; have hfz82_1 := blk_frozen BK109.out 1; have hnb83 := NB102_112.out; have hnc83 := NB112_102.out; have hcz84_0 : w81.cell? ⟨gb102, 0, none⟩ = some (.int .i64 a1_0) := (blk_cell BK102.out 0).trans rfl; have hcz84_1 : w81.cell? ⟨gb102, 1, none⟩ = some (.int .i64 a1_1) := (blk_cell BK102.out 1).trans rfl; have hfz84_0 := blk_frozen BK102.out 0; have hfz84_1 := blk_frozen BK102.out 1) | (go_at_call 25; (with_reducible refine (span_Within.calls t106 t107 a1_0 a1_1 true _ A68.out).mono ?_); rintro e w85 ⟨rfl, hb⟩; have n0_ := Aside0.mk (blk_below (g := gb101) (o := .cells #[.int .i64 a0_0, .int .i64 a0_1] 23 (0, 0)) abx hb); have n1_ := Aside0.mk (blk_below (g := gb102) (o := .cells #[.int .i64 a1_0, .int .i64 a1_1] 23 (0, 0)) abx hb); have n2_ := Aside0.mk (blk_below (g := gb109) (o := .cells #[.int .i64 t106, .int .i64 t107] 23 (0, 0)) abx hb); have n3_ := Aside0.mk (blk_below (g := gb112) (o := .cells #[.int .i64 t110, .int .i64 t111] 23 (0, 0)) abx hb); have n4_ := Aside0.mk (below_step ahx hb); clear BK101; clear BK102; clear BK109; clear BK112; clear HB; have BK101 := n0_; have BK102 := n1_; have BK109 := n2_; have BK112 := n3_; have HB := n4_; clear n0_ n1_ n2_ n3_ n4_; (try clear hb); (try clear hb2); (try clear hk); (try clear hi); have hcz86_0 : w85.cell? ⟨gb109, 0, none⟩ = some (.int .i64 t106) := (blk_cell BK109.out 0).trans rfl; have hcz86_1 : w85.cell? ⟨gb109, 1, none⟩ = some (.int .i64 t107) := (blk_cell BK109.out 1).trans rfl; have hfz86_0 := blk_frozen BK109.out 0; have hfz86_1 := blk_frozen BK109.out 1) | (go_at_call 13; (with_reducible refine (span_Right.calls t106 t107 true _ A70.out).mono ?_); rintro e w87 ⟨rfl, hb⟩; have n0_ := Aside0.mk (blk_below (g := gb101) (o := .cells #[.int .i64 a0_0, .int .i64 a0_1] 23 (0, 0)) abx hb); have n1_ := Aside0.mk (blk_below (g := gb102) (o := .cells #[.int .i64 a1_0, .int .i64 a1_1] 23 (0, 0)) abx hb); have n2_ := Aside0.mk (blk_below (g := gb109) (o := .cells #[.int .i64 t106, .int .i64 t107] 23 (0, 0)) abx hb); have n3_ := Aside0.mk (blk_below (g := gb112) (o := .cells #[.int .i64 t110, .int .i64 t111] 23 (0, 0)) abx hb); have n4_ := Aside0.mk (below_step ahx hb); clear BK101; clear BK102; clear BK109; clear BK112; clear HB; have BK101 := n0_; have BK102 := n1_; have BK109 := n2_; have BK112 := n3_; have HB := n4_; clear n0_ n1_ n2_ n3_ n4_; (try clear hb); (try clear hb2); (try clear hk); (try clear hi)))
            go_meet
            case rel => exact ⟨_, (false), (by first | rfl | (simp; done) | (simp [*]; done)), H', ⟨by have := HJ4.out; have := HJ22.out; first | omega | exact Nat.le_refl _⟩, ⟨by (with_reducible repeat (first | refine blk_drewN ?_ _ | refine blk_drew ?_ | refine blk_alloc ?_ _)); exact BK101.out⟩, ⟨by (with_reducible repeat (first | refine blk_drewN ?_ _ | refine blk_drew ?_ | refine blk_alloc ?_ _)); exact BK102.out⟩, ⟨by (with_reducible repeat (first | refine blk_drewN ?_ _ | refine blk_drew ?_ | refine blk_alloc ?_ _)); exact BK109.out⟩, ⟨by (with_reducible repeat (first | refine blk_drewN ?_ _ | refine blk_drew ?_ | refine blk_alloc ?_ _)); exact BK112.out⟩, ⟨ahx⟩⟩
           ·replace c71 := Bool.eq_false_iff.mpr c71
            subst c71
            have H1 : (bournelaw09_SpanMeets.j2 kj22 a2 t103 true a0_0 a0_1 a1_0 a1_1 t110 t111) = some r := by rw [if_neg (show ¬ (false = true) by decide)] at H; exact H
            clear H
            have H := H1
            clear H1
            have H' := Aside0.mk H
            clear H
            have hnb88 := NB109_101.out
            have hnc88 := NB101_109.out
            have hnb89 := NB109_102.out
            have hnc89 := NB102_109.out
            have hnb90 := NB109_112.out
            have hnc90 := NB112_109.out
            have hcz91_0 : wc.cell? ⟨gb109, 0, none⟩ = some (.int .i64 t106) := (blk_cell BK109.out 0).trans rfl
            have hcz91_1 : wc.cell? ⟨gb109, 1, none⟩ = some (.int .i64 t107) := (blk_cell BK109.out 1).trans rfl
            have hfz91_0 := blk_frozen BK109.out 0
            have hfz91_1 := blk_frozen BK109.out 1
            go_wp2_with (first | (go_at_call 17; (with_reducible refine (span_Has.calls t106 t107 a2 t115 _ A59.out).mono ?_); rintro e w92 ⟨rfl, hb⟩; have n0_ := Aside0.mk (blk_below (g := gb101) (o := .cells #[.int .i64 a0_0, .int .i64 a0_1] 23 (0, 0)) abx hb); have n1_ := Aside0.mk (blk_below (g := gb102) (o := .cells #[.int .i64 a1_0, .int .i64 a1_1] 23 (0, 0)) abx hb); have n2_ := Aside0.mk (blk_below (g := gb109) (o := .cells #[.int .i64 t106, .int .i64 t107] 23 (0, 0)) abx hb); have n3_ := Aside0.mk (blk_below (g := gb112) (o := .cells #[.int .i64 t110, .int .i64 t111] 23 (0, 0)) abx hb); have n4_ := Aside0.mk (below_step ahx hb); clear BK101; clear BK102; clear BK109; clear BK112; clear HB; have BK101 := n0_; have BK102 := n1_; have BK109 := n2_; have BK112 := n3_; have HB := n4_; clear n0_ n1_ n2_ n3_ n4_; (try clear hb); (try clear hb2); (try clear hk); (try clear hi); have hcz93_0 : w92.cell? ⟨gb109, 0, none⟩ = some (.int .i64 t106) := (blk_cell BK109.out 0).trans rfl; have hcz93_1 : w92.cell? ⟨gb109, 1, none⟩ = some (.int .i64 t107) := (blk_cell BK109.out 1).trans rfl; have hfz93_0 := blk_frozen BK109.out 0; have hfz93_1 := blk_frozen BK109.out 1; have hnb94 := NB101_102.out; have hnc94 := NB102_101.out; have hnb95 := NB101_112.out; have hnc95 := NB112_101.out; have hcz96_0 : w92.cell? ⟨gb101, 0, none⟩ = some (.int .i64 a0_0) := (blk_cell BK101.out 0).trans rfl; have hcz96_1 : w92.cell? ⟨gb101, 1, none⟩ = some (.int .i64 a0_1) := (blk_cell BK101.out 1).trans rfl; have hfz96_0 := blk_frozen BK101.out 0; have hfz96_1 := blk_frozen BK101.out 1) | (go_at_call 25; (with_reducible refine (span_Within.calls t106 t107 a0_0 a0_1 true _ A66.out).mono ?_); rintro e w97 ⟨rfl, hb⟩; have n0_ := Aside0.mk (blk_below (g := gb101) (o := .cells #[.int .i64 a0_0, .int .i64 a0_1] 23 (0, 0)) abx hb); have n1_ := Aside0.mk (blk_below (g := gb102) (o := .cells #[.int .i64 a1_0, .int .i64 a1_1] 23 (0, 0)) abx hb); have n2_ := Aside0.mk (blk_below (g := gb109) (o := .cells #[.int .i64 t106, .int .i64 t107] 23 (0, 0)) abx hb); have n3_ := Aside0.mk (blk_below (g := gb112) (o := .cells #[.int .i64 t110, .int .i64 t111] 23 (0, 0)) abx hb); have n4_ := Aside0.mk (below_step ahx hb); clear BK101; clear BK102; clear BK109; clear BK112; clear HB; have BK101 := n0_; have BK102 := n1_; have BK109 := n2_; have BK112 := n3_; have HB := n4_; clear n0_ n1_ n2_ n3_ n4_; (try clear hb); (try clear hb2); (try clear hk); (try clear hi); have hcz98_0 : w97.cell? ⟨gb109, 0, none⟩ = some (.int .i64 t106) := (blk_cell BK109.out 0).trans rfl; have hcz98_1 : w97.cell? ⟨gb109, 1, none⟩ = some (.int .i64 t107) := (blk_cell BK109.out 1).trans rfl; have hfz98_0 := blk_frozen BK109.out 0; have hfz98_1 := blk_frozen BK109.out 1; have hnb99 := NB102_112.out; have hnc99 := NB112_102.out; have hcz100_0 : w97.cell? ⟨gb102, 0, none⟩ = some (.int .i64 a1_0) := (blk_cell BK102.out 0).trans rfl; have hcz100_1 : w97.cell? ⟨gb102, 1, none⟩ = some (.int .i64 a1_1) := (blk_cell BK102.out 1).trans rfl; have hfz100_0 := blk_frozen BK102.out 0; have hfz100_1 := blk_frozen BK102.out 1) | (go_at_call 25; (with_reducible refine (span_Within.calls t106 t107 a1_0 a1_1 true _ A68.out).mono ?_); rintro e w101 ⟨rfl, hb⟩; have n0_ := Aside0.mk (blk_below (g := gb101) (o := .cells #[.int .i64 a0_0, .int .i64 a0_1] 23 (0, 0)) abx hb); have n1_ := Aside0.mk (blk_below (g := gb102) (o := .cells #[.int .i64 a1_0, .int .i64 a1_1] 23 (0, 0)) abx hb); have n2_ := Aside0.mk (blk_below (g := gb109) (o := .cells #[.int .i64 t106, .int .i64 t107] 23 (0, 0)) abx hb); have n3_ := Aside0.mk (blk_below (g := gb112) (o := .cells #[.int .i64 t110, .int .i64 t111] 23 (0, 0)) abx hb); have n4_ := Aside0.mk (below_step ahx hb); clear BK101; clear BK102; clear BK109; clear BK112; clear HB; have BK101 := n0_; have BK102 := n1_; have BK109 := n2_; have BK112 := n3_; have HB := n4_; clear n0_ n1_ n2_ n3_ n4_; (try clear hb); (try clear hb2); (try clear hk); (try clear hi); have hcz102_0 : w101.cell? ⟨gb109, 0, none⟩ = some (.int .i64 t106) := (blk_cell BK109.out 0).trans rfl; have hcz102_1 : w101.cell? ⟨gb109, 1, none⟩ = some (.int .i64 t107) := (blk_cell BK109.out 1).trans rfl; have hfz102_0 := blk_frozen BK109.out 0; have hfz102_1 := blk_frozen BK109.out 1) | (go_at_call 13; (with_reducible refine (span_Right.calls t106 t107 false _ A70.out).mono ?_); rintro e w103 ⟨rfl, hb⟩; have n0_ := Aside0.mk (blk_below (g := gb101) (o := .cells #[.int .i64 a0_0, .int .i64 a0_1] 23 (0, 0)) abx hb); have n1_ := Aside0.mk (blk_below (g := gb102) (o := .cells #[.int .i64 a1_0, .int .i64 a1_1] 23 (0, 0)) abx hb); have n2_ := Aside0.mk (blk_below (g := gb109) (o := .cells #[.int .i64 t106, .int .i64 t107] 23 (0, 0)) abx hb); have n3_ := Aside0.mk (blk_below (g := gb112) (o := .cells #[.int .i64 t110, .int .i64 t111] 23 (0, 0)) abx hb); have n4_ := Aside0.mk (below_step ahx hb); clear BK101; clear BK102; clear BK109; clear BK112; clear HB; have BK101 := n0_; have BK102 := n1_; have BK109 := n2_; have BK112 := n3_; have HB := n4_; clear n0_ n1_ n2_ n3_ n4_; (try clear hb); (try clear hb2); (try clear hk); (try clear hi)))
            go_meet
            case rel => exact ⟨_, (true), (by first | rfl | (simp; done) | (simp [*]; done)), H', ⟨by have := HJ4.out; have := HJ22.out; first | omega | exact Nat.le_refl _⟩, ⟨by (with_reducible repeat (first | refine blk_drewN ?_ _ | refine blk_drew ?_ | refine blk_alloc ?_ _)); exact BK101.out⟩, ⟨by (with_reducible repeat (first | refine blk_drewN ?_ _ | refine blk_drew ?_ | refine blk_alloc ?_ _)); exact BK102.out⟩, ⟨by (with_reducible repeat (first | refine blk_drewN ?_ _ | refine blk_drew ?_ | refine blk_alloc ?_ _)); exact BK109.out⟩, ⟨by (with_reducible repeat (first | refine blk_drewN ?_ _ | refine blk_drew ?_ | refine blk_alloc ?_ _)); exact BK112.out⟩, ⟨ahx⟩⟩
          ·replace c69 := Bool.eq_false_iff.mpr c69
           subst c69
           have H1 : (bournelaw09_SpanMeets.j2 kj22 a2 t103 true a0_0 a0_1 a1_0 a1_1 t110 t111) = some r := by rw [if_neg (show ¬ (false = true) by decide)] at H; exact H
           clear H
           have H := H1
           clear H1
           have H' := Aside0.mk H
           clear H
           have hnb104 := NB109_101.out
           have hnc104 := NB101_109.out
           have hnb105 := NB109_102.out
           have hnc105 := NB102_109.out
           have hnb106 := NB109_112.out
           have hnc106 := NB112_109.out
           have hcz107_0 : wc.cell? ⟨gb109, 0, none⟩ = some (.int .i64 t106) := (blk_cell BK109.out 0).trans rfl
           have hcz107_1 : wc.cell? ⟨gb109, 1, none⟩ = some (.int .i64 t107) := (blk_cell BK109.out 1).trans rfl
           have hfz107_0 := blk_frozen BK109.out 0
           have hfz107_1 := blk_frozen BK109.out 1
           go_wp2_with (first | (go_at_call 17; (with_reducible refine (span_Has.calls t106 t107 a2 t115 _ A59.out).mono ?_); rintro e w108 ⟨rfl, hb⟩; have n0_ := Aside0.mk (blk_below (g := gb101) (o := .cells #[.int .i64 a0_0, .int .i64 a0_1] 23 (0, 0)) abx hb); have n1_ := Aside0.mk (blk_below (g := gb102) (o := .cells #[.int .i64 a1_0, .int .i64 a1_1] 23 (0, 0)) abx hb); have n2_ := Aside0.mk (blk_below (g := gb109) (o := .cells #[.int .i64 t106, .int .i64 t107] 23 (0, 0)) abx hb); have n3_ := Aside0.mk (blk_below (g := gb112) (o := .cells #[.int .i64 t110, .int .i64 t111] 23 (0, 0)) abx hb); have n4_ := Aside0.mk (below_step ahx hb); clear BK101; clear BK102; clear BK109; clear BK112; clear HB; have BK101 := n0_; have BK102 := n1_; have BK109 := n2_; have BK112 := n3_; have HB := n4_; clear n0_ n1_ n2_ n3_ n4_; (try clear hb); (try clear hb2); (try clear hk); (try clear hi); have hcz109_0 : w108.cell? ⟨gb109, 0, none⟩ = some (.int .i64 t106) := (blk_cell BK109.out 0).trans rfl; have hcz109_1 : w108.cell? ⟨gb109, 1, none⟩ = some (.int .i64 t107) := (blk_cell BK109.out 1).trans rfl; have hfz109_0 := blk_frozen BK109.out 0; have hfz109_1 := blk_frozen BK109.out 1; have hnb110 := NB101_102.out; have hnc110 := NB102_101.out; have hnb111 := NB101_112.out; have hnc111 := NB112_101.out; have hcz112_0 : w108.cell? ⟨gb101, 0, none⟩ = some (.int .i64 a0_0) := (blk_cell BK101.out 0).trans rfl; have hcz112_1 : w108.cell? ⟨gb101, 1, none⟩ = some (.int .i64 a0_1) := (blk_cell BK101.out 1).trans rfl; have hfz112_0 := blk_frozen BK101.out 0; have hfz112_1 := blk_frozen BK101.out 1) | (go_at_call 25; (with_reducible refine (span_Within.calls t106 t107 a0_0 a0_1 true _ A66.out).mono ?_); rintro e w113 ⟨rfl, hb⟩; have n0_ := Aside0.mk (blk_below (g := gb101) (o := .cells #[.int .i64 a0_0, .int .i64 a0_1] 23 (0, 0)) abx hb); have n1_ := Aside0.mk (blk_below (g := gb102) (o := .cells #[.int .i64 a1_0, .int .i64 a1_1] 23 (0, 0)) abx hb); have n2_ := Aside0.mk (blk_below (g := gb109) (o := .cells #[.int .i64 t106, .int .i64 t107] 23 (0, 0)) abx hb); have n3_ := Aside0.mk (blk_below (g := gb112) (o := .cells #[.int .i64 t110, .int .i64 t111] 23 (0, 0)) abx hb); have n4_ := Aside0.mk (below_step ahx hb); clear BK101; clear BK102; clear BK109; clear BK112; clear HB; have BK101 := n0_; have BK102 := n1_; have BK109 := n2_; have BK112 := n3_; have HB := n4_; clear n0_ n1_ n2_ n3_ n4_; (try clear hb); (try clear hb2); (try clear hk); (try clear hi); have hcz114_0 : w113.cell? ⟨gb109, 0, none⟩ = some (.int .i64 t106) := (blk_cell BK109.out 0).trans rfl; have hcz114_1 : w113.cell? ⟨gb109, 1, none⟩ = some (.int .i64 t107) := (blk_cell BK109.out 1).trans rfl; have hfz114_0 := blk_frozen BK109.out 0; have hfz114_1 := blk_frozen BK109.out 1; have hnb115 := NB102_112.out; have hnc115 := NB112_102.out; have hcz116_0 : w113.cell? ⟨gb102, 0, none⟩ = some (.int .i64 a1_0) := (blk_cell BK102.out 0).trans rfl; have hcz116_1 : w113.cell? ⟨gb102, 1, none⟩ = some (.int .i64 a1_1) := (blk_cell BK102.out 1).trans rfl; have hfz116_0 := blk_frozen BK102.out 0; have hfz116_1 := blk_frozen BK102.out 1) | (go_at_call 25; (with_reducible refine (span_Within.calls t106 t107 a1_0 a1_1 false _ A68.out).mono ?_); rintro e w117 ⟨rfl, hb⟩; have n0_ := Aside0.mk (blk_below (g := gb101) (o := .cells #[.int .i64 a0_0, .int .i64 a0_1] 23 (0, 0)) abx hb); have n1_ := Aside0.mk (blk_below (g := gb102) (o := .cells #[.int .i64 a1_0, .int .i64 a1_1] 23 (0, 0)) abx hb); have n2_ := Aside0.mk (blk_below (g := gb109) (o := .cells #[.int .i64 t106, .int .i64 t107] 23 (0, 0)) abx hb); have n3_ := Aside0.mk (blk_below (g := gb112) (o := .cells #[.int .i64 t110, .int .i64 t111] 23 (0, 0)) abx hb); have n4_ := Aside0.mk (below_step ahx hb); clear BK101; clear BK102; clear BK109; clear BK112; clear HB; have BK101 := n0_; have BK102 := n1_; have BK109 := n2_; have BK112 := n3_; have HB := n4_; clear n0_ n1_ n2_ n3_ n4_; (try clear hb); (try clear hb2); (try clear hk); (try clear hi)))
           go_meet
           case rel => exact ⟨_, (true), (by first | rfl | (simp; done) | (simp [*]; done)), H', ⟨by have := HJ4.out; have := HJ22.out; first | omega | exact Nat.le_refl _⟩, ⟨by (with_reducible repeat (first | refine blk_drewN ?_ _ | refine blk_drew ?_ | refine blk_alloc ?_ _)); exact BK101.out⟩, ⟨by (with_reducible repeat (first | refine blk_drewN ?_ _ | refine blk_drew ?_ | refine blk_alloc ?_ _)); exact BK102.out⟩, ⟨by (with_reducible repeat (first | refine blk_drewN ?_ _ | refine blk_drew ?_ | refine blk_alloc ?_ _)); exact BK109.out⟩, ⟨by (with_reducible repeat (first | refine blk_drewN ?_ _ | refine blk_drew ?_ | refine blk_alloc ?_ _)); exact BK112.out⟩, ⟨ahx⟩⟩
         ·replace c67 := Bool.eq_false_iff.mpr c67
          subst c67
          have H1 : (bournelaw09_SpanMeets.j2 kj22 a2 t103 true a0_0 a0_1 a1_0 a1_1 t110 t111) = some r := by rw [if_neg (show ¬ (false = true) by decide)] at H; exact H
          clear H
          have H := H1
          clear H1
          have H' := Aside0.mk H
          clear H
          have hnb118 := NB109_101.out
          have hnc118 := NB101_109.out
          have hnb119 := NB109_102.out
          have hnc119 := NB102_109.out
          have hnb120 := NB109_112.out
          have hnc120 := NB112_109.out
          have hcz121_0 : wc.cell? ⟨gb109, 0, none⟩ = some (.int .i64 t106) := (blk_cell BK109.out 0).trans rfl
          have hcz121_1 : wc.cell? ⟨gb109, 1, none⟩ = some (.int .i64 t107) := (blk_cell BK109.out 1).trans rfl
          have hfz121_0 := blk_frozen BK109.out 0
          have hfz121_1 := blk_frozen BK109.out 1
          go_wp2_with (first | (go_at_call 17; (with_reducible refine (span_Has.calls t106 t107 a2 t115 _ A59.out).mono ?_); rintro e w122 ⟨rfl, hb⟩; have n0_ := Aside0.mk (blk_below (g := gb101) (o := .cells #[.int .i64 a0_0, .int .i64 a0_1] 23 (0, 0)) abx hb); have n1_ := Aside0.mk (blk_below (g := gb102) (o := .cells #[.int .i64 a1_0, .int .i64 a1_1] 23 (0, 0)) abx hb); have n2_ := Aside0.mk (blk_below (g := gb109) (o := .cells #[.int .i64 t106, .int .i64 t107] 23 (0, 0)) abx hb); have n3_ := Aside0.mk (blk_below (g := gb112) (o := .cells #[.int .i64 t110, .int .i64 t111] 23 (0, 0)) abx hb); have n4_ := Aside0.mk (below_step ahx hb); clear BK101; clear BK102; clear BK109; clear BK112; clear HB; have BK101 := n0_; have BK102 := n1_; have BK109 := n2_; have BK112 := n3_; have HB := n4_; clear n0_ n1_ n2_ n3_ n4_; (try clear hb); (try clear hb2); (try clear hk); (try clear hi); have hcz123_0 : w122.cell? ⟨gb109, 0, none⟩ = some (.int .i64 t106) := (blk_cell BK109.out 0).trans rfl; have hcz123_1 : w122.cell? ⟨gb109, 1, none⟩ = some (.int .i64 t107) := (blk_cell BK109.out 1).trans rfl; have hfz123_0 := blk_frozen BK109.out 0; have hfz123_1 := blk_frozen BK109.out 1; have hnb124 := NB101_102.out; have hnc124 := NB102_101.out; have hnb125 := NB101_112.out; have hnc125 := NB112_101.out; have hcz126_0 : w122.cell? ⟨gb101, 0, none⟩ = some (.int .i64 a0_0) := (blk_cell BK101.out 0).trans rfl; have hcz126_1 : w122.cell? ⟨gb101, 1, none⟩ = some (.int .i64 a0_1) := (blk_cell BK101.out 1).trans rfl; have hfz126_0 := blk_frozen BK101.out 0; have hfz126_1 := blk_frozen BK101.out 1) | (go_at_call 25; (with_reducible refine (span_Within.calls t106 t107 a0_0 a0_1 false _ A66.out).mono ?_); rintro e w127 ⟨rfl, hb⟩; have n0_ := Aside0.mk (blk_below (g := gb101) (o := .cells #[.int .i64 a0_0, .int .i64 a0_1] 23 (0, 0)) abx hb); have n1_ := Aside0.mk (blk_below (g := gb102) (o := .cells #[.int .i64 a1_0, .int .i64 a1_1] 23 (0, 0)) abx hb); have n2_ := Aside0.mk (blk_below (g := gb109) (o := .cells #[.int .i64 t106, .int .i64 t107] 23 (0, 0)) abx hb); have n3_ := Aside0.mk (blk_below (g := gb112) (o := .cells #[.int .i64 t110, .int .i64 t111] 23 (0, 0)) abx hb); have n4_ := Aside0.mk (below_step ahx hb); clear BK101; clear BK102; clear BK109; clear BK112; clear HB; have BK101 := n0_; have BK102 := n1_; have BK109 := n2_; have BK112 := n3_; have HB := n4_; clear n0_ n1_ n2_ n3_ n4_; (try clear hb); (try clear hb2); (try clear hk); (try clear hi)))
          go_meet
          case rel => exact ⟨_, (true), (by first | rfl | (simp; done) | (simp [*]; done)), H', ⟨by have := HJ4.out; have := HJ22.out; first | omega | exact Nat.le_refl _⟩, ⟨by (with_reducible repeat (first | refine blk_drewN ?_ _ | refine blk_drew ?_ | refine blk_alloc ?_ _)); exact BK101.out⟩, ⟨by (with_reducible repeat (first | refine blk_drewN ?_ _ | refine blk_drew ?_ | refine blk_alloc ?_ _)); exact BK102.out⟩, ⟨by (with_reducible repeat (first | refine blk_drewN ?_ _ | refine blk_drew ?_ | refine blk_alloc ?_ _)); exact BK109.out⟩, ⟨by (with_reducible repeat (first | refine blk_drewN ?_ _ | refine blk_drew ?_ | refine blk_alloc ?_ _)); exact BK112.out⟩, ⟨ahx⟩⟩
       ·replace c58 := Bool.eq_false_iff.mpr c58
        subst c58
        have H1 : (if (x11_22 != false) = true then (bournelaw09_SpanMeets.j2 kj22 a2 t103 true a0_0 a0_1 a1_0 a1_1 t110 t111) else (bournelaw09_SpanMeets.j2 kj22 a2 t103 (!(t106 == 0) || (!(t107 == 0))) a0_0 a0_1 a1_0 a1_1 t110 t111)) = some r := by rw [if_neg (show ¬ (false = true) by decide)] at H; exact H
        clear H
        have H := H1
        clear H1
        by_cases c128 : (x11_22 != false) = true
        ·rw [if_pos c128] at H
         have c128b0 : (x11_22 != false) = true := c128
         (try (have c128b1 : decide (x11_22 = false) = false := by simpa using c128))
         (try (have c128b2 : (x11_22 == false) = false := by simpa using c128))
         (try (have c128b3 : ¬ (x11_22 = false) := by simpa using c128))
         clear c128
         have H' := Aside0.mk H
         clear H
         go_wp2
         go_meet
         case rel => exact ⟨_, (true), (by first | rfl | (simp; done) | (simp [*]; done)), H', ⟨by have := HJ4.out; have := HJ22.out; first | omega | exact Nat.le_refl _⟩, ⟨by (with_reducible repeat (first | refine blk_drewN ?_ _ | refine blk_drew ?_ | refine blk_alloc ?_ _)); exact BK101.out⟩, ⟨by (with_reducible repeat (first | refine blk_drewN ?_ _ | refine blk_drew ?_ | refine blk_alloc ?_ _)); exact BK102.out⟩, ⟨by (with_reducible repeat (first | refine blk_drewN ?_ _ | refine blk_drew ?_ | refine blk_alloc ?_ _)); exact BK109.out⟩, ⟨by (with_reducible repeat (first | refine blk_drewN ?_ _ | refine blk_drew ?_ | refine blk_alloc ?_ _)); exact BK112.out⟩, ⟨ahx⟩⟩
        ·rw [if_neg c128] at H
         have c128b0 : (x11_22 != false) = false := by simpa using c128
         (try (have c128b1 : decide (x11_22 = false) = true := by simpa using c128))
         (try (have c128b2 : (x11_22 == false) = true := by simpa using c128))
         clear c128
         have H' := Aside0.mk H
         clear H
         have hnb129 := NB109_101.out
         have hnc129 := NB101_109.out
         have hnb130 := NB109_102.out
         have hnc130 := NB102_109.out
         have hnb131 := NB109_112.out
         have hnc131 := NB112_109.out
         have hcz132_0 : wc.cell? ⟨gb109, 0, none⟩ = some (.int .i64 t106) := (blk_cell BK109.out 0).trans rfl
         have hcz132_1 : wc.cell? ⟨gb109, 1, none⟩ = some (.int .i64 t107) := (blk_cell BK109.out 1).trans rfl
         have hfz132_0 := blk_frozen BK109.out 0
         have hfz132_1 := blk_frozen BK109.out 1
         go_wp2
         go_meet
         case rel => exact ⟨_, ((!(t106 == 0) || (!(t107 == 0)))), (by first | rfl | (simp; done) | (simp [*]; done)), H', ⟨by have := HJ4.out; have := HJ22.out; first | omega | exact Nat.le_refl _⟩, ⟨by (with_reducible repeat (first | refine blk_drewN ?_ _ | refine blk_drew ?_ | refine blk_alloc ?_ _)); exact BK101.out⟩, ⟨by (with_reducible repeat (first | refine blk_drewN ?_ _ | refine blk_drew ?_ | refine blk_alloc ?_ _)); exact BK102.out⟩, ⟨by (with_reducible repeat (first | refine blk_drewN ?_ _ | refine blk_drew ?_ | refine blk_alloc ?_ _)); exact BK109.out⟩, ⟨by (with_reducible repeat (first | refine blk_drewN ?_ _ | refine blk_drew ?_ | refine blk_alloc ?_ _)); exact BK112.out⟩, ⟨ahx⟩⟩
      case rest =>
       clear HC57
       try clear c1
       try clear c2
       try clear p2
       try clear c3
       try clear c4
       try clear c5
       try clear c6
       try clear c7
       try clear c8
       try clear c9
       try clear c10
       try clear c11
       try clear c12
       try clear c13
       try clear c17
       try clear c20
       try clear c23
       try clear c24
       try clear c29
       try clear c30
       try clear c36
       try clear c37
       try clear c38
       try clear c41
       try clear c43
       try clear c44
       try clear c45
       try clear c48
       try clear c49
       try clear c52
       try clear c53
       try clear c54
       try clear c58
       try clear c60
       try clear c60b0
       try clear c60b1
       try clear c60b2
       try clear c61
       try clear c62
       try clear c63
       try clear c67
       try clear c69
       try clear c71
       try clear c72
       try clear c73
       try clear c74
       try clear c78
       try clear c79
       try clear c83
       try clear c88
       try clear c89
       try clear c90
       try clear c94
       try clear c95
       try clear c99
       try clear c104
       try clear c105
       try clear c106
       try clear c110
       try clear c111
       try clear c115
       try clear c118
       try clear c119
       try clear c120
       try clear c124
       try clear c125
       try clear c128
       try clear c128b0
       try clear c128b1
       try clear c128b2
       try clear c129
       try clear c130
       try clear c131
       try clear hcz100_0
       try clear hcz100_1
       try clear hcz102_0
       try clear hcz102_1
       try clear hcz107_0
       try clear hcz107_1
       try clear hcz109_0
       try clear hcz109_1
       try clear hcz112_0
       try clear hcz112_1
       try clear hcz114_0
       try clear hcz114_1
       try clear hcz116_0
       try clear hcz116_1
       try clear hcz121_0
       try clear hcz121_1
       try clear hcz123_0
       try clear hcz123_1
       try clear hcz126_0
       try clear hcz126_1
       try clear hcz132_0
       try clear hcz132_1
       try clear hcz13_0
       try clear hcz13_1
       try clear hcz15_0
       try clear hcz15_1
       try clear hcz18_0
       try clear hcz18_1
       try clear hcz25_0
       try clear hcz25_1
       try clear hcz26_0
       try clear hcz26_1
       try clear hcz31_0
       try clear hcz31_1
       try clear hcz32_0
       try clear hcz32_1
       try clear hcz33_0
       try clear hcz33_1
       try clear hcz39_0
       try clear hcz39_1
       try clear hcz46_0
       try clear hcz46_1
       try clear hcz50_0
       try clear hcz50_1
       try clear hcz55_0
       try clear hcz55_1
       try clear hcz64_0
       try clear hcz64_1
       try clear hcz75_0
       try clear hcz75_1
       try clear hcz77_0
       try clear hcz77_1
       try clear hcz80_0
       try clear hcz80_1
       try clear hcz82_0
       try clear hcz82_1
       try clear hcz84_0
       try clear hcz84_1
       try clear hcz86_0
       try clear hcz86_1
       try clear hcz91_0
       try clear hcz91_1
       try clear hcz93_0
       try clear hcz93_1
       try clear hcz96_0
       try clear hcz96_1
       try clear hcz98_0
       try clear hcz98_1
       try clear hfz100_0
       try clear hfz100_1
       try clear hfz102_0
       try clear hfz102_1
       try clear hfz107_0
       try clear hfz107_1
       try clear hfz109_0
       try clear hfz109_1
       try clear hfz112_0
       try clear hfz112_1
       try clear hfz114_0
       try clear hfz114_1
       try clear hfz116_0
       try clear hfz116_1
       try clear hfz121_0
       try clear hfz121_1
       try clear hfz123_0
       try clear hfz123_1
       try clear hfz126_0
       try clear hfz126_1
       try clear hfz132_0
       try clear hfz132_1
       try clear hfz13_0
       try clear hfz13_1
       try clear hfz15_0
       try clear hfz15_1
       try clear hfz18_0
       try clear hfz18_1
       try clear hfz25_0
       try clear hfz25_1
       try clear hfz26_0
       try clear hfz26_1
       try clear hfz31_0
       try clear hfz31_1
       try clear hfz32_0
       try clear hfz32_1
       try clear hfz33_0
       try clear hfz33_1
       try clear hfz39_0
       try clear hfz39_1
       try clear hfz46_0
       try clear hfz46_1
       try clear hfz50_0
       try clear hfz50_1
       try clear hfz55_0
       try clear hfz55_1
       try clear hfz64_0
       try clear hfz64_1
       try clear hfz75_0
       try clear hfz75_1
       try clear hfz77_0
       try clear hfz77_1
       try clear hfz80_0
       try clear hfz80_1
       try clear hfz82_0
       try clear hfz82_1
       try clear hfz84_0
       try clear hfz84_1
       try clear hfz86_0
       try clear hfz86_1
       try clear hfz91_0
       try clear hfz91_1
       try clear hfz93_0
       try clear hfz93_1
       try clear hfz96_0
       try clear hfz96_1
       try clear hfz98_0
       try clear hfz98_1
       try clear p2
       obtain ⟨kq, x75_56, rfl, HA, HJ56, BK101, BK102, BK109, BK112, HB⟩ := hcut
       cases kq with
       | zero => exact absurd HA.out (by simp [bournelaw09_SpanMeets.j2])
       | succ kj56 =>
        have H := HA.out
        clear HA
        simp only [bournelaw09_SpanMeets.j2] at H
        by_cases c133 : x75_56 = true
        ·subst c133
         have H1 : (some false) = some r := by rw [if_pos rfl] at H; exact H
         clear H
         have H := H1
         clear H1
         exact NF.go H hr.out (by repeat' first | exact NF.none | exact NF.ff | refine NF.ite ?_ ?_ | refine NF.bind (fun _ => ?_))
        ·replace c133 := Bool.eq_false_iff.mpr c133
         subst c133
         have H1 : ((span_Has.f a0_0 a0_1 a2).bind fun t119 => (if t119 = true then ((span_Has.f t110 t111 a2).bind fun t120 => (if t120 = true then ((span_Within.f a0_0 a0_1 t110 t111).bind fun t121 => (if t121 = true then ((span_Within.f a1_0 a1_1 t110 t111).bind fun t122 => (bournelaw09_SpanMeets.j3 kj56 t103 (!t122) a0_0 a0_1 a1_0 a1_1 t110 t111)) else (bournelaw09_SpanMeets.j3 kj56 t103 true a0_0 a0_1 a1_0 a1_1 t110 t111))) else (bournelaw09_SpanMeets.j3 kj56 t103 true a0_0 a0_1 a1_0 a1_1 t110 t111))) else ((span_Has.f a1_0 a1_1 a2).bind fun t123 => (if t123 = true then ((span_Has.f t110 t111 a2).bind fun t124 => (if t124 = true then ((span_Within.f a0_0 a0_1 t110 t111).bind fun t125 => (if t125 = true then ((span_Within.f a1_0 a1_1 t110 t111).bind fun t126 => (bournelaw09_SpanMeets.j3 kj56 t103 (!t126) a0_0 a0_1 a1_0 a1_1 t110 t111)) else (bournelaw09_SpanMeets.j3 kj56 t103 true a0_0 a0_1 a1_0 a1_1 t110 t111))) else (bournelaw09_SpanMeets.j3 kj56 t103 true a0_0 a0_1 a1_0 a1_1 t110 t111))) else ((span_Within.f a0_0 a0_1 t110 t111).bind fun t127 => (if t127 = true then ((span_Within.f a1_0 a1_1 t110 t111).bind fun t128 => (bournelaw09_SpanMeets.j3 kj56 t103 (!t128) a0_0 a0_1 a1_0 a1_1 t110 t111)) else (bournelaw09_SpanMeets.j3 kj56 t103 true a0_0 a0_1 a1_0 a1_1 t110 t111))))))) = some r := by rw [if_neg (show ¬ (false = true) by decide)] at H; exact H
         clear H
         have H := H1
         clear H1
         have HC134 := Aside0.mk H
         clear H
         go_upto_region 9 with (fail)
         go_cut [101] (fun v101 wc => ∃ (kq : Nat) (x101_133 : Bool), v101 = .bool x101_133 ∧ Aside0 (bournelaw09_SpanMeets.j3 kq t103 x101_133 a0_0 a0_1 a1_0 a1_1 t110 t111 = some r) ∧ Aside0 (kq ≤ kj56) ∧ Aside0 (wc.heap[gb101]? = some (.cells #[.int .i64 a0_0, .int .i64 a0_1] 23 (0, 0))) ∧ Aside0 (wc.heap[gb102]? = some (.cells #[.int .i64 a1_0, .int .i64 a1_1] 23 (0, 0))) ∧ Aside0 (wc.heap[gb109]? = some (.cells #[.int .i64 t106, .int .i64 t107] 23 (0, 0))) ∧ Aside0 (wc.heap[gb112]? = some (.cells #[.int .i64 t110, .int .i64 t111] 23 (0, 0))) ∧ Aside0 (Below w.heap.size w wc))
         case first =>
          have H := HC134.out
          clear HC134
          replace H := Option.bind_eq_some_iff.mp H
          obtain ⟨t119, A1350, H⟩ := H
          replace H : (if t119 = true then ((span_Has.f t110 t111 a2).bind fun t120 => (if t120 = true then ((span_Within.f a0_0 a0_1 t110 t111).bind fun t121 => (if t121 = true then ((span_Within.f a1_0 a1_1 t110 t111).bind fun t122 => (bournelaw09_SpanMeets.j3 kj56 t103 (!t122) a0_0 a0_1 a1_0 a1_1 t110 t111)) else (bournelaw09_SpanMeets.j3 kj56 t103 true a0_0 a0_1 a1_0 a1_1 t110 t111))) else (bournelaw09_SpanMeets.j3 kj56 t103 true a0_0 a0_1 a1_0 a1_1 t110 t111))) else ((span_Has.f a1_0 a1_1 a2).bind fun t123 => (if t123 = true then ((span_Has.f t110 t111 a2).bind fun t124 => (if t124 = true then ((span_Within.f a0_0 a0_1 t110 t111).bind fun t125 => (if t125 = true then ((span_Within.f a1_0 a1_1 t110 t111).bind fun t126 => (bournelaw09_SpanMeets.j3 kj56 t103 (!t126) a0_0 a0_1 a1_0 a1_1 t110 t111)) else (bournelaw09_SpanMeets.j3 kj56 t103 true a0_0 a0_1 a1_0 a1_1 t110 t111))) else (bournelaw09_SpanMeets.j3 kj56 t103 true a0_0 a0_1 a1_0 a1_1 t110 t111))) else ((span_Within.f a0_0 a0_1 t110 t111).bind fun t127 => (if t127 = true then ((span_Within.f a1_0 a1_1 t110 t111).bind fun t128 => (bournelaw09_SpanMeets.j3 kj56 t103 (!t128) a0_0 a0_1 a1_0 a1_1 t110 t111)) else (bournelaw09_SpanMeets.j3 kj56 t103 true a0_0 a0_1 a1_0 a1_1 t110 t111)))))) = some r := H
          have A135 := Aside0.mk A1350
          clear A1350
          by_cases c136 : t119 = true
          ·subst c136
           have H1 : ((span_Has.f t110 t111 a2).bind fun t120 => (if t120 = true then ((span_Within.f a0_0 a0_1 t110 t111).bind fun t121 => (if t121 = true then ((span_Within.f a1_0 a1_1 t110 t111).bind fun t122 => (bournelaw09_SpanMeets.j3 kj56 t103 (!t122) a0_0 a0_1 a1_0 a1_1 t110 t111)) else (bournelaw09_SpanMeets.j3 kj56 t103 true a0_0 a0_1 a1_0 a1_1 t110 t111))) else (bournelaw09_SpanMeets.j3 kj56 t103 true a0_0 a0_1 a1_0 a1_1 t110 t111))) = some r := by rw [if_pos rfl] at H; exact H
           clear H
           have H := H1
           clear H1
           replace H := Option.bind_eq_some_iff.mp H
           obtain ⟨t120, A1370, H⟩ := H
           replace H : (if t120 = true then ((span_Within.f a0_0 a0_1 t110 t111).bind fun t121 => (if t121 = true then ((span_Within.f a1_0 a1_1 t110 t111).bind fun t122 => (bournelaw09_SpanMeets.j3 kj56 t103 (!t122) a0_0 a0_1 a1_0 a1_1 t110 t111)) else (bournelaw09_SpanMeets.j3 kj56 t103 true a0_0 a0_1 a1_0 a1_1 t110 t111))) else (bournelaw09_SpanMeets.j3 kj56 t103 true a0_0 a0_1 a1_0 a1_1 t110 t111)) = some r := H
           have A137 := Aside0.mk A1370
           clear A1370
           by_cases c138 : t120 = true
           ·subst c138
            have H1 : ((span_Within.f a0_0 a0_1 t110 t111).bind fun t121 => (if t121 = true then ((span_Within.f a1_0 a1_1 t110 t111).bind fun t122 => (bournelaw09_SpanMeets.j3 kj56 t103 (!t122) a0_0 a0_1 a1_0 a1_1 t110 t111)) else (bournelaw09_SpanMeets.j3 kj56 t103 true a0_0 a0_1 a1_0 a1_1 t110 t111))) = some r := by rw [if_pos rfl] at H; exact H
            clear H
            have H := H1
            clear H1
            replace H := Option.bind_eq_some_iff.mp H
            obtain ⟨t121, A1390, H⟩ := H
            replace H : (if t121 = true then ((span_Within.f a1_0 a1_1 t110 t111).bind fun t122 => (bournelaw09_SpanMeets.j3 kj56 t103 (!t122) a0_0 a0_1 a1_0 a1_1 t110 t111)) else (bournelaw09_SpanMeets.j3 kj56 t103 true a0_0 a0_1 a1_0 a1_1 t110 t111)) = some r := H
            have A139 := Aside0.mk A1390
            clear A1390
            by_cases c140 : t121 = true
            ·subst c140
             have H1 : ((span_Within.f a1_0 a1_1 t110 t111).bind fun t122 => (bournelaw09_SpanMeets.j3 kj56 t103 (!t122) a0_0 a0_1 a1_0 a1_1 t110 t111)) = some r := by rw [if_pos rfl] at H; exact H
             clear H
             have H := H1
             clear H1
             replace H := Option.bind_eq_some_iff.mp H
             obtain ⟨t122, A1410, H⟩ := H
             replace H : (bournelaw09_SpanMeets.j3 kj56 t103 (!t122) a0_0 a0_1 a1_0 a1_1 t110 t111) = some r := H
             have A141 := Aside0.mk A1410
             clear A1410
             have H' := Aside0.mk H
             clear H
             have hnb142 := NB101_102.out
             have hnc142 := NB102_101.out
             have hnb143 := NB101_109.out
             have hnc143 := NB109_101.out
             have hnb144 := NB101_112.out
             have hnc144 := NB112_101.out
             have hcz145_0 : wc.cell? ⟨gb101, 0, none⟩ = some (.int .i64 a0_0) := (blk_cell BK101.out 0).trans rfl
             have hcz145_1 : wc.cell? ⟨gb101, 1, none⟩ = some (.int .i64 a0_1) := (blk_cell BK101.out 1).trans rfl
             have hfz145_0 := blk_frozen BK101.out 0
             have hfz145_1 := blk_frozen BK101.out 1
             go_wp2_with (first | ((with_reducible refine gate_callee (f := 17) rfl ?_); refine goesL_ (some 78) rfl rfl Try.func17 (by kernel_rfl) rfl #[.agg #[.int .i64 a0_0, .int .i64 a0_1], .int .i64 a2] rfl (by first | done | rfl) ?_; (with_reducible refine (span_Has.calls a0_0 a0_1 a2 true _ A135.out).mono ?_); rintro e w146 ⟨rfl, hb⟩; refine ⟨_, rfl, ?_⟩; have n0_ := Aside0.mk (blk_below (g := gb101) (o := .cells #[.int .i64 a0_0, .int .i64 a0_1] 23 (0, 0)) abx hb); have n1_ := Aside0.mk (blk_below (g := gb102) (o := .cells #[.int .i64 a1_0, .int .i64 a1_1] 23 (0, 0)) abx hb); have n2_ := Aside0.mk (blk_below (g := gb109) (o := .cells #[.int .i64 t106, .int .i64 t107] 23 (0, 0)) abx hb); have n3_ := Aside0.mk (blk_below (g := gb112) (o := .cells #[.int .i64 t110, .int .i64 t111] 23 (0, 0)) abx hb); have n4_ := Aside0.mk (below_step ahx hb); clear BK101; clear BK102; clear BK109; clear BK112; clear HB; have BK101 := n0_; have BK102 := n1_; have BK109 := n2_; have BK112 := n3_; have HB := n4_; clear n0_ n1_ n2_ n3_ n4_; (try clear hb); (try clear hb2); (try clear hk); (try clear hi); have hnb147 := NB112_102.out; have hnc147 := NB102_112.out; have hnb148 := NB112_109.out; have hnc148 := NB109_112.out; have hcz149_0 : w146.cell? ⟨gb112, 0, none⟩ = some (.int .i64 t110) := (blk_cell BK112.out 0).trans rfl; have hcz149_1 : w146.cell? ⟨gb112, 1, none⟩ = some (.int .i64 t111) := (blk_cell BK112.out 1).trans rfl; have hfz149_0 := blk_frozen BK112.out 0; have hfz149_1 := blk_frozen BK112.out 1) | (go_at_call 17; (with_reducible refine (span_Has.calls a0_0 a0_1 a2 true _ A135.out).mono ?_); rintro e w146 ⟨rfl, hb⟩; have n0_ := Aside0.mk (blk_below (g := gb101) (o := .cells #[.int .i64 a0_0, .int .i64 a0_1] 23 (0, 0)) abx hb); have n1_ := Aside0.mk (blk_below (g := gb102) (o := .cells #[.int .i64 a1_0, .int .i64 a1_1] 23 (0, 0)) abx hb); have n2_ := Aside0.mk (blk_below (g := gb109) (o := .cells #[.int .i64 t106, .int .i64 t107] 23 (0, 0)) abx hb); have n3_ := Aside0.mk (blk_below (g := gb112) (o := .cells #[.int .i64 t110, .int .i64 t111] 23 (0, 0)) abx hb); have n4_ := Aside0.mk (below_step ahx hb); clear BK101; clear BK102; clear BK109; clear BK112; clear HB; have BK101 := n0_; have BK102 := n1_; have BK109 := n2_; have BK112 := n3_; have HB := n4_; clear n0_ n1_ n2_ n3_ n4_; (try clear hb); (try clear hb2); (try clear hk); (try clear hi); have hnb147 := NB112_102.out; have hnc147 := NB102_112.out; have hnb148 := NB112_109.out; have hnc148 := NB109_112.out; have hcz149_0 : w146.cell? ⟨gb112, 0, none⟩ = some (.int .i64 t110) := (blk_cell BK112.out 0).trans rfl; have hcz149_1 : w146.cell? ⟨gb112, 1, none⟩ = some (.int .i64 t111) := (blk_cell BK112.out 1).trans rfl; have hfz149_0 := blk_frozen BK112.out 0; have hfz149_1 := blk_frozen BK112.out 1) | (go_at_call 17; (with_reducible refine (span_Has.calls t110 t111 a2 true _ A137.out).mono ?_); rintro e w150 ⟨rfl, hb⟩; have n0_ := Aside0.mk (blk_below (g := gb101) (o := .cells #[.int .i64 a0_0, .int .i64 a0_1] 23 (0, 0)) abx hb); have n1_ := Aside0.mk (blk_below (g := gb102) (o := .cells #[.int .i64 a1_0, .int .i64 a1_1] 23 (0, 0)) abx hb); have n2_ := Aside0.mk (blk_below (g := gb109) (o := .cells #[.int .i64 t106, .int .i64 t107] 23 (0, 0)) abx hb); have n3_ := Aside0.mk (blk_below (g := gb112) (o := .cells #[.int .i64 t110, .int .i64 t111] 23 (0, 0)) abx hb); have n4_ := Aside0.mk (below_step ahx hb); clear BK101; clear BK102; clear BK109; clear BK112; clear HB; have BK101 := n0_; have BK102 := n1_; have BK109 := n2_; have BK112 := n3_; have HB := n4_; clear n0_ n1_ n2_ n3_ n4_; (try clear hb); (try clear hb2); (try clear hk); (try clear hi); have hcz151_0 : w150.cell? ⟨gb101, 0, none⟩ = some (.int .i64 a0_0) := (blk_cell BK101.out 0).trans rfl; have hcz151_1 : w150.cell? ⟨gb101, 1, none⟩ = some (.int .i64 a0_1) := (blk_cell BK101.out 1).trans rfl; have hfz151_0 := blk_frozen BK101.out 0; have hfz151_1 := blk_frozen BK101.out 1; have hcz152_0 : w150.cell? ⟨gb112, 0, none⟩ = some (.int .i64 t110) := (blk_cell BK112.out 0).trans rfl; have hcz152_1 : w150.cell? ⟨gb112, 1, none⟩ = some (.int .i64 t111) := (blk_cell BK112.out 1).trans rfl; have hfz152_0 := blk_frozen BK112.out 0; have hfz152_1 := blk_frozen BK112.out 1) | (go_at_call 25; (with_reducible refine (span_Within.calls a0_0 a0_1 t110 t111 true _ A139.out).mono ?_); rintro e w153 ⟨rfl, hb⟩; have n0_ := Aside0.mk (blk_below (g := gb101) (o := .cells #[.int .i64 a0_0, .int .i64 a0_1] 23 (0, 0)) abx hb); have n1_ := Aside0.mk (blk_below (g := gb102) (o := .cells #[.int .i64 a1_0, .int .i64 a1_1] 23 (0, 0)) abx hb); have n2_ := Aside0.mk (blk_below (g := gb109) (o := .cells #[.int .i64 t106, .int .i64 t107] 23 (0, 0)) abx hb); have n3_ := Aside0.mk (blk_below (g := gb112) (o := .cells #[.int .i64 t110, .int .i64 t111] 23 (0, 0)) abx hb); have n4_ := Aside0.mk (below_step ahx hb); clear BK101; clear BK102; clear BK109; clear BK112; clear HB; have BK101 := n0_; have BK102 := n1_; have BK109 := n2_; have BK112 := n3_; have HB := n4_; clear n0_ n1_ n2_ n3_ n4_; (try clear hb); (try clear hb2); (try clear hk); (try clear hi); have hnb154 := NB102_109.out; have hnc154 := NB109_102.out; have hcz155_0 : w153.cell? ⟨gb102, 0, none⟩ = some (.int .i64 a1_0) := (blk_cell BK102.out 0).trans rfl; have hcz155_1 : w153.cell? ⟨gb102, 1, none⟩ = some (.int .i64 a1_1) := (blk_cell BK102.out 1).trans rfl; have hfz155_0 := blk_frozen BK102.out 0; have hfz155_1 := blk_frozen BK102.out 1; have hcz156_0 : w153.cell? ⟨gb112, 0, none⟩ = some (.int .i64 t110) := (blk_cell BK112.out 0).trans rfl; have hcz156_1 : w153.cell? ⟨gb112, 1, none⟩ = some (.int .i64 t111) := (blk_cell BK112.out 1).trans rfl; have hfz156_0 := blk_frozen BK112.out 0; have hfz156_1 := blk_frozen BK112.out 1) | (go_at_call 25; (with_reducible refine (span_Within.calls a1_0 a1_1 t110 t111 t122 _ A141.out).mono ?_); rintro e w157 ⟨rfl, hb⟩; have n0_ := Aside0.mk (blk_below (g := gb101) (o := .cells #[.int .i64 a0_0, .int .i64 a0_1] 23 (0, 0)) abx hb); have n1_ := Aside0.mk (blk_below (g := gb102) (o := .cells #[.int .i64 a1_0, .int .i64 a1_1] 23 (0, 0)) abx hb); have n2_ := Aside0.mk (blk_below (g := gb109) (o := .cells #[.int .i64 t106, .int .i64 t107] 23 (0, 0)) abx hb); have n3_ := Aside0.mk (blk_below (g := gb112) (o := .cells #[.int .i64 t110, .int .i64 t111] 23 (0, 0)) abx hb); have n4_ := Aside0.mk (below_step ahx hb); clear BK101; clear BK102; clear BK109; clear BK112; clear HB; have BK101 := n0_; have BK102 := n1_; have BK109 := n2_; have BK112 := n3_; have HB := n4_; clear n0_ n1_ n2_ n3_ n4_; (try clear hb); (try clear hb2); (try clear hk); (try clear hi)))
             go_meet
             case rel => exact ⟨_, (!t122), (by first | rfl | (simp; done) | (simp [*]; done)), H', ⟨by have := HJ4.out; have := HJ22.out; have := HJ56.out; first | omega | exact Nat.le_refl _⟩, ⟨by (with_reducible repeat (first | refine blk_drewN ?_ _ | refine blk_drew ?_ | refine blk_alloc ?_ _)); exact BK101.out⟩, ⟨by (with_reducible repeat (first | refine blk_drewN ?_ _ | refine blk_drew ?_ | refine blk_alloc ?_ _)); exact BK102.out⟩, ⟨by (with_reducible repeat (first | refine blk_drewN ?_ _ | refine blk_drew ?_ | refine blk_alloc ?_ _)); exact BK109.out⟩, ⟨by (with_reducible repeat (first | refine blk_drewN ?_ _ | refine blk_drew ?_ | refine blk_alloc ?_ _)); exact BK112.out⟩, ⟨ahx⟩⟩
            ·replace c140 := Bool.eq_false_iff.mpr c140
             subst c140
             have H1 : (bournelaw09_SpanMeets.j3 kj56 t103 true a0_0 a0_1 a1_0 a1_1 t110 t111) = some r := by rw [if_neg (show ¬ (false = true) by decide)] at H; exact H
             clear H
             have H := H1
             clear H1
             have H' := Aside0.mk H
             clear H
             have hnb158 := NB101_102.out
             have hnc158 := NB102_101.out
             have hnb159 := NB101_109.out
             have hnc159 := NB109_101.out
             have hnb160 := NB101_112.out
             have hnc160 := NB112_101.out
             have hcz161_0 : wc.cell? ⟨gb101, 0, none⟩ = some (.int .i64 a0_0) := (blk_cell BK101.out 0).trans rfl
             have hcz161_1 : wc.cell? ⟨gb101, 1, none⟩ = some (.int .i64 a0_1) := (blk_cell BK101.out 1).trans rfl
             have hfz161_0 := blk_frozen BK101.out 0
             have hfz161_1 := blk_frozen BK101.out 1
             go_wp2_with (first | ((with_reducible refine gate_callee (f := 17) rfl ?_); refine goesL_ (some 78) rfl rfl Try.func17 (by kernel_rfl) rfl #[.agg #[.int .i64 a0_0, .int .i64 a0_1], .int .i64 a2] rfl (by first | done | rfl) ?_; (with_reducible refine (span_Has.calls a0_0 a0_1 a2 true _ A135.out).mono ?_); rintro e w162 ⟨rfl, hb⟩; refine ⟨_, rfl, ?_⟩; have n0_ := Aside0.mk (blk_below (g := gb101) (o := .cells #[.int .i64 a0_0, .int .i64 a0_1] 23 (0, 0)) abx hb); have n1_ := Aside0.mk (blk_below (g := gb102) (o := .cells #[.int .i64 a1_0, .int .i64 a1_1] 23 (0, 0)) abx hb); have n2_ := Aside0.mk (blk_below (g := gb109) (o := .cells #[.int .i64 t106, .int .i64 t107] 23 (0, 0)) abx hb); have n3_ := Aside0.mk (blk_below (g := gb112) (o := .cells #[.int .i64 t110, .int .i64 t111] 23 (0, 0)) abx hb); have n4_ := Aside0.mk (below_step ahx hb); clear BK101; clear BK102; clear BK109; clear BK112; clear HB; have BK101 := n0_; have BK102 := n1_; have BK109 := n2_; have BK112 := n3_; have HB := n4_; clear n0_ n1_ n2_ n3_ n4_; (try clear hb); (try clear hb2); (try clear hk); (try clear hi); have hnb163 := NB112_102.out; have hnc163 := NB102_112.out; have hnb164 := NB112_109.out; have hnc164 := NB109_112.out; have hcz165_0 : w162.cell? ⟨gb112, 0, none⟩ = some (.int .i64 t110) := (blk_cell BK112.out 0).trans rfl; have hcz165_1 : w162.cell? ⟨gb112, 1, none⟩ = some (.int .i64 t111) := (blk_cell BK112.out 1).trans rfl; have hfz165_0 := blk_frozen BK112.out 0; have hfz165_1 := blk_frozen BK112.out 1) | (go_at_call 17; (with_reducible refine (span_Has.calls a0_0 a0_1 a2 true _ A135.out).mono ?_); rintro e w162 ⟨rfl, hb⟩; have n0_ := Aside0.mk (blk_below (g := gb101) (o := .cells #[.int .i64 a0_0, .int .i64 a0_1] 23 (0, 0)) abx hb); have n1_ := Aside0.mk (blk_below (g := gb102) (o := .cells #[.int .i64 a1_0, .int .i64 a1_1] 23 (0, 0)) abx hb); have n2_ := Aside0.mk (blk_below (g := gb109) (o := .cells #[.int .i64 t106, .int .i64 t107] 23 (0, 0)) abx hb); have n3_ := Aside0.mk (blk_below (g := gb112) (o := .cells #[.int .i64 t110, .int .i64 t111] 23 (0, 0)) abx hb); have n4_ := Aside0.mk (below_step ahx hb); clear BK101; clear BK102; clear BK109; clear BK112; clear HB; have BK101 := n0_; have BK102 := n1_; have BK109 := n2_; have BK112 := n3_; have HB := n4_; clear n0_ n1_ n2_ n3_ n4_; (try clear hb); (try clear hb2); (try clear hk); (try clear hi); have hnb163 := NB112_102.out; have hnc163 := NB102_112.out; have hnb164 := NB112_109.out; have hnc164 := NB109_112.out; have hcz165_0 : w162.cell? ⟨gb112, 0, none⟩ = some (.int .i64 t110) := (blk_cell BK112.out 0).trans rfl; have hcz165_1 : w162.cell? ⟨gb112, 1, none⟩ = some (.int .i64 t111) := (blk_cell BK112.out 1).trans rfl; have hfz165_0 := blk_frozen BK112.out 0; have hfz165_1 := blk_frozen BK112.out 1) | (go_at_call 17; (with_reducible refine (span_Has.calls t110 t111 a2 true _ A137.out).mono ?_); rintro e w166 ⟨rfl, hb⟩; have n0_ := Aside0.mk (blk_below (g := gb101) (o := .cells #[.int .i64 a0_0, .int .i64 a0_1] 23 (0, 0)) abx hb); have n1_ := Aside0.mk (blk_below (g := gb102) (o := .cells #[.int .i64 a1_0, .int .i64 a1_1] 23 (0, 0)) abx hb); have n2_ := Aside0.mk (blk_below (g := gb109) (o := .cells #[.int .i64 t106, .int .i64 t107] 23 (0, 0)) abx hb); have n3_ := Aside0.mk (blk_below (g := gb112) (o := .cells #[.int .i64 t110, .int .i64 t111] 23 (0, 0)) abx hb); have n4_ := Aside0.mk (below_step ahx hb); clear BK101; clear BK102; clear BK109; clear BK112; clear HB; have BK101 := n0_; have BK102 := n1_; have BK109 := n2_; have BK112 := n3_; have HB := n4_; clear n0_ n1_ n2_ n3_ n4_; (try clear hb); (try clear hb2); (try clear hk); (try clear hi); have hcz167_0 : w166.cell? ⟨gb101, 0, none⟩ = some (.int .i64 a0_0) := (blk_cell BK101.out 0).trans rfl; have hcz167_1 : w166.cell? ⟨gb101, 1, none⟩ = some (.int .i64 a0_1) := (blk_cell BK101.out 1).trans rfl; have hfz167_0 := blk_frozen BK101.out 0; have hfz167_1 := blk_frozen BK101.out 1; have hcz168_0 : w166.cell? ⟨gb112, 0, none⟩ = some (.int .i64 t110) := (blk_cell BK112.out 0).trans rfl; have hcz168_1 : w166.cell? ⟨gb112, 1, none⟩ = some (.int .i64 t111) := (blk_cell BK112.out 1).trans rfl; have hfz168_0 := blk_frozen BK112.out 0; have hfz168_1 := blk_frozen BK112.out 1) | (go_at_call 25; (with_reducible refine (span_Within.calls a0_0 a0_1 t110 t111 false _ A139.out).mono ?_); rintro e w169 ⟨rfl, hb⟩; have n0_ := Aside0.mk (blk_below (g := gb101) (o := .cells #[.int .i64 a0_0, .int .i64 a0_1] 23 (0, 0)) abx hb); have n1_ := Aside0.mk (blk_below (g := gb102) (o := .cells #[.int .i64 a1_0, .int .i64 a1_1] 23 (0, 0)) abx hb); have n2_ := Aside0.mk (blk_below (g := gb109) (o := .cells #[.int .i64 t106, .int .i64 t107] 23 (0, 0)) abx hb); have n3_ := Aside0.mk (blk_below (g := gb112) (o := .cells #[.int .i64 t110, .int .i64 t111] 23 (0, 0)) abx hb); have n4_ := Aside0.mk (below_step ahx hb); clear BK101; clear BK102; clear BK109; clear BK112; clear HB; have BK101 := n0_; have BK102 := n1_; have BK109 := n2_; have BK112 := n3_; have HB := n4_; clear n0_ n1_ n2_ n3_ n4_; (try clear hb); (try clear hb2); (try clear hk); (try clear hi)))
             go_meet
             case rel => exact ⟨_, (true), (by first | rfl | (simp; done) | (simp [*]; done)), H', ⟨by have := HJ4.out; have := HJ22.out; have := HJ56.out; first | omega | exact Nat.le_refl _⟩, ⟨by (with_reducible repeat (first | refine blk_drewN ?_ _ | refine blk_drew ?_ | refine blk_alloc ?_ _)); exact BK101.out⟩, ⟨by (with_reducible repeat (first | refine blk_drewN ?_ _ | refine blk_drew ?_ | refine blk_alloc ?_ _)); exact BK102.out⟩, ⟨by (with_reducible repeat (first | refine blk_drewN ?_ _ | refine blk_drew ?_ | refine blk_alloc ?_ _)); exact BK109.out⟩, ⟨by (with_reducible repeat (first | refine blk_drewN ?_ _ | refine blk_drew ?_ | refine blk_alloc ?_ _)); exact BK112.out⟩, ⟨ahx⟩⟩
           ·replace c138 := Bool.eq_false_iff.mpr c138
            subst c138
            have H1 : (bournelaw09_SpanMeets.j3 kj56 t103 true a0_0 a0_1 a1_0 a1_1 t110 t111) = some r := by rw [if_neg (show ¬ (false = true) by decide)] at H; exact H
            clear H
            have H := H1
            clear H1
            have H' := Aside0.mk H
            clear H
            have hnb170 := NB101_102.out
            have hnc170 := NB102_101.out
            have hnb171 := NB101_109.out
            have hnc171 := NB109_101.out
            have hnb172 := NB101_112.out
            have hnc172 := NB112_101.out
            have hcz173_0 : wc.cell? ⟨gb101, 0, none⟩ = some (.int .i64 a0_0) := (blk_cell BK101.out 0).trans rfl
            have hcz173_1 : wc.cell? ⟨gb101, 1, none⟩ = some (.int .i64 a0_1) := (blk_cell BK101.out 1).trans rfl
            have hfz173_0 := blk_frozen BK101.out 0
            have hfz173_1 := blk_frozen BK101.out 1
            go_wp2_with (first | ((with_reducible refine gate_callee (f := 17) rfl ?_); refine goesL_ (some 78) rfl rfl Try.func17 (by kernel_rfl) rfl #[.agg #[.int .i64 a0_0, .int .i64 a0_1], .int .i64 a2] rfl (by first | done | rfl) ?_; (with_reducible refine (span_Has.calls a0_0 a0_1 a2 true _ A135.out).mono ?_); rintro e w174 ⟨rfl, hb⟩; refine ⟨_, rfl, ?_⟩; have n0_ := Aside0.mk (blk_below (g := gb101) (o := .cells #[.int .i64 a0_0, .int .i64 a0_1] 23 (0, 0)) abx hb); have n1_ := Aside0.mk (blk_below (g := gb102) (o := .cells #[.int .i64 a1_0, .int .i64 a1_1] 23 (0, 0)) abx hb); have n2_ := Aside0.mk (blk_below (g := gb109) (o := .cells #[.int .i64 t106, .int .i64 t107] 23 (0, 0)) abx hb); have n3_ := Aside0.mk (blk_below (g := gb112) (o := .cells #[.int .i64 t110, .int .i64 t111] 23 (0, 0)) abx hb); have n4_ := Aside0.mk (below_step ahx hb); clear BK101; clear BK102; clear BK109; clear BK112; clear HB; have BK101 := n0_; have BK102 := n1_; have BK109 := n2_; have BK112 := n3_; have HB := n4_; clear n0_ n1_ n2_ n3_ n4_; (try clear hb); (try clear hb2); (try clear hk); (try clear hi); have hnb175 := NB112_102.out; have hnc175 := NB102_112.out; have hnb176 := NB112_109.out; have hnc176 := NB109_112.out; have hcz177_0 : w174.cell? ⟨gb112, 0, none⟩ = some (.int .i64 t110) := (blk_cell BK112.out 0).trans rfl; have hcz177_1 : w174.cell? ⟨gb112, 1, none⟩ = some (.int .i64 t111) := (blk_cell BK112.out 1).trans rfl; have hfz177_0 := blk_frozen BK112.out 0; have hfz177_1 := blk_frozen BK112.out 1) | (go_at_call 17; (with_reducible refine (span_Has.calls a0_0 a0_1 a2 true _ A135.out).mono ?_); rintro e w174 ⟨rfl, hb⟩; have n0_ := Aside0.mk (blk_below (g := gb101) (o := .cells #[.int .i64 a0_0, .int .i64 a0_1] 23 (0, 0)) abx hb); have n1_ := Aside0.mk (blk_below (g := gb102) (o := .cells #[.int .i64 a1_0, .int .i64 a1_1] 23 (0, 0)) abx hb); have n2_ := Aside0.mk (blk_below (g := gb109) (o := .cells #[.int .i64 t106, .int .i64 t107] 23 (0, 0)) abx hb); have n3_ := Aside0.mk (blk_below (g := gb112) (o := .cells #[.int .i64 t110, .int .i64 t111] 23 (0, 0)) abx hb); have n4_ := Aside0.mk (below_step ahx hb); clear BK101; clear BK102; clear BK109; clear BK112; clear HB; have BK101 := n0_; have BK102 := n1_; have BK109 := n2_; have BK112 := n3_; have HB := n4_; clear n0_ n1_ n2_ n3_ n4_; (try clear hb); (try clear hb2); (try clear hk); (try clear hi); have hnb175 := NB112_102.out; have hnc175 := NB102_112.out; have hnb176 := NB112_109.out; have hnc176 := NB109_112.out; have hcz177_0 : w174.cell? ⟨gb112, 0, none⟩ = some (.int .i64 t110) := (blk_cell BK112.out 0).trans rfl; have hcz177_1 : w174.cell? ⟨gb112, 1, none⟩ = some (.int .i64 t111) := (blk_cell BK112.out 1).trans rfl; have hfz177_0 := blk_frozen BK112.out 0; have hfz177_1 := blk_frozen BK112.out 1) | (go_at_call 17; (with_reducible refine (span_Has.calls t110 t111 a2 false _ A137.out).mono ?_); rintro e w178 ⟨rfl, hb⟩; have n0_ := Aside0.mk (blk_below (g := gb101) (o := .cells #[.int .i64 a0_0, .int .i64 a0_1] 23 (0, 0)) abx hb); have n1_ := Aside0.mk (blk_below (g := gb102) (o := .cells #[.int .i64 a1_0, .int .i64 a1_1] 23 (0, 0)) abx hb); have n2_ := Aside0.mk (blk_below (g := gb109) (o := .cells #[.int .i64 t106, .int .i64 t107] 23 (0, 0)) abx hb); have n3_ := Aside0.mk (blk_below (g := gb112) (o := .cells #[.int .i64 t110, .int .i64 t111] 23 (0, 0)) abx hb); have n4_ := Aside0.mk (below_step ahx hb); clear BK101; clear BK102; clear BK109; clear BK112; clear HB; have BK101 := n0_; have BK102 := n1_; have BK109 := n2_; have BK112 := n3_; have HB := n4_; clear n0_ n1_ n2_ n3_ n4_; (try clear hb); (try clear hb2); (try clear hk); (try clear hi)))
            go_meet
            case rel => exact ⟨_, (true), (by first | rfl | (simp; done) | (simp [*]; done)), H', ⟨by have := HJ4.out; have := HJ22.out; have := HJ56.out; first | omega | exact Nat.le_refl _⟩, ⟨by (with_reducible repeat (first | refine blk_drewN ?_ _ | refine blk_drew ?_ | refine blk_alloc ?_ _)); exact BK101.out⟩, ⟨by (with_reducible repeat (first | refine blk_drewN ?_ _ | refine blk_drew ?_ | refine blk_alloc ?_ _)); exact BK102.out⟩, ⟨by (with_reducible repeat (first | refine blk_drewN ?_ _ | refine blk_drew ?_ | refine blk_alloc ?_ _)); exact BK109.out⟩, ⟨by (with_reducible repeat (first | refine blk_drewN ?_ _ | refine blk_drew ?_ | refine blk_alloc ?_ _)); exact BK112.out⟩, ⟨ahx⟩⟩
          ·replace c136 := Bool.eq_false_iff.mpr c136
           subst c136
           have H1 : ((span_Has.f a1_0 a1_1 a2).bind fun t123 => (if t123 = true then ((span_Has.f t110 t111 a2).bind fun t124 => (if t124 = true then ((span_Within.f a0_0 a0_1 t110 t111).bind fun t125 => (if t125 = true then ((span_Within.f a1_0 a1_1 t110 t111).bind fun t126 => (bournelaw09_SpanMeets.j3 kj56 t103 (!t126) a0_0 a0_1 a1_0 a1_1 t110 t111)) else (bournelaw09_SpanMeets.j3 kj56 t103 true a0_0 a0_1 a1_0 a1_1 t110 t111))) else (bournelaw09_SpanMeets.j3 kj56 t103 true a0_0 a0_1 a1_0 a1_1 t110 t111))) else ((span_Within.f a0_0 a0_1 t110 t111).bind fun t127 => (if t127 = true then ((span_Within.f a1_0 a1_1 t110 t111).bind fun t128 => (bournelaw09_SpanMeets.j3 kj56 t103 (!t128) a0_0 a0_1 a1_0 a1_1 t110 t111)) else (bournelaw09_SpanMeets.j3 kj56 t103 true a0_0 a0_1 a1_0 a1_1 t110 t111))))) = some r := by rw [if_neg (show ¬ (false = true) by decide)] at H; exact H
           clear H
           have H := H1
           clear H1
           replace H := Option.bind_eq_some_iff.mp H
           obtain ⟨t123, A1790, H⟩ := H
           replace H : (if t123 = true then ((span_Has.f t110 t111 a2).bind fun t124 => (if t124 = true then ((span_Within.f a0_0 a0_1 t110 t111).bind fun t125 => (if t125 = true then ((span_Within.f a1_0 a1_1 t110 t111).bind fun t126 => (bournelaw09_SpanMeets.j3 kj56 t103 (!t126) a0_0 a0_1 a1_0 a1_1 t110 t111)) else (bournelaw09_SpanMeets.j3 kj56 t103 true a0_0 a0_1 a1_0 a1_1 t110 t111))) else (bournelaw09_SpanMeets.j3 kj56 t103 true a0_0 a0_1 a1_0 a1_1 t110 t111))) else ((span_Within.f a0_0 a0_1 t110 t111).bind fun t127 => (if t127 = true then ((span_Within.f a1_0 a1_1 t110 t111).bind fun t128 => (bournelaw09_SpanMeets.j3 kj56 t103 (!t128) a0_0 a0_1 a1_0 a1_1 t110 t111)) else (bournelaw09_SpanMeets.j3 kj56 t103 true a0_0 a0_1 a1_0 a1_1 t110 t111)))) = some r := H
           have A179 := Aside0.mk A1790
           clear A1790
           by_cases c180 : t123 = true
           ·subst c180
            have H1 : ((span_Has.f t110 t111 a2).bind fun t124 => (if t124 = true then ((span_Within.f a0_0 a0_1 t110 t111).bind fun t125 => (if t125 = true then ((span_Within.f a1_0 a1_1 t110 t111).bind fun t126 => (bournelaw09_SpanMeets.j3 kj56 t103 (!t126) a0_0 a0_1 a1_0 a1_1 t110 t111)) else (bournelaw09_SpanMeets.j3 kj56 t103 true a0_0 a0_1 a1_0 a1_1 t110 t111))) else (bournelaw09_SpanMeets.j3 kj56 t103 true a0_0 a0_1 a1_0 a1_1 t110 t111))) = some r := by rw [if_pos rfl] at H; exact H
            clear H
            have H := H1
            clear H1
            replace H := Option.bind_eq_some_iff.mp H
            obtain ⟨t124, A1810, H⟩ := H
            replace H : (if t124 = true then ((span_Within.f a0_0 a0_1 t110 t111).bind fun t125 => (if t125 = true then ((span_Within.f a1_0 a1_1 t110 t111).bind fun t126 => (bournelaw09_SpanMeets.j3 kj56 t103 (!t126) a0_0 a0_1 a1_0 a1_1 t110 t111)) else (bournelaw09_SpanMeets.j3 kj56 t103 true a0_0 a0_1 a1_0 a1_1 t110 t111))) else (bournelaw09_SpanMeets.j3 kj56 t103 true a0_0 a0_1 a1_0 a1_1 t110 t111)) = some r := H
            have A181 := Aside0.mk A1810
            clear A1810
            by_cases c182 : t124 = true
            ·subst c182
             have H1 : ((span_Within.f a0_0 a0_1 t110 t111).bind fun t125 => (if t125 = true then ((span_Within.f a1_0 a1_1 t110 t111).bind fun t126 => (bournelaw09_SpanMeets.j3 kj56 t103 (!t126) a0_0 a0_1 a1_0 a1_1 t110 t111)) else (bournelaw09_SpanMeets.j3 kj56 t103 true a0_0 a0_1 a1_0 a1_1 t110 t111))) = some r := by rw [if_pos rfl] at H; exact H
             clear H
             have H := H1
             clear H1
             replace H := Option.bind_eq_some_iff.mp H
             obtain ⟨t125, A1830, H⟩ := H
             replace H : (if t125 = true then ((span_Within.f a1_0 a1_1 t110 t111).bind fun t126 => (bournelaw09_SpanMeets.j3 kj56 t103 (!t126) a0_0 a0_1 a1_0 a1_1 t110 t111)) else (bournelaw09_SpanMeets.j3 kj56 t103 true a0_0 a0_1 a1_0 a1_1 t110 t111)) = some r := H
             have A183 := Aside0.mk A1830
             clear A1830
             by_cases c184 : t125 = true
             ·subst c184
              have H1 : ((span_Within.f a1_0 a1_1 t110 t111).bind fun t126 => (bournelaw09_SpanMeets.j3 kj56 t103 (!t126) a0_0 a0_1 a1_0 a1_1 t110 t111)) = some r := by rw [if_pos rfl] at H; exact H
              clear H
              have H := H1
              clear H1
              replace H := Option.bind_eq_some_iff.mp H
              obtain ⟨t126, A1850, H⟩ := H
              replace H : (bournelaw09_SpanMeets.j3 kj56 t103 (!t126) a0_0 a0_1 a1_0 a1_1 t110 t111) = some r := H
              have A185 := Aside0.mk A1850
              clear A1850
              have H' := Aside0.mk H
              clear H
              have hnb186 := NB101_102.out
              have hnc186 := NB102_101.out
              have hnb187 := NB101_109.out
              have hnc187 := NB109_101.out
              have hnb188 := NB101_112.out
              have hnc188 := NB112_101.out
              have hcz189_0 : wc.cell? ⟨gb101, 0, none⟩ = some (.int .i64 a0_0) := (blk_cell BK101.out 0).trans rfl
              have hcz189_1 : wc.cell? ⟨gb101, 1, none⟩ = some (.int .i64 a0_1) := (blk_cell BK101.out 1).trans rfl
              have hfz189_0 := blk_frozen BK101.out 0
              have hfz189_1 := blk_frozen BK101.out 1
              go_wp2_with (first | ((with_reducible refine gate_callee (f := 17) rfl ?_); refine goesL_ (some 78) rfl rfl Try.func17 (by kernel_rfl) rfl #[.agg #[.int .i64 a0_0, .int .i64 a0_1], .int .i64 a2] rfl (by first | done | rfl) ?_; (with_reducible refine (span_Has.calls a0_0 a0_1 a2 false _ A135.out).mono ?_); rintro e w190 ⟨rfl, hb⟩; refine ⟨_, rfl, ?_⟩; have n0_ := Aside0.mk (blk_below (g := gb101) (o := .cells #[.int .i64 a0_0, .int .i64 a0_1] 23 (0, 0)) abx hb); have n1_ := Aside0.mk (blk_below (g := gb102) (o := .cells #[.int .i64 a1_0, .int .i64 a1_1] 23 (0, 0)) abx hb); have n2_ := Aside0.mk (blk_below (g := gb109) (o := .cells #[.int .i64 t106, .int .i64 t107] 23 (0, 0)) abx hb); have n3_ := Aside0.mk (blk_below (g := gb112) (o := .cells #[.int .i64 t110, .int .i64 t111] 23 (0, 0)) abx hb); have n4_ := Aside0.mk (below_step ahx hb); clear BK101; clear BK102; clear BK109; clear BK112; clear HB; have BK101 := n0_; have BK102 := n1_; have BK109 := n2_; have BK112 := n3_; have HB := n4_; clear n0_ n1_ n2_ n3_ n4_; (try clear hb); (try clear hb2); (try clear hk); (try clear hi); have hnb191 := NB102_109.out; have hnc191 := NB109_102.out; have hnb192 := NB102_112.out; have hnc192 := NB112_102.out; have hcz193_0 : w190.cell? ⟨gb102, 0, none⟩ = some (.int .i64 a1_0) := (blk_cell BK102.out 0).trans rfl; have hcz193_1 : w190.cell? ⟨gb102, 1, none⟩ = some (.int .i64 a1_1) := (blk_cell BK102.out 1).trans rfl; have hfz193_0 := blk_frozen BK102.out 0; have hfz193_1 := blk_frozen BK102.out 1) | (go_at_call 17; (with_reducible refine (span_Has.calls a0_0 a0_1 a2 false _ A135.out).mono ?_); rintro e w190 ⟨rfl, hb⟩; have n0_ := Aside0.mk (blk_below (g := gb101) (o := .cells #[.int .i64 a0_0, .int .i64 a0_1] 23 (0, 0)) abx hb); have n1_ := Aside0.mk (blk_below (g := gb102) (o := .cells #[.int .i64 a1_0, .int .i64 a1_1] 23 (0, 0)) abx hb); have n2_ := Aside0.mk (blk_below (g := gb109) (o := .cells #[.int .i64 t106, .int .i64 t107] 23 (0, 0)) abx hb); have n3_ := Aside0.mk (blk_below (g := gb112) (o := .cells #[.int .i64 t110, .int .i64 t111] 23 (0, 0)) abx hb); have n4_ := Aside0.mk (below_step ahx hb); clear BK101; clear BK102; clear BK109; clear BK112; clear HB; have BK101 := n0_; have BK102 := n1_; have BK109 := n2_; have BK112 := n3_; have HB := n4_; clear n0_ n1_ n2_ n3_ n4_; (try clear hb); (try clear hb2); (try clear hk); (try clear hi); have hnb191 := NB102_109.out; have hnc191 := NB109_102.out; have hnb192 := NB102_112.out; have hnc192 := NB112_102.out; have hcz193_0 : w190.cell? ⟨gb102, 0, none⟩ = some (.int .i64 a1_0) := (blk_cell BK102.out 0).trans rfl; have hcz193_1 : w190.cell? ⟨gb102, 1, none⟩ = some (.int .i64 a1_1) := (blk_cell BK102.out 1).trans rfl; have hfz193_0 := blk_frozen BK102.out 0; have hfz193_1 := blk_frozen BK102.out 1) | (go_at_call 17; (with_reducible refine (span_Has.calls a1_0 a1_1 a2 true _ A179.out).mono ?_); rintro e w194 ⟨rfl, hb⟩; have n0_ := Aside0.mk (blk_below (g := gb101) (o := .cells #[.int .i64 a0_0, .int .i64 a0_1] 23 (0, 0)) abx hb); have n1_ := Aside0.mk (blk_below (g := gb102) (o := .cells #[.int .i64 a1_0, .int .i64 a1_1] 23 (0, 0)) abx hb); have n2_ := Aside0.mk (blk_below (g := gb109) (o := .cells #[.int .i64 t106, .int .i64 t107] 23 (0, 0)) abx hb); have n3_ := Aside0.mk (blk_below (g := gb112) (o := .cells #[.int .i64 t110, .int .i64 t111] 23 (0, 0)) abx hb); have n4_ := Aside0.mk (below_step ahx hb); clear BK101; clear BK102; clear BK109; clear BK112; clear HB; have BK101 := n0_; have BK102 := n1_; have BK109 := n2_; have BK112 := n3_; have HB := n4_; clear n0_ n1_ n2_ n3_ n4_; (try clear hb); (try clear hb2); (try clear hk); (try clear hi); have hnb195 := NB112_109.out; have hnc195 := NB109_112.out; have hcz196_0 : w194.cell? ⟨gb112, 0, none⟩ = some (.int .i64 t110) := (blk_cell BK112.out 0).trans rfl; have hcz196_1 : w194.cell? ⟨gb112, 1, none⟩ = some (.int .i64 t111) := (blk_cell BK112.out 1).trans rfl; have hfz196_0 := blk_frozen BK112.out 0; have hfz196_1 := blk_frozen BK112.out 1) | (go_at_call 17; (with_reducible refine (span_Has.calls t110 t111 a2 true _ A181.out).mono ?_); rintro e w197 ⟨rfl, hb⟩; have n0_ := Aside0.mk (blk_below (g := gb101) (o := .cells #[.int .i64 a0_0, .int .i64 a0_1] 23 (0, 0)) abx hb); have n1_ := Aside0.mk (blk_below (g := gb102) (o := .cells #[.int .i64 a1_0, .int .i64 a1_1] 23 (0, 0)) abx hb); have n2_ := Aside0.mk (blk_below (g := gb109) (o := .cells #[.int .i64 t106, .int .i64 t107] 23 (0, 0)) abx hb); have n3_ := Aside0.mk (blk_below (g := gb112) (o := .cells #[.int .i64 t110, .int .i64 t111] 23 (0, 0)) abx hb); have n4_ := Aside0.mk (below_step ahx hb); clear BK101; clear BK102; clear BK109; clear BK112; clear HB; have BK101 := n0_; have BK102 := n1_; have BK109 := n2_; have BK112 := n3_; have HB := n4_; clear n0_ n1_ n2_ n3_ n4_; (try clear hb); (try clear hb2); (try clear hk); (try clear hi); have hcz198_0 : w197.cell? ⟨gb101, 0, none⟩ = some (.int .i64 a0_0) := (blk_cell BK101.out 0).trans rfl; have hcz198_1 : w197.cell? ⟨gb101, 1, none⟩ = some (.int .i64 a0_1) := (blk_cell BK101.out 1).trans rfl; have hfz198_0 := blk_frozen BK101.out 0; have hfz198_1 := blk_frozen BK101.out 1; have hcz199_0 : w197.cell? ⟨gb112, 0, none⟩ = some (.int .i64 t110) := (blk_cell BK112.out 0).trans rfl; have hcz199_1 : w197.cell? ⟨gb112, 1, none⟩ = some (.int .i64 t111) := (blk_cell BK112.out 1).trans rfl; have hfz199_0 := blk_frozen BK112.out 0; have hfz199_1 := blk_frozen BK112.out 1) | (go_at_call 25; (with_reducible refine (span_Within.calls a0_0 a0_1 t110 t111 true _ A183.out).mono ?_); rintro e w200 ⟨rfl, hb⟩; have n0_ := Aside0.mk (blk_below (g := gb101) (o := .cells #[.int .i64 a0_0, .int .i64 a0_1] 23 (0, 0)) abx hb); have n1_ := Aside0.mk (blk_below (g := gb102) (o := .cells #[.int .i64 a1_0, .int .i64 a1_1] 23 (0, 0)) abx hb); have n2_ := Aside0.mk (blk_below (g := gb109) (o := .cells #[.int .i64 t106, .int .i64 t107] 23 (0, 0)) abx hb); have n3_ := Aside0.mk (blk_below (g := gb112) (o := .cells #[.int .i64 t110, .int .i64 t111] 23 (0, 0)) abx hb); have n4_ := Aside0.mk (below_step ahx hb); clear BK101; clear BK102; clear BK109; clear BK112; clear HB; have BK101 := n0_; have BK102 := n1_; have BK109 := n2_; have BK112 := n3_; have HB := n4_; clear n0_ n1_ n2_ n3_ n4_; (try clear hb); (try clear hb2); (try clear hk); (try clear hi); have hcz201_0 : w200.cell? ⟨gb102, 0, none⟩ = some (.int .i64 a1_0) := (blk_cell BK102.out 0).trans rfl; have hcz201_1 : w200.cell? ⟨gb102, 1, none⟩ = some (.int .i64 a1_1) := (blk_cell BK102.out 1).trans rfl; have hfz201_0 := blk_frozen BK102.out 0; have hfz201_1 := blk_frozen BK102.out 1; have hcz202_0 : w200.cell? ⟨gb112, 0, none⟩ = some (.int .i64 t110) := (blk_cell BK112.out 0).trans rfl; have hcz202_1 : w200.cell? ⟨gb112, 1, none⟩ = some (.int .i64 t111) := (blk_cell BK112.out 1).trans rfl; have hfz202_0 := blk_frozen BK112.out 0; have hfz202_1 := blk_frozen BK112.out 1) | (go_at_call 25; (with_reducible refine (span_Within.calls a1_0 a1_1 t110 t111 t126 _ A185.out).mono ?_); rintro e w203 ⟨rfl, hb⟩; have n0_ := Aside0.mk (blk_below (g := gb101) (o := .cells #[.int .i64 a0_0, .int .i64 a0_1] 23 (0, 0)) abx hb); have n1_ := Aside0.mk (blk_below (g := gb102) (o := .cells #[.int .i64 a1_0, .int .i64 a1_1] 23 (0, 0)) abx hb); have n2_ := Aside0.mk (blk_below (g := gb109) (o := .cells #[.int .i64 t106, .int .i64 t107] 23 (0, 0)) abx hb); have n3_ := Aside0.mk (blk_below (g := gb112) (o := .cells #[.int .i64 t110, .int .i64 t111] 23 (0, 0)) abx hb); have n4_ := Aside0.mk (below_step ahx hb); clear BK101; clear BK102; clear BK109; clear BK112; clear HB; have BK101 := n0_; have BK102 := n1_; have BK109 := n2_; have BK112 := n3_; have HB := n4_; clear n0_ n1_ n2_ n3_ n4_; (try clear hb); (try clear hb2); (try clear hk); (try clear hi)))
              go_meet
              case rel => exact ⟨_, (!t126), (by first | rfl | (simp; done) | (simp [*]; done)), H', ⟨by have := HJ4.out; have := HJ22.out; have := HJ56.out; first | omega | exact Nat.le_refl _⟩, ⟨by (with_reducible repeat (first | refine blk_drewN ?_ _ | refine blk_drew ?_ | refine blk_alloc ?_ _)); exact BK101.out⟩, ⟨by (with_reducible repeat (first | refine blk_drewN ?_ _ | refine blk_drew ?_ | refine blk_alloc ?_ _)); exact BK102.out⟩, ⟨by (with_reducible repeat (first | refine blk_drewN ?_ _ | refine blk_drew ?_ | refine blk_alloc ?_ _)); exact BK109.out⟩, ⟨by (with_reducible repeat (first | refine blk_drewN ?_ _ | refine blk_drew ?_ | refine blk_alloc ?_ _)); exact BK112.out⟩, ⟨ahx⟩⟩
             ·replace c184 := Bool.eq_false_iff.mpr c184
              subst c184
              have H1 : (bournelaw09_SpanMeets.j3 kj56 t103 true a0_0 a0_1 a1_0 a1_1 t110 t111) = some r := by rw [if_neg (show ¬ (false = true) by decide)] at H; exact H
              clear H
              have H := H1
              clear H1
              have H' := Aside0.mk H
              clear H
              have hnb204 := NB101_102.out
              have hnc204 := NB102_101.out
              have hnb205 := NB101_109.out
              have hnc205 := NB109_101.out
              have hnb206 := NB101_112.out
              have hnc206 := NB112_101.out
              have hcz207_0 : wc.cell? ⟨gb101, 0, none⟩ = some (.int .i64 a0_0) := (blk_cell BK101.out 0).trans rfl
              have hcz207_1 : wc.cell? ⟨gb101, 1, none⟩ = some (.int .i64 a0_1) := (blk_cell BK101.out 1).trans rfl
              have hfz207_0 := blk_frozen BK101.out 0
              have hfz207_1 := blk_frozen BK101.out 1
              go_wp2_with (first | ((with_reducible refine gate_callee (f := 17) rfl ?_); refine goesL_ (some 78) rfl rfl Try.func17 (by kernel_rfl) rfl #[.agg #[.int .i64 a0_0, .int .i64 a0_1], .int .i64 a2] rfl (by first | done | rfl) ?_; (with_reducible refine (span_Has.calls a0_0 a0_1 a2 false _ A135.out).mono ?_); rintro e w208 ⟨rfl, hb⟩; refine ⟨_, rfl, ?_⟩; have n0_ := Aside0.mk (blk_below (g := gb101) (o := .cells #[.int .i64 a0_0, .int .i64 a0_1] 23 (0, 0)) abx hb); have n1_ := Aside0.mk (blk_below (g := gb102) (o := .cells #[.int .i64 a1_0, .int .i64 a1_1] 23 (0, 0)) abx hb); have n2_ := Aside0.mk (blk_below (g := gb109) (o := .cells #[.int .i64 t106, .int .i64 t107] 23 (0, 0)) abx hb); have n3_ := Aside0.mk (blk_below (g := gb112) (o := .cells #[.int .i64 t110, .int .i64 t111] 23 (0, 0)) abx hb); have n4_ := Aside0.mk (below_step ahx hb); clear BK101; clear BK102; clear BK109; clear BK112; clear HB; have BK101 := n0_; have BK102 := n1_; have BK109 := n2_; have BK112 := n3_; have HB := n4_; clear n0_ n1_ n2_ n3_ n4_; (try clear hb); (try clear hb2); (try clear hk); (try clear hi); have hnb209 := NB102_109.out; have hnc209 := NB109_102.out; have hnb210 := NB102_112.out; have hnc210 := NB112_102.out; have hcz211_0 : w208.cell? ⟨gb102, 0, none⟩ = some (.int .i64 a1_0) := (blk_cell BK102.out 0).trans rfl; have hcz211_1 : w208.cell? ⟨gb102, 1, none⟩ = some (.int .i64 a1_1) := (blk_cell BK102.out 1).trans rfl; have hfz211_0 := blk_frozen BK102.out 0; have hfz211_1 := blk_frozen BK102.out 1) | (go_at_call 17; (with_reducible refine (span_Has.calls a0_0 a0_1 a2 false _ A135.out).mono ?_); rintro e w208 ⟨rfl, hb⟩; have n0_ := Aside0.mk (blk_below (g := gb101) (o := .cells #[.int .i64 a0_0, .int .i64 a0_1] 23 (0, 0)) abx hb); have n1_ := Aside0.mk (blk_below (g := gb102) (o := .cells #[.int .i64 a1_0, .int .i64 a1_1] 23 (0, 0)) abx hb); have n2_ := Aside0.mk (blk_below (g := gb109) (o := .cells #[.int .i64 t106, .int .i64 t107] 23 (0, 0)) abx hb); have n3_ := Aside0.mk (blk_below (g := gb112) (o := .cells #[.int .i64 t110, .int .i64 t111] 23 (0, 0)) abx hb); have n4_ := Aside0.mk (below_step ahx hb); clear BK101; clear BK102; clear BK109; clear BK112; clear HB; have BK101 := n0_; have BK102 := n1_; have BK109 := n2_; have BK112 := n3_; have HB := n4_; clear n0_ n1_ n2_ n3_ n4_; (try clear hb); (try clear hb2); (try clear hk); (try clear hi); have hnb209 := NB102_109.out; have hnc209 := NB109_102.out; have hnb210 := NB102_112.out; have hnc210 := NB112_102.out; have hcz211_0 : w208.cell? ⟨gb102, 0, none⟩ = some (.int .i64 a1_0) := (blk_cell BK102.out 0).trans rfl; have hcz211_1 : w208.cell? ⟨gb102, 1, none⟩ = some (.int .i64 a1_1) := (blk_cell BK102.out 1).trans rfl; have hfz211_0 := blk_frozen BK102.out 0; have hfz211_1 := blk_frozen BK102.out 1) | (go_at_call 17; (with_reducible refine (span_Has.calls a1_0 a1_1 a2 true _ A179.out).mono ?_); rintro e w212 ⟨rfl, hb⟩; have n0_ := Aside0.mk (blk_below (g := gb101) (o := .cells #[.int .i64 a0_0, .int .i64 a0_1] 23 (0, 0)) abx hb); have n1_ := Aside0.mk (blk_below (g := gb102) (o := .cells #[.int .i64 a1_0, .int .i64 a1_1] 23 (0, 0)) abx hb); have n2_ := Aside0.mk (blk_below (g := gb109) (o := .cells #[.int .i64 t106, .int .i64 t107] 23 (0, 0)) abx hb); have n3_ := Aside0.mk (blk_below (g := gb112) (o := .cells #[.int .i64 t110, .int .i64 t111] 23 (0, 0)) abx hb); have n4_ := Aside0.mk (below_step ahx hb); clear BK101; clear BK102; clear BK109; clear BK112; clear HB; have BK101 := n0_; have BK102 := n1_; have BK109 := n2_; have BK112 := n3_; have HB := n4_; clear n0_ n1_ n2_ n3_ n4_; (try clear hb); (try clear hb2); (try clear hk); (try clear hi); have hnb213 := NB112_109.out; have hnc213 := NB109_112.out; have hcz214_0 : w212.cell? ⟨gb112, 0, none⟩ = some (.int .i64 t110) := (blk_cell BK112.out 0).trans rfl; have hcz214_1 : w212.cell? ⟨gb112, 1, none⟩ = some (.int .i64 t111) := (blk_cell BK112.out 1).trans rfl; have hfz214_0 := blk_frozen BK112.out 0; have hfz214_1 := blk_frozen BK112.out 1) | (go_at_call 17; (with_reducible refine (span_Has.calls t110 t111 a2 true _ A181.out).mono ?_); rintro e w215 ⟨rfl, hb⟩; have n0_ := Aside0.mk (blk_below (g := gb101) (o := .cells #[.int .i64 a0_0, .int .i64 a0_1] 23 (0, 0)) abx hb); have n1_ := Aside0.mk (blk_below (g := gb102) (o := .cells #[.int .i64 a1_0, .int .i64 a1_1] 23 (0, 0)) abx hb); have n2_ := Aside0.mk (blk_below (g := gb109) (o := .cells #[.int .i64 t106, .int .i64 t107] 23 (0, 0)) abx hb); have n3_ := Aside0.mk (blk_below (g := gb112) (o := .cells #[.int .i64 t110, .int .i64 t111] 23 (0, 0)) abx hb); have n4_ := Aside0.mk (below_step ahx hb); clear BK101; clear BK102; clear BK109; clear BK112; clear HB; have BK101 := n0_; have BK102 := n1_; have BK109 := n2_; have BK112 := n3_; have HB := n4_; clear n0_ n1_ n2_ n3_ n4_; (try clear hb); (try clear hb2); (try clear hk); (try clear hi); have hcz216_0 : w215.cell? ⟨gb101, 0, none⟩ = some (.int .i64 a0_0) := (blk_cell BK101.out 0).trans rfl; have hcz216_1 : w215.cell? ⟨gb101, 1, none⟩ = some (.int .i64 a0_1) := (blk_cell BK101.out 1).trans rfl; have hfz216_0 := blk_frozen BK101.out 0; have hfz216_1 := blk_frozen BK101.out 1; have hcz217_0 : w215.cell? ⟨gb112, 0, none⟩ = some (.int .i64 t110) := (blk_cell BK112.out 0).trans rfl; have hcz217_1 : w215.cell? ⟨gb112, 1, none⟩ = some (.int .i64 t111) := (blk_cell BK112.out 1).trans rfl; have hfz217_0 := blk_frozen BK112.out 0; have hfz217_1 := blk_frozen BK112.out 1) | (go_at_call 25; (with_reducible refine (span_Within.calls a0_0 a0_1 t110 t111 false _ A183.out).mono ?_); rintro e w218 ⟨rfl, hb⟩; have n0_ := Aside0.mk (blk_below (g := gb101) (o := .cells #[.int .i64 a0_0, .int .i64 a0_1] 23 (0, 0)) abx hb); have n1_ := Aside0.mk (blk_below (g := gb102) (o := .cells #[.int .i64 a1_0, .int .i64 a1_1] 23 (0, 0)) abx hb); have n2_ := Aside0.mk (blk_below (g := gb109) (o := .cells #[.int .i64 t106, .int .i64 t107] 23 (0, 0)) abx hb); have n3_ := Aside0.mk (blk_below (g := gb112) (o := .cells #[.int .i64 t110, .int .i64 t111] 23 (0, 0)) abx hb); have n4_ := Aside0.mk (below_step ahx hb); clear BK101; clear BK102; clear BK109; clear BK112; clear HB; have BK101 := n0_; have BK102 := n1_; have BK109 := n2_; have BK112 := n3_; have HB := n4_; clear n0_ n1_ n2_ n3_ n4_; (try clear hb); (try clear hb2); (try clear hk); (try clear hi)))
              go_meet
              case rel => exact ⟨_, (true), (by first | rfl | (simp; done) | (simp [*]; done)), H', ⟨by have := HJ4.out; have := HJ22.out; have := HJ56.out; first | omega | exact Nat.le_refl _⟩, ⟨by (with_reducible repeat (first | refine blk_drewN ?_ _ | refine blk_drew ?_ | refine blk_alloc ?_ _)); exact BK101.out⟩, ⟨by (with_reducible repeat (first | refine blk_drewN ?_ _ | refine blk_drew ?_ | refine blk_alloc ?_ _)); exact BK102.out⟩, ⟨by (with_reducible repeat (first | refine blk_drewN ?_ _ | refine blk_drew ?_ | refine blk_alloc ?_ _)); exact BK109.out⟩, ⟨by (with_reducible repeat (first | refine blk_drewN ?_ _ | refine blk_drew ?_ | refine blk_alloc ?_ _)); exact BK112.out⟩, ⟨ahx⟩⟩
            ·replace c182 := Bool.eq_false_iff.mpr c182
             subst c182
             have H1 : (bournelaw09_SpanMeets.j3 kj56 t103 true a0_0 a0_1 a1_0 a1_1 t110 t111) = some r := by rw [if_neg (show ¬ (false = true) by decide)] at H; exact H
             clear H
             have H := H1
             clear H1
             have H' := Aside0.mk H
             clear H
             have hnb219 := NB101_102.out
             have hnc219 := NB102_101.out
             have hnb220 := NB101_109.out
             have hnc220 := NB109_101.out
             have hnb221 := NB101_112.out
             have hnc221 := NB112_101.out
             have hcz222_0 : wc.cell? ⟨gb101, 0, none⟩ = some (.int .i64 a0_0) := (blk_cell BK101.out 0).trans rfl
             have hcz222_1 : wc.cell? ⟨gb101, 1, none⟩ = some (.int .i64 a0_1) := (blk_cell BK101.out 1).trans rfl
             have hfz222_0 := blk_frozen BK101.out 0
             have hfz222_1 := blk_frozen BK101.out 1
             go_wp2_with (first | ((with_reducible refine gate_callee (f := 17) rfl ?_); refine goesL_ (some 78) rfl rfl Try.func17 (by kernel_rfl) rfl #[.agg #[.int .i64 a0_0, .int .i64 a0_1], .int .i64 a2] rfl (by first | done | rfl) ?_; (with_reducible refine (span_Has.calls a0_0 a0_1 a2 false _ A135.out).mono ?_); rintro e w223 ⟨rfl, hb⟩; refine ⟨_, rfl, ?_⟩; have n0_ := Aside0.mk (blk_below (g := gb101) (o := .cells #[.int .i64 a0_0, .int .i64 a0_1] 23 (0, 0)) abx hb); have n1_ := Aside0.mk (blk_below (g := gb102) (o := .cells #[.int .i64 a1_0, .int .i64 a1_1] 23 (0, 0)) abx hb); have n2_ := Aside0.mk (blk_below (g := gb109) (o := .cells #[.int .i64 t106, .int .i64 t107] 23 (0, 0)) abx hb); have n3_ := Aside0.mk (blk_below (g := gb112) (o := .cells #[.int .i64 t110, .int .i64 t111] 23 (0, 0)) abx hb); have n4_ := Aside0.mk (below_step ahx hb); clear BK101; clear BK102; clear BK109; clear BK112; clear HB; have BK101 := n0_; have BK102 := n1_; have BK109 := n2_; have BK112 := n3_; have HB := n4_; clear n0_ n1_ n2_ n3_ n4_; (try clear hb); (try clear hb2); (try clear hk); (try clear hi); have hnb224 := NB102_109.out; have hnc224 := NB109_102.out; have hnb225 := NB102_112.out; have hnc225 := NB112_102.out; have hcz226_0 : w223.cell? ⟨gb102, 0, none⟩ = some (.int .i64 a1_0) := (blk_cell BK102.out 0).trans rfl; have hcz226_1 : w223.cell? ⟨gb102, 1, none⟩ = some (.int .i64 a1_1) := (blk_cell BK102.out 1).trans rfl; have hfz226_0 := blk_frozen BK102.out 0; have hfz226_1 := blk_frozen BK102.out 1) | (go_at_call 17; (with_reducible refine (span_Has.calls a0_0 a0_1 a2 false _ A135.out).mono ?_); rintro e w223 ⟨rfl, hb⟩; have n0_ := Aside0.mk (blk_below (g := gb101) (o := .cells #[.int .i64 a0_0, .int .i64 a0_1] 23 (0, 0)) abx hb); have n1_ := Aside0.mk (blk_below (g := gb102) (o := .cells #[.int .i64 a1_0, .int .i64 a1_1] 23 (0, 0)) abx hb); have n2_ := Aside0.mk (blk_below (g := gb109) (o := .cells #[.int .i64 t106, .int .i64 t107] 23 (0, 0)) abx hb); have n3_ := Aside0.mk (blk_below (g := gb112) (o := .cells #[.int .i64 t110, .int .i64 t111] 23 (0, 0)) abx hb); have n4_ := Aside0.mk (below_step ahx hb); clear BK101; clear BK102; clear BK109; clear BK112; clear HB; have BK101 := n0_; have BK102 := n1_; have BK109 := n2_; have BK112 := n3_; have HB := n4_; clear n0_ n1_ n2_ n3_ n4_; (try clear hb); (try clear hb2); (try clear hk); (try clear hi); have hnb224 := NB102_109.out; have hnc224 := NB109_102.out; have hnb225 := NB102_112.out; have hnc225 := NB112_102.out; have hcz226_0 : w223.cell? ⟨gb102, 0, none⟩ = some (.int .i64 a1_0) := (blk_cell BK102.out 0).trans rfl; have hcz226_1 : w223.cell? ⟨gb102, 1, none⟩ = some (.int .i64 a1_1) := (blk_cell BK102.out 1).trans rfl; have hfz226_0 := blk_frozen BK102.out 0; have hfz226_1 := blk_frozen BK102.out 1) | (go_at_call 17; (with_reducible refine (span_Has.calls a1_0 a1_1 a2 true _ A179.out).mono ?_); rintro e w227 ⟨rfl, hb⟩; have n0_ := Aside0.mk (blk_below (g := gb101) (o := .cells #[.int .i64 a0_0, .int .i64 a0_1] 23 (0, 0)) abx hb); have n1_ := Aside0.mk (blk_below (g := gb102) (o := .cells #[.int .i64 a1_0, .int .i64 a1_1] 23 (0, 0)) abx hb); have n2_ := Aside0.mk (blk_below (g := gb109) (o := .cells #[.int .i64 t106, .int .i64 t107] 23 (0, 0)) abx hb); have n3_ := Aside0.mk (blk_below (g := gb112) (o := .cells #[.int .i64 t110, .int .i64 t111] 23 (0, 0)) abx hb); have n4_ := Aside0.mk (below_step ahx hb); clear BK101; clear BK102; clear BK109; clear BK112; clear HB; have BK101 := n0_; have BK102 := n1_; have BK109 := n2_; have BK112 := n3_; have HB := n4_; clear n0_ n1_ n2_ n3_ n4_; (try clear hb); (try clear hb2); (try clear hk); (try clear hi); have hnb228 := NB112_109.out; have hnc228 := NB109_112.out; have hcz229_0 : w227.cell? ⟨gb112, 0, none⟩ = some (.int .i64 t110) := (blk_cell BK112.out 0).trans rfl; have hcz229_1 : w227.cell? ⟨gb112, 1, none⟩ = some (.int .i64 t111) := (blk_cell BK112.out 1).trans rfl; have hfz229_0 := blk_frozen BK112.out 0; have hfz229_1 := blk_frozen BK112.out 1) | (go_at_call 17; (with_reducible refine (span_Has.calls t110 t111 a2 false _ A181.out).mono ?_); rintro e w230 ⟨rfl, hb⟩; have n0_ := Aside0.mk (blk_below (g := gb101) (o := .cells #[.int .i64 a0_0, .int .i64 a0_1] 23 (0, 0)) abx hb); have n1_ := Aside0.mk (blk_below (g := gb102) (o := .cells #[.int .i64 a1_0, .int .i64 a1_1] 23 (0, 0)) abx hb); have n2_ := Aside0.mk (blk_below (g := gb109) (o := .cells #[.int .i64 t106, .int .i64 t107] 23 (0, 0)) abx hb); have n3_ := Aside0.mk (blk_below (g := gb112) (o := .cells #[.int .i64 t110, .int .i64 t111] 23 (0, 0)) abx hb); have n4_ := Aside0.mk (below_step ahx hb); clear BK101; clear BK102; clear BK109; clear BK112; clear HB; have BK101 := n0_; have BK102 := n1_; have BK109 := n2_; have BK112 := n3_; have HB := n4_; clear n0_ n1_ n2_ n3_ n4_; (try clear hb); (try clear hb2); (try clear hk); (try clear hi)))
             go_meet
             case rel => exact ⟨_, (true), (by first | rfl | (simp; done) | (simp [*]; done)), H', ⟨by have := HJ4.out; have := HJ22.out; have := HJ56.out; first | omega | exact Nat.le_refl _⟩, ⟨by (with_reducible repeat (first | refine blk_drewN ?_ _ | refine blk_drew ?_ | refine blk_alloc ?_ _)); exact BK101.out⟩, ⟨by (with_reducible repeat (first | refine blk_drewN ?_ _ | refine blk_drew ?_ | refine blk_alloc ?_ _)); exact BK102.out⟩, ⟨by (with_reducible repeat (first | refine blk_drewN ?_ _ | refine blk_drew ?_ | refine blk_alloc ?_ _)); exact BK109.out⟩, ⟨by (with_reducible repeat (first | refine blk_drewN ?_ _ | refine blk_drew ?_ | refine blk_alloc ?_ _)); exact BK112.out⟩, ⟨ahx⟩⟩
           ·replace c180 := Bool.eq_false_iff.mpr c180
            subst c180
            have H1 : ((span_Within.f a0_0 a0_1 t110 t111).bind fun t127 => (if t127 = true then ((span_Within.f a1_0 a1_1 t110 t111).bind fun t128 => (bournelaw09_SpanMeets.j3 kj56 t103 (!t128) a0_0 a0_1 a1_0 a1_1 t110 t111)) else (bournelaw09_SpanMeets.j3 kj56 t103 true a0_0 a0_1 a1_0 a1_1 t110 t111))) = some r := by rw [if_neg (show ¬ (false = true) by decide)] at H; exact H
            clear H
            have H := H1
            clear H1
            replace H := Option.bind_eq_some_iff.mp H
            obtain ⟨t127, A2310, H⟩ := H
            replace H : (if t127 = true then ((span_Within.f a1_0 a1_1 t110 t111).bind fun t128 => (bournelaw09_SpanMeets.j3 kj56 t103 (!t128) a0_0 a0_1 a1_0 a1_1 t110 t111)) else (bournelaw09_SpanMeets.j3 kj56 t103 true a0_0 a0_1 a1_0 a1_1 t110 t111)) = some r := H
            have A231 := Aside0.mk A2310
            clear A2310
            by_cases c232 : t127 = true
            ·subst c232
             have H1 : ((span_Within.f a1_0 a1_1 t110 t111).bind fun t128 => (bournelaw09_SpanMeets.j3 kj56 t103 (!t128) a0_0 a0_1 a1_0 a1_1 t110 t111)) = some r := by rw [if_pos rfl] at H; exact H
             clear H
             have H := H1
             clear H1
             replace H := Option.bind_eq_some_iff.mp H
             obtain ⟨t128, A2330, H⟩ := H
             replace H : (bournelaw09_SpanMeets.j3 kj56 t103 (!t128) a0_0 a0_1 a1_0 a1_1 t110 t111) = some r := H
             have A233 := Aside0.mk A2330
             clear A2330
             have H' := Aside0.mk H
             clear H
             have hnb234 := NB101_102.out
             have hnc234 := NB102_101.out
             have hnb235 := NB101_109.out
             have hnc235 := NB109_101.out
             have hnb236 := NB101_112.out
             have hnc236 := NB112_101.out
             have hcz237_0 : wc.cell? ⟨gb101, 0, none⟩ = some (.int .i64 a0_0) := (blk_cell BK101.out 0).trans rfl
             have hcz237_1 : wc.cell? ⟨gb101, 1, none⟩ = some (.int .i64 a0_1) := (blk_cell BK101.out 1).trans rfl
             have hfz237_0 := blk_frozen BK101.out 0
             have hfz237_1 := blk_frozen BK101.out 1
             go_wp2_with (first | ((with_reducible refine gate_callee (f := 17) rfl ?_); refine goesL_ (some 78) rfl rfl Try.func17 (by kernel_rfl) rfl #[.agg #[.int .i64 a0_0, .int .i64 a0_1], .int .i64 a2] rfl (by first | done | rfl) ?_; (with_reducible refine (span_Has.calls a0_0 a0_1 a2 false _ A135.out).mono ?_); rintro e w238 ⟨rfl, hb⟩; refine ⟨_, rfl, ?_⟩; have n0_ := Aside0.mk (blk_below (g := gb101) (o := .cells #[.int .i64 a0_0, .int .i64 a0_1] 23 (0, 0)) abx hb); have n1_ := Aside0.mk (blk_below (g := gb102) (o := .cells #[.int .i64 a1_0, .int .i64 a1_1] 23 (0, 0)) abx hb); have n2_ := Aside0.mk (blk_below (g := gb109) (o := .cells #[.int .i64 t106, .int .i64 t107] 23 (0, 0)) abx hb); have n3_ := Aside0.mk (blk_below (g := gb112) (o := .cells #[.int .i64 t110, .int .i64 t111] 23 (0, 0)) abx hb); have n4_ := Aside0.mk (below_step ahx hb); clear BK101; clear BK102; clear BK109; clear BK112; clear HB; have BK101 := n0_; have BK102 := n1_; have BK109 := n2_; have BK112 := n3_; have HB := n4_; clear n0_ n1_ n2_ n3_ n4_; (try clear hb); (try clear hb2); (try clear hk); (try clear hi); have hnb239 := NB102_109.out; have hnc239 := NB109_102.out; have hnb240 := NB102_112.out; have hnc240 := NB112_102.out; have hcz241_0 : w238.cell? ⟨gb102, 0, none⟩ = some (.int .i64 a1_0) := (blk_cell BK102.out 0).trans rfl; have hcz241_1 : w238.cell? ⟨gb102, 1, none⟩ = some (.int .i64 a1_1) := (blk_cell BK102.out 1).trans rfl; have hfz241_0 := blk_frozen BK102.out 0; have hfz241_1 := blk_frozen BK102.out 1) | (go_at_call 17; (with_reducible refine (span_Has.calls a0_0 a0_1 a2 false _ A135.out).mono ?_); rintro e w238 ⟨rfl, hb⟩; have n0_ := Aside0.mk (blk_below (g := gb101) (o := .cells #[.int .i64 a0_0, .int .i64 a0_1] 23 (0, 0)) abx hb); have n1_ := Aside0.mk (blk_below (g := gb102) (o := .cells #[.int .i64 a1_0, .int .i64 a1_1] 23 (0, 0)) abx hb); have n2_ := Aside0.mk (blk_below (g := gb109) (o := .cells #[.int .i64 t106, .int .i64 t107] 23 (0, 0)) abx hb); have n3_ := Aside0.mk (blk_below (g := gb112) (o := .cells #[.int .i64 t110, .int .i64 t111] 23 (0, 0)) abx hb); have n4_ := Aside0.mk (below_step ahx hb); clear BK101; clear BK102; clear BK109; clear BK112; clear HB; have BK101 := n0_; have BK102 := n1_; have BK109 := n2_; have BK112 := n3_; have HB := n4_; clear n0_ n1_ n2_ n3_ n4_; (try clear hb); (try clear hb2); (try clear hk); (try clear hi); have hnb239 := NB102_109.out; have hnc239 := NB109_102.out; have hnb240 := NB102_112.out; have hnc240 := NB112_102.out; have hcz241_0 : w238.cell? ⟨gb102, 0, none⟩ = some (.int .i64 a1_0) := (blk_cell BK102.out 0).trans rfl; have hcz241_1 : w238.cell? ⟨gb102, 1, none⟩ = some (.int .i64 a1_1) := (blk_cell BK102.out 1).trans rfl; have hfz241_0 := blk_frozen BK102.out 0; have hfz241_1 := blk_frozen BK102.out 1) | (go_at_call 17; (with_reducible refine (span_Has.calls a1_0 a1_1 a2 false _ A179.out).mono ?_); rintro e w242 ⟨rfl, hb⟩; have n0_ := Aside0.mk (blk_below (g := gb101) (o := .cells #[.int .i64 a0_0, .int .i64 a0_1] 23 (0, 0)) abx hb); have n1_ := Aside0.mk (blk_below (g := gb102) (o := .cells #[.int .i64 a1_0, .int .i64 a1_1] 23 (0, 0)) abx hb); have n2_ := Aside0.mk (blk_below (g := gb109) (o := .cells #[.int .i64 t106, .int .i64 t107] 23 (0, 0)) abx hb); have n3_ := Aside0.mk (blk_below (g := gb112) (o := .cells #[.int .i64 t110, .int .i64 t111] 23 (0, 0)) abx hb); have n4_ := Aside0.mk (below_step ahx hb); clear BK101; clear BK102; clear BK109; clear BK112; clear HB; have BK101 := n0_; have BK102 := n1_; have BK109 := n2_; have BK112 := n3_; have HB := n4_; clear n0_ n1_ n2_ n3_ n4_; (try clear hb); (try clear hb2); (try clear hk); (try clear hi); have hcz243_0 : w242.cell? ⟨gb101, 0, none⟩ = some (.int .i64 a0_0) := (blk_cell BK101.out 0).trans rfl; have hcz243_1 : w242.cell? ⟨gb101, 1, none⟩ = some (.int .i64 a0_1) := (blk_cell BK101.out 1).trans rfl; have hfz243_0 := blk_frozen BK101.out 0; have hfz243_1 := blk_frozen BK101.out 1; have hnb244 := NB112_109.out; have hnc244 := NB109_112.out; have hcz245_0 : w242.cell? ⟨gb112, 0, none⟩ = some (.int .i64 t110) := (blk_cell BK112.out 0).trans rfl; have hcz245_1 : w242.cell? ⟨gb112, 1, none⟩ = some (.int .i64 t111) := (blk_cell BK112.out 1).trans rfl; have hfz245_0 := blk_frozen BK112.out 0; have hfz245_1 := blk_frozen BK112.out 1) | (go_at_call 25; (with_reducible refine (span_Within.calls a0_0 a0_1 t110 t111 true _ A231.out).mono ?_); rintro e w246 ⟨rfl, hb⟩; have n0_ := Aside0.mk (blk_below (g := gb101) (o := .cells #[.int .i64 a0_0, .int .i64 a0_1] 23 (0, 0)) abx hb); have n1_ := Aside0.mk (blk_below (g := gb102) (o := .cells #[.int .i64 a1_0, .int .i64 a1_1] 23 (0, 0)) abx hb); have n2_ := Aside0.mk (blk_below (g := gb109) (o := .cells #[.int .i64 t106, .int .i64 t107] 23 (0, 0)) abx hb); have n3_ := Aside0.mk (blk_below (g := gb112) (o := .cells #[.int .i64 t110, .int .i64 t111] 23 (0, 0)) abx hb); have n4_ := Aside0.mk (below_step ahx hb); clear BK101; clear BK102; clear BK109; clear BK112; clear HB; have BK101 := n0_; have BK102 := n1_; have BK109 := n2_; have BK112 := n3_; have HB := n4_; clear n0_ n1_ n2_ n3_ n4_; (try clear hb); (try clear hb2); (try clear hk); (try clear hi); have hcz247_0 : w246.cell? ⟨gb102, 0, none⟩ = some (.int .i64 a1_0) := (blk_cell BK102.out 0).trans rfl; have hcz247_1 : w246.cell? ⟨gb102, 1, none⟩ = some (.int .i64 a1_1) := (blk_cell BK102.out 1).trans rfl; have hfz247_0 := blk_frozen BK102.out 0; have hfz247_1 := blk_frozen BK102.out 1; have hcz248_0 : w246.cell? ⟨gb112, 0, none⟩ = some (.int .i64 t110) := (blk_cell BK112.out 0).trans rfl; have hcz248_1 : w246.cell? ⟨gb112, 1, none⟩ = some (.int .i64 t111) := (blk_cell BK112.out 1).trans rfl; have hfz248_0 := blk_frozen BK112.out 0; have hfz248_1 := blk_frozen BK112.out 1) | (go_at_call 25; (with_reducible refine (span_Within.calls a1_0 a1_1 t110 t111 t128 _ A233.out).mono ?_); rintro e w249 ⟨rfl, hb⟩; have n0_ := Aside0.mk (blk_below (g := gb101) (o := .cells #[.int .i64 a0_0, .int .i64 a0_1] 23 (0, 0)) abx hb); have n1_ := Aside0.mk (blk_below (g := gb102) (o := .cells #[.int .i64 a1_0, .int .i64 a1_1] 23 (0, 0)) abx hb); have n2_ := Aside0.mk (blk_below (g := gb109) (o := .cells #[.int .i64 t106, .int .i64 t107] 23 (0, 0)) abx hb); have n3_ := Aside0.mk (blk_below (g := gb112) (o := .cells #[.int .i64 t110, .int .i64 t111] 23 (0, 0)) abx hb); have n4_ := Aside0.mk (below_step ahx hb); clear BK101; clear BK102; clear BK109; clear BK112; clear HB; have BK101 := n0_; have BK102 := n1_; have BK109 := n2_; have BK112 := n3_; have HB := n4_; clear n0_ n1_ n2_ n3_ n4_; (try clear hb); (try clear hb2); (try clear hk); (try clear hi)))
             go_meet
             case rel => exact ⟨_, (!t128), (by first | rfl | (simp; done) | (simp [*]; done)), H', ⟨by have := HJ4.out; have := HJ22.out; have := HJ56.out; first | omega | exact Nat.le_refl _⟩, ⟨by (with_reducible repeat (first | refine blk_drewN ?_ _ | refine blk_drew ?_ | refine blk_alloc ?_ _)); exact BK101.out⟩, ⟨by (with_reducible repeat (first | refine blk_drewN ?_ _ | refine blk_drew ?_ | refine blk_alloc ?_ _)); exact BK102.out⟩, ⟨by (with_reducible repeat (first | refine blk_drewN ?_ _ | refine blk_drew ?_ | refine blk_alloc ?_ _)); exact BK109.out⟩, ⟨by (with_reducible repeat (first | refine blk_drewN ?_ _ | refine blk_drew ?_ | refine blk_alloc ?_ _)); exact BK112.out⟩, ⟨ahx⟩⟩
            ·replace c232 := Bool.eq_false_iff.mpr c232
             subst c232
             have H1 : (bournelaw09_SpanMeets.j3 kj56 t103 true a0_0 a0_1 a1_0 a1_1 t110 t111) = some r := by rw [if_neg (show ¬ (false = true) by decide)] at H; exact H
             clear H
             have H := H1
             clear H1
             have H' := Aside0.mk H
             clear H
             have hnb250 := NB101_102.out
             have hnc250 := NB102_101.out
             have hnb251 := NB101_109.out
             have hnc251 := NB109_101.out
             have hnb252 := NB101_112.out
             have hnc252 := NB112_101.out
             have hcz253_0 : wc.cell? ⟨gb101, 0, none⟩ = some (.int .i64 a0_0) := (blk_cell BK101.out 0).trans rfl
             have hcz253_1 : wc.cell? ⟨gb101, 1, none⟩ = some (.int .i64 a0_1) := (blk_cell BK101.out 1).trans rfl
             have hfz253_0 := blk_frozen BK101.out 0
             have hfz253_1 := blk_frozen BK101.out 1
             go_wp2_with (first | ((with_reducible refine gate_callee (f := 17) rfl ?_); refine goesL_ (some 78) rfl rfl Try.func17 (by kernel_rfl) rfl #[.agg #[.int .i64 a0_0, .int .i64 a0_1], .int .i64 a2] rfl (by first | done | rfl) ?_; (with_reducible refine (span_Has.calls a0_0 a0_1 a2 false _ A135.out).mono ?_); rintro e w254 ⟨rfl, hb⟩; refine ⟨_, rfl, ?_⟩; have n0_ := Aside0.mk (blk_below (g := gb101) (o := .cells #[.int .i64 a0_0, .int .i64 a0_1] 23 (0, 0)) abx hb); have n1_ := Aside0.mk (blk_below (g := gb102) (o := .cells #[.int .i64 a1_0, .int .i64 a1_1] 23 (0, 0)) abx hb); have n2_ := Aside0.mk (blk_below (g := gb109) (o := .cells #[.int .i64 t106, .int .i64 t107] 23 (0, 0)) abx hb); have n3_ := Aside0.mk (blk_below (g := gb112) (o := .cells #[.int .i64 t110, .int .i64 t111] 23 (0, 0)) abx hb); have n4_ := Aside0.mk (below_step ahx hb); clear BK101; clear BK102; clear BK109; clear BK112; clear HB; have BK101 := n0_; have BK102 := n1_; have BK109 := n2_; have BK112 := n3_; have HB := n4_; clear n0_ n1_ n2_ n3_ n4_; (try clear hb); (try clear hb2); (try clear hk); (try clear hi); have hnb255 := NB102_109.out; have hnc255 := NB109_102.out; have hnb256 := NB102_112.out; have hnc256 := NB112_102.out; have hcz257_0 : w254.cell? ⟨gb102, 0, none⟩ = some (.int .i64 a1_0) := (blk_cell BK102.out 0).trans rfl; have hcz257_1 : w254.cell? ⟨gb102, 1, none⟩ = some (.int .i64 a1_1) := (blk_cell BK102.out 1).trans rfl; have hfz257_0 := blk_frozen BK102.out 0; have hfz257_1 := blk_frozen BK102.out 1) | (go_at_call 17; (with_reducible refine (span_Has.calls a0_0 a0_1 a2 false _ A135.out).mono ?_); rintro e w254 ⟨rfl, hb⟩; have n0_ := Aside0.mk (blk_below (g := gb101) (o := .cells #[.int .i64 a0_0, .int .i64 a0_1] 23 (0, 0)) abx hb); have n1_ := Aside0.mk (blk_below (g := gb102) (o := .cells #[.int .i64 a1_0, .int .i64 a1_1] 23 (0, 0)) abx hb); have n2_ := Aside0.mk (blk_below (g := gb109) (o := .cells #[.int .i64 t106, .int .i64 t107] 23 (0, 0)) abx hb); have n3_ := Aside0.mk (blk_below (g := gb112) (o := .cells #[.int .i64 t110, .int .i64 t111] 23 (0, 0)) abx hb); have n4_ := Aside0.mk (below_step ahx hb); clear BK101; clear BK102; clear BK109; clear BK112; clear HB; have BK101 := n0_; have BK102 := n1_; have BK109 := n2_; have BK112 := n3_; have HB := n4_; clear n0_ n1_ n2_ n3_ n4_; (try clear hb); (try clear hb2); (try clear hk); (try clear hi); have hnb255 := NB102_109.out; have hnc255 := NB109_102.out; have hnb256 := NB102_112.out; have hnc256 := NB112_102.out; have hcz257_0 : w254.cell? ⟨gb102, 0, none⟩ = some (.int .i64 a1_0) := (blk_cell BK102.out 0).trans rfl; have hcz257_1 : w254.cell? ⟨gb102, 1, none⟩ = some (.int .i64 a1_1) := (blk_cell BK102.out 1).trans rfl; have hfz257_0 := blk_frozen BK102.out 0; have hfz257_1 := blk_frozen BK102.out 1) | (go_at_call 17; (with_reducible refine (span_Has.calls a1_0 a1_1 a2 false _ A179.out).mono ?_); rintro e w258 ⟨rfl, hb⟩; have n0_ := Aside0.mk (blk_below (g := gb101) (o := .cells #[.int .i64 a0_0, .int .i64 a0_1] 23 (0, 0)) abx hb); have n1_ := Aside0.mk (blk_below (g := gb102) (o := .cells #[.int .i64 a1_0, .int .i64 a1_1] 23 (0, 0)) abx hb); have n2_ := Aside0.mk (blk_below (g := gb109) (o := .cells #[.int .i64 t106, .int .i64 t107] 23 (0, 0)) abx hb); have n3_ := Aside0.mk (blk_below (g := gb112) (o := .cells #[.int .i64 t110, .int .i64 t111] 23 (0, 0)) abx hb); have n4_ := Aside0.mk (below_step ahx hb); clear BK101; clear BK102; clear BK109; clear BK112; clear HB; have BK101 := n0_; have BK102 := n1_; have BK109 := n2_; have BK112 := n3_; have HB := n4_; clear n0_ n1_ n2_ n3_ n4_; (try clear hb); (try clear hb2); (try clear hk); (try clear hi); have hcz259_0 : w258.cell? ⟨gb101, 0, none⟩ = some (.int .i64 a0_0) := (blk_cell BK101.out 0).trans rfl; have hcz259_1 : w258.cell? ⟨gb101, 1, none⟩ = some (.int .i64 a0_1) := (blk_cell BK101.out 1).trans rfl; have hfz259_0 := blk_frozen BK101.out 0; have hfz259_1 := blk_frozen BK101.out 1; have hnb260 := NB112_109.out; have hnc260 := NB109_112.out; have hcz261_0 : w258.cell? ⟨gb112, 0, none⟩ = some (.int .i64 t110) := (blk_cell BK112.out 0).trans rfl; have hcz261_1 : w258.cell? ⟨gb112, 1, none⟩ = some (.int .i64 t111) := (blk_cell BK112.out 1).trans rfl; have hfz261_0 := blk_frozen BK112.out 0; have hfz261_1 := blk_frozen BK112.out 1) | (go_at_call 25; (with_reducible refine (span_Within.calls a0_0 a0_1 t110 t111 false _ A231.out).mono ?_); rintro e w262 ⟨rfl, hb⟩; have n0_ := Aside0.mk (blk_below (g := gb101) (o := .cells #[.int .i64 a0_0, .int .i64 a0_1] 23 (0, 0)) abx hb); have n1_ := Aside0.mk (blk_below (g := gb102) (o := .cells #[.int .i64 a1_0, .int .i64 a1_1] 23 (0, 0)) abx hb); have n2_ := Aside0.mk (blk_below (g := gb109) (o := .cells #[.int .i64 t106, .int .i64 t107] 23 (0, 0)) abx hb); have n3_ := Aside0.mk (blk_below (g := gb112) (o := .cells #[.int .i64 t110, .int .i64 t111] 23 (0, 0)) abx hb); have n4_ := Aside0.mk (below_step ahx hb); clear BK101; clear BK102; clear BK109; clear BK112; clear HB; have BK101 := n0_; have BK102 := n1_; have BK109 := n2_; have BK112 := n3_; have HB := n4_; clear n0_ n1_ n2_ n3_ n4_; (try clear hb); (try clear hb2); (try clear hk); (try clear hi)))
             go_meet
             case rel => exact ⟨_, (true), (by first | rfl | (simp; done) | (simp [*]; done)), H', ⟨by have := HJ4.out; have := HJ22.out; have := HJ56.out; first | omega | exact Nat.le_refl _⟩, ⟨by (with_reducible repeat (first | refine blk_drewN ?_ _ | refine blk_drew ?_ | refine blk_alloc ?_ _)); exact BK101.out⟩, ⟨by (with_reducible repeat (first | refine blk_drewN ?_ _ | refine blk_drew ?_ | refine blk_alloc ?_ _)); exact BK102.out⟩, ⟨by (with_reducible repeat (first | refine blk_drewN ?_ _ | refine blk_drew ?_ | refine blk_alloc ?_ _)); exact BK109.out⟩, ⟨by (with_reducible repeat (first | refine blk_drewN ?_ _ | refine blk_drew ?_ | refine blk_alloc ?_ _)); exact BK112.out⟩, ⟨ahx⟩⟩
         case rest =>
          clear HC134
          try clear c1
          try clear c2
          try clear p2
          try clear c3
          try clear c4
          try clear c5
          try clear c6
          try clear c7
          try clear c8
          try clear c9
          try clear c10
          try clear c11
          try clear c12
          try clear c13
          try clear c14
          try clear c15
          try clear c16
          try clear c17
          try clear c18
          try clear c19
          try clear c20
          try clear c21
          try clear c22
          try clear c23
          try clear c24
          try clear c25
          try clear c26
          try clear c29
          try clear c30
          try clear c36
          try clear c37
          try clear c38
          try clear c41
          try clear c43
          try clear c44
          try clear c45
          try clear c48
          try clear c49
          try clear c52
          try clear c53
          try clear c54
          try clear c58
          try clear c60
          try clear c60b0
          try clear c60b1
          try clear c60b2
          try clear c61
          try clear c62
          try clear c63
          try clear c67
          try clear c69
          try clear c71
          try clear c72
          try clear c73
          try clear c74
          try clear c78
          try clear c79
          try clear c83
          try clear c88
          try clear c89
          try clear c90
          try clear c94
          try clear c95
          try clear c99
          try clear c104
          try clear c105
          try clear c106
          try clear c110
          try clear c111
          try clear c115
          try clear c118
          try clear c119
          try clear c120
          try clear c124
          try clear c125
          try clear c128
          try clear c128b0
          try clear c128b1
          try clear c128b2
          try clear c129
          try clear c130
          try clear c131
          try clear c133
          try clear c136
          try clear c138
          try clear c140
          try clear c142
          try clear c143
          try clear c144
          try clear c147
          try clear c148
          try clear c154
          try clear c158
          try clear c159
          try clear c160
          try clear c163
          try clear c164
          try clear c170
          try clear c171
          try clear c172
          try clear c175
          try clear c176
          try clear c180
          try clear c182
          try clear c184
          try clear c186
          try clear c187
          try clear c188
          try clear c191
          try clear c192
          try clear c195
          try clear c204
          try clear c205
          try clear c206
          try clear c209
          try clear c210
          try clear c213
          try clear c219
          try clear c220
          try clear c221
          try clear c224
          try clear c225
          try clear c228
          try clear c232
          try clear c234
          try clear c235
          try clear c236
          try clear c239
          try clear c240
          try clear c244
          try clear c250
          try clear c251
          try clear c252
          try clear c255
          try clear c256
          try clear c260
          try clear hcz100_0
          try clear hcz100_1
          try clear hcz102_0
          try clear hcz102_1
          try clear hcz107_0
          try clear hcz107_1
          try clear hcz109_0
          try clear hcz109_1
          try clear hcz112_0
          try clear hcz112_1
          try clear hcz114_0
          try clear hcz114_1
          try clear hcz116_0
          try clear hcz116_1
          try clear hcz121_0
          try clear hcz121_1
          try clear hcz123_0
          try clear hcz123_1
          try clear hcz126_0
          try clear hcz126_1
          try clear hcz132_0
          try clear hcz132_1
          try clear hcz13_0
          try clear hcz13_1
          try clear hcz145_0
          try clear hcz145_1
          try clear hcz149_0
          try clear hcz149_1
          try clear hcz151_0
          try clear hcz151_1
          try clear hcz152_0
          try clear hcz152_1
          try clear hcz155_0
          try clear hcz155_1
          try clear hcz156_0
          try clear hcz156_1
          try clear hcz15_0
          try clear hcz15_1
          try clear hcz161_0
          try clear hcz161_1
          try clear hcz165_0
          try clear hcz165_1
          try clear hcz167_0
          try clear hcz167_1
          try clear hcz168_0
          try clear hcz168_1
          try clear hcz173_0
          try clear hcz173_1
          try clear hcz177_0
          try clear hcz177_1
          try clear hcz189_0
          try clear hcz189_1
          try clear hcz18_0
          try clear hcz18_1
          try clear hcz193_0
          try clear hcz193_1
          try clear hcz196_0
          try clear hcz196_1
          try clear hcz198_0
          try clear hcz198_1
          try clear hcz199_0
          try clear hcz199_1
          try clear hcz201_0
          try clear hcz201_1
          try clear hcz202_0
          try clear hcz202_1
          try clear hcz207_0
          try clear hcz207_1
          try clear hcz211_0
          try clear hcz211_1
          try clear hcz214_0
          try clear hcz214_1
          try clear hcz216_0
          try clear hcz216_1
          try clear hcz217_0
          try clear hcz217_1
          try clear hcz222_0
          try clear hcz222_1
          try clear hcz226_0
          try clear hcz226_1
          try clear hcz229_0
          try clear hcz229_1
          try clear hcz237_0
          try clear hcz237_1
          try clear hcz241_0
          try clear hcz241_1
          try clear hcz243_0
          try clear hcz243_1
          try clear hcz245_0
          try clear hcz245_1
          try clear hcz247_0
          try clear hcz247_1
          try clear hcz248_0
          try clear hcz248_1
          try clear hcz253_0
          try clear hcz253_1
          try clear hcz257_0
          try clear hcz257_1
          try clear hcz259_0
          try clear hcz259_1
          try clear hcz25_0
          try clear hcz25_1
          try clear hcz261_0
          try clear hcz261_1
          try clear hcz26_0
          try clear hcz26_1
          try clear hcz31_0
          try clear hcz31_1
          try clear hcz32_0
          try clear hcz32_1
          try clear hcz33_0
          try clear hcz33_1
          try clear hcz39_0
          try clear hcz39_1
          try clear hcz46_0
          try clear hcz46_1
          try clear hcz50_0
          try clear hcz50_1
          try clear hcz55_0
          try clear hcz55_1
          try clear hcz64_0
          try clear hcz64_1
          try clear hcz75_0
          try clear hcz75_1
          try clear hcz77_0
          try clear hcz77_1
          try clear hcz80_0
          try clear hcz80_1
          try clear hcz82_0
          try clear hcz82_1
          try clear hcz84_0
          try clear hcz84_1
          try clear hcz86_0
          try clear hcz86_1
          try clear hcz91_0
          try clear hcz91_1
          try clear hcz93_0
          try clear hcz93_1
          try clear hcz96_0
          try clear hcz96_1
          try clear hcz98_0
          try clear hcz98_1
          try clear hfz100_0
          try clear hfz100_1
          try clear hfz102_0
          try clear hfz102_1
          try clear hfz107_0
          try clear hfz107_1
          try clear hfz109_0
          try clear hfz109_1
          try clear hfz112_0
          try clear hfz112_1
          try clear hfz114_0
          try clear hfz114_1
          try clear hfz116_0
          try clear hfz116_1
          try clear hfz121_0
          try clear hfz121_1
          try clear hfz123_0
          try clear hfz123_1
          try clear hfz126_0
          try clear hfz126_1
          try clear hfz132_0
          try clear hfz132_1
          try clear hfz13_0
          try clear hfz13_1
          try clear hfz145_0
          try clear hfz145_1
          try clear hfz149_0
          try clear hfz149_1
          try clear hfz151_0
          try clear hfz151_1
          try clear hfz152_0
          try clear hfz152_1
          try clear hfz155_0
          try clear hfz155_1
          try clear hfz156_0
          try clear hfz156_1
          try clear hfz15_0
          try clear hfz15_1
          try clear hfz161_0
          try clear hfz161_1
          try clear hfz165_0
          try clear hfz165_1
          try clear hfz167_0
          try clear hfz167_1
          try clear hfz168_0
          try clear hfz168_1
          try clear hfz173_0
          try clear hfz173_1
          try clear hfz177_0
          try clear hfz177_1
          try clear hfz189_0
          try clear hfz189_1
          try clear hfz18_0
          try clear hfz18_1
          try clear hfz193_0
          try clear hfz193_1
          try clear hfz196_0
          try clear hfz196_1
          try clear hfz198_0
          try clear hfz198_1
          try clear hfz199_0
          try clear hfz199_1
          try clear hfz201_0
          try clear hfz201_1
          try clear hfz202_0
          try clear hfz202_1
          try clear hfz207_0
          try clear hfz207_1
          try clear hfz211_0
          try clear hfz211_1
          try clear hfz214_0
          try clear hfz214_1
          try clear hfz216_0
          try clear hfz216_1
          try clear hfz217_0
          try clear hfz217_1
          try clear hfz222_0
          try clear hfz222_1
          try clear hfz226_0
          try clear hfz226_1
          try clear hfz229_0
          try clear hfz229_1
          try clear hfz237_0
          try clear hfz237_1
          try clear hfz241_0
          try clear hfz241_1
          try clear hfz243_0
          try clear hfz243_1
          try clear hfz245_0
          try clear hfz245_1
          try clear hfz247_0
          try clear hfz247_1
          try clear hfz248_0
          try clear hfz248_1
          try clear hfz253_0
          try clear hfz253_1
          try clear hfz257_0
          try clear hfz257_1
          try clear hfz259_0
          try clear hfz259_1
          try clear hfz25_0
          try clear hfz25_1
          try clear hfz261_0
          try clear hfz261_1
          try clear hfz26_0
          try clear hfz26_1
          try clear hfz31_0
          try clear hfz31_1
          try clear hfz32_0
          try clear hfz32_1
          try clear hfz33_0
          try clear hfz33_1
          try clear hfz39_0
          try clear hfz39_1
          try clear hfz46_0
          try clear hfz46_1
          try clear hfz50_0
          try clear hfz50_1
          try clear hfz55_0
          try clear hfz55_1
          try clear hfz64_0
          try clear hfz64_1
          try clear hfz75_0
          try clear hfz75_1
          try clear hfz77_0
          try clear hfz77_1
          try clear hfz80_0
          try clear hfz80_1
          try clear hfz82_0
          try clear hfz82_1
          try clear hfz84_0
          try clear hfz84_1
          try clear hfz86_0
          try clear hfz86_1
          try clear hfz91_0
          try clear hfz91_1
          try clear hfz93_0
          try clear hfz93_1
          try clear hfz96_0
          try clear hfz96_1
          try clear hfz98_0
          try clear hfz98_1
          try clear p2
          obtain ⟨kq, x101_133, rfl, HA, HJ133, BK101, BK102, BK109, BK112, HB⟩ := hcut
          cases kq with
          | zero => exact absurd HA.out (by simp [bournelaw09_SpanMeets.j3])
          | succ kj133 =>
           have H := HA.out
           clear HA
           simp only [bournelaw09_SpanMeets.j3] at H
           by_cases c263 : x101_133 = true
           ·subst c263
            have H1 : (some false) = some r := by rw [if_pos rfl] at H; exact H
            clear H
            have H := H1
            clear H1
            exact NF.go H hr.out (by repeat' first | exact NF.none | exact NF.ff | refine NF.ite ?_ ?_ | refine NF.bind (fun _ => ?_))
           ·replace c263 := Bool.eq_false_iff.mpr c263
            subst c263
            have H1 : (if t103 = true then (if t110 = a0_0 then (if t111 = a0_1 then (some true) else (some (t111 == a1_1))) else (if t110 = a1_0 then (if t111 = a0_1 then (some true) else (some (t111 == a1_1))) else (some false))) else (some false)) = some r := by rw [if_neg (show ¬ (false = true) by decide)] at H; exact H
            clear H
            have H := H1
            clear H1
            by_cases c264 : t103 = true
            ·subst c264
             have H1 : (if t110 = a0_0 then (if t111 = a0_1 then (some true) else (some (t111 == a1_1))) else (if t110 = a1_0 then (if t111 = a0_1 then (some true) else (some (t111 == a1_1))) else (some false))) = some r := by rw [if_pos rfl] at H; exact H
             clear H
             have H := H1
             clear H1
             by_cases c265 : t110 = a0_0
             ·rw [if_pos c265] at H
              have c265b0 : (t110 == a0_0) = true := beq_iff_eq.mpr c265
              have c265b1 : (t110 != a0_0) = false := bne_eq_false_iff_eq.mpr c265
              clear c265
              by_cases c266 : t111 = a0_1
              ·rw [if_pos c266] at H
               have c266b0 : (t111 == a0_1) = true := beq_iff_eq.mpr c266
               have c266b1 : (t111 != a0_1) = false := bne_eq_false_iff_eq.mpr c266
               clear c266
               obtain rfl := Option.some.inj H
               have hnb267 := NB112_101.out
               have hnc267 := NB101_112.out
               have hnb268 := NB112_102.out
               have hnc268 := NB102_112.out
               have hnb269 := NB112_109.out
               have hnc269 := NB109_112.out
               have hcz270_0 : wc.cell? ⟨gb112, 0, none⟩ = some (.int .i64 t110) := (blk_cell BK112.out 0).trans rfl
               have hcz270_1 : wc.cell? ⟨gb112, 1, none⟩ = some (.int .i64 t111) := (blk_cell BK112.out 1).trans rfl
               have hfz270_0 := blk_frozen BK112.out 0
               have hfz270_1 := blk_frozen BK112.out 1
               have hnb271 := NB101_102.out
               have hnc271 := NB102_101.out
               have hnb272 := NB101_109.out
               have hnc272 := NB109_101.out
               have hcz273_0 : wc.cell? ⟨gb101, 0, none⟩ = some (.int .i64 a0_0) := (blk_cell BK101.out 0).trans rfl
               have hcz273_1 : wc.cell? ⟨gb101, 1, none⟩ = some (.int .i64 a0_1) := (blk_cell BK101.out 1).trans rfl
               have hfz273_0 := blk_frozen BK101.out 0
               have hfz273_1 := blk_frozen BK101.out 1
               go_wp2
               go_ret
               exact ⟨by first | rfl | (simp [errW_none, errW_some] <;> rfl) | (simp [*, errW_none, errW_some] <;> rfl), ahx⟩
              ·rw [if_neg c266] at H
               have c266b0 : (t111 == a0_1) = false := beq_eq_false_iff_ne.mpr c266
               have c266b1 : (t111 != a0_1) = true := bne_iff_ne.mpr c266
               obtain rfl := Option.some.inj H
               have hnb274 := NB112_101.out
               have hnc274 := NB101_112.out
               have hnb275 := NB112_102.out
               have hnc275 := NB102_112.out
               have hnb276 := NB112_109.out
               have hnc276 := NB109_112.out
               have hcz277_0 : wc.cell? ⟨gb112, 0, none⟩ = some (.int .i64 t110) := (blk_cell BK112.out 0).trans rfl
               have hcz277_1 : wc.cell? ⟨gb112, 1, none⟩ = some (.int .i64 t111) := (blk_cell BK112.out 1).trans rfl
               have hfz277_0 := blk_frozen BK112.out 0
               have hfz277_1 := blk_frozen BK112.out 1
               have hnb278 := NB101_102.out
               have hnc278 := NB102_101.out
               have hnb279 := NB101_109.out
               have hnc279 := NB109_101.out
               have hcz280_0 : wc.cell? ⟨gb101, 0, none⟩ = some (.int .i64 a0_0) := (blk_cell BK101.out 0).trans rfl
               have hcz280_1 : wc.cell? ⟨gb101, 1, none⟩ = some (.int .i64 a0_1) := (blk_cell BK101.out 1).trans rfl
               have hfz280_0 := blk_frozen BK101.out 0
               have hfz280_1 := blk_frozen BK101.out 1
               have hnb281 := NB102_109.out
               have hnc281 := NB109_102.out
               have hcz282_0 : wc.cell? ⟨gb102, 0, none⟩ = some (.int .i64 a1_0) := (blk_cell BK102.out 0).trans rfl
               have hcz282_1 : wc.cell? ⟨gb102, 1, none⟩ = some (.int .i64 a1_1) := (blk_cell BK102.out 1).trans rfl
               have hfz282_0 := blk_frozen BK102.out 0
               have hfz282_1 := blk_frozen BK102.out 1
               go_wp2
               go_ret
               exact ⟨by first | rfl | (simp [errW_none, errW_some] <;> rfl) | (simp [*, errW_none, errW_some] <;> rfl), ahx⟩
             ·rw [if_neg c265] at H
              have c265b0 : (t110 == a0_0) = false := beq_eq_false_iff_ne.mpr c265
              have c265b1 : (t110 != a0_0) = true := bne_iff_ne.mpr c265
              by_cases c283 : t110 = a1_0
              ·rw [if_pos c283] at H
               have c283b0 : (t110 == a1_0) = true := beq_iff_eq.mpr c283
               have c283b1 : (t110 != a1_0) = false := bne_eq_false_iff_eq.mpr c283
               clear c283
               by_cases c284 : t111 = a0_1
               ·rw [if_pos c284] at H
                have c284b0 : (t111 == a0_1) = true := beq_iff_eq.mpr c284
                have c284b1 : (t111 != a0_1) = false := bne_eq_false_iff_eq.mpr c284
                clear c284
                obtain rfl := Option.some.inj H
                have hnb285 := NB112_101.out
                have hnc285 := NB101_112.out
                have hnb286 := NB112_102.out
                have hnc286 := NB102_112.out
                have hnb287 := NB112_109.out
                have hnc287 := NB109_112.out
                have hcz288_0 : wc.cell? ⟨gb112, 0, none⟩ = some (.int .i64 t110) := (blk_cell BK112.out 0).trans rfl
                have hcz288_1 : wc.cell? ⟨gb112, 1, none⟩ = some (.int .i64 t111) := (blk_cell BK112.out 1).trans rfl
                have hfz288_0 := blk_frozen BK112.out 0
                have hfz288_1 := blk_frozen BK112.out 1
                have hnb289 := NB101_102.out
                have hnc289 := NB102_101.out
                have hnb290 := NB101_109.out
                have hnc290 := NB109_101.out
                have hcz291_0 : wc.cell? ⟨gb101, 0, none⟩ = some (.int .i64 a0_0) := (blk_cell BK101.out 0).trans rfl
                have hcz291_1 : wc.cell? ⟨gb101, 1, none⟩ = some (.int .i64 a0_1) := (blk_cell BK101.out 1).trans rfl
                have hfz291_0 := blk_frozen BK101.out 0
                have hfz291_1 := blk_frozen BK101.out 1
                have hnb292 := NB102_109.out
                have hnc292 := NB109_102.out
                have hcz293_0 : wc.cell? ⟨gb102, 0, none⟩ = some (.int .i64 a1_0) := (blk_cell BK102.out 0).trans rfl
                have hcz293_1 : wc.cell? ⟨gb102, 1, none⟩ = some (.int .i64 a1_1) := (blk_cell BK102.out 1).trans rfl
                have hfz293_0 := blk_frozen BK102.out 0
                have hfz293_1 := blk_frozen BK102.out 1
                go_wp2
                go_ret
                exact ⟨by first | rfl | (simp [errW_none, errW_some] <;> rfl) | (simp [*, errW_none, errW_some] <;> rfl), ahx⟩
               ·rw [if_neg c284] at H
                have c284b0 : (t111 == a0_1) = false := beq_eq_false_iff_ne.mpr c284
                have c284b1 : (t111 != a0_1) = true := bne_iff_ne.mpr c284
                obtain rfl := Option.some.inj H
                have hnb294 := NB112_101.out
                have hnc294 := NB101_112.out
                have hnb295 := NB112_102.out
                have hnc295 := NB102_112.out
                have hnb296 := NB112_109.out
                have hnc296 := NB109_112.out
                have hcz297_0 : wc.cell? ⟨gb112, 0, none⟩ = some (.int .i64 t110) := (blk_cell BK112.out 0).trans rfl
                have hcz297_1 : wc.cell? ⟨gb112, 1, none⟩ = some (.int .i64 t111) := (blk_cell BK112.out 1).trans rfl
                have hfz297_0 := blk_frozen BK112.out 0
                have hfz297_1 := blk_frozen BK112.out 1
                have hnb298 := NB101_102.out
                have hnc298 := NB102_101.out
                have hnb299 := NB101_109.out
                have hnc299 := NB109_101.out
                have hcz300_0 : wc.cell? ⟨gb101, 0, none⟩ = some (.int .i64 a0_0) := (blk_cell BK101.out 0).trans rfl
                have hcz300_1 : wc.cell? ⟨gb101, 1, none⟩ = some (.int .i64 a0_1) := (blk_cell BK101.out 1).trans rfl
                have hfz300_0 := blk_frozen BK101.out 0
                have hfz300_1 := blk_frozen BK101.out 1
                have hnb301 := NB102_109.out
                have hnc301 := NB109_102.out
                have hcz302_0 : wc.cell? ⟨gb102, 0, none⟩ = some (.int .i64 a1_0) := (blk_cell BK102.out 0).trans rfl
                have hcz302_1 : wc.cell? ⟨gb102, 1, none⟩ = some (.int .i64 a1_1) := (blk_cell BK102.out 1).trans rfl
                have hfz302_0 := blk_frozen BK102.out 0
                have hfz302_1 := blk_frozen BK102.out 1
                go_wp2
                go_ret
                exact ⟨by first | rfl | (simp [errW_none, errW_some] <;> rfl) | (simp [*, errW_none, errW_some] <;> rfl), ahx⟩
              ·rw [if_neg c283] at H
               have c283b0 : (t110 == a1_0) = false := beq_eq_false_iff_ne.mpr c283
               have c283b1 : (t110 != a1_0) = true := bne_iff_ne.mpr c283
               exact NF.go H hr.out (by repeat' first | exact NF.none | exact NF.ff | refine NF.ite ?_ ?_ | refine NF.bind (fun _ => ?_))
            ·replace c264 := Bool.eq_false_iff.mpr c264
             subst c264
             have H1 : (some false) = some r := by rw [if_neg (show ¬ (false = true) by decide)] at H; exact H
             clear H
             have H := H1
             clear H1
             exact NF.go H hr.out (by repeat' first | exact NF.none | exact NF.ff | refine NF.ite ?_ ?_ | refine NF.bind (fun _ => ?_))

end Go.Proofs.Ytmlimfleekddgaa.M
