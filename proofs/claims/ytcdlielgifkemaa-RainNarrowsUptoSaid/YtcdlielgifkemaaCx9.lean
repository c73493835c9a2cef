-- Written by a program of this session (wip/tools/pp.py) out of the translation; Lean checks it.
import Derived.Test.YtcdlielgifkemaaCx0
import Derived.Test.YtcdlielgifkemaaCx5
namespace Go.Proofs.Ytcdlielgifkemaa.C
open Go.RowKit Go.Proofs.YtcdlielgifkemaaW.PrintWords Go.Proofs.YtcdlielgifkemaaW.PrintLast Go.Proofs.YtcdlielgifkemaaW.PrintMore
open Go.Proofs.Ytcdlielgifkemaa.S
attribute [local go_sem] max2_int min2_int max_two min_two max_three min_three max_four min_four   -- for this text's walks alone
open Bool renaming true → Z, false → O
set_option linter.unusedVariables false
set_option linter.unusedSimpArgs false

/-! ### bournelaw26_falls: function 26 -/
mutual
def bournelaw26_falls.l0 : Nat → List Int → Int → Int → ByteArray → Int → Int → Int → List (S112) → List Int → Int → Int → Int → Int → Int → List (S49) → Option (Int)
 | 0, _, _, _, _, _, _, _, _, _, _, _, _, _, _, _ => none
 | k + 1, x1, x5, x6, x232000, x232001, x232002, x232003, x232004, x232005, x232006, x232007, x232008, x232009, x232010, x232011 => if x6 < (x232011.length : Int) then (if 0 ≤ x6 then (if ((rd_T49 x232011 x6).f0) ≥ 0 then (bournelaw26_falls.j1 k x1 x5 x6 (decide (((rd_T49 x232011 x6).f0) < (x1.length : Int))) x232000 x232001 x232002 x232003 x232004 x232005 x232006 x232007 x232008 x232009 x232010 x232011) else (bournelaw26_falls.j1 k x1 x5 x6 false x232000 x232001 x232002 x232003 x232004 x232005 x232006 x232007 x232008 x232009 x232010 x232011)) else (none)) else (some (mn x5 1125899906842624))
def bournelaw26_falls.j1 : Nat → List Int → Int → Int → Bool → ByteArray → Int → Int → Int → List (S112) → List Int → Int → Int → Int → Int → Int → List (S49) → Option (Int)
 | 0, _, _, _, _, _, _, _, _, _, _, _, _, _, _, _, _ => none
 | k + 1, x1, x5, x6, x31, x232000, x232001, x232002, x232003, x232004, x232005, x232006, x232007, x232008, x232009, x232010, x232011 => if x31 = true then (if 0 ≤ x6 then (if x6 < (x232011.length : Int) then (if 0 ≤ ((rd_T49 x232011 x6).f0) then (if ((rd_T49 x232011 x6).f0) < (x1.length : Int) then ((bourneref26_Litres.f k (rd x1 ((rd_T49 x232011 x6).f0)) ((rd_T49 x232011 x6).f1)).bind fun t237 => ((exact_Add.f x5 t237).bind fun t238 => (bournelaw26_falls.l0 k x1 t238 (wrap64 (x6 + 1)) x232000 x232001 x232002 x232003 x232004 x232005 x232006 x232007 x232008 x232009 x232010 x232011))) else (none)) else (none)) else (none)) else (none)) else (bournelaw26_falls.l0 k x1 x5 (wrap64 (x6 + 1)) x232000 x232001 x232002 x232003 x232004 x232005 x232006 x232007 x232008 x232009 x232010 x232011)
end
def bournelaw26_falls.f (k : Nat) (a0_0 : ByteArray) (a0_1 : Int) (a0_2 : Int) (a0_3 : Int) (l0_4 : List (S112)) (l0_5 : List Int) (a0_6 : Int) (a0_7 : Int) (a0_8 : Int) (a0_9 : Int) (a0_10 : Int) (l0_11 : List (S49)) (l1 : List Int) : Option (Int) := bournelaw26_falls.l0 k l1 0 0 a0_0 a0_1 a0_2 a0_3 l0_4 l0_5 a0_6 a0_7 a0_8 a0_9 a0_10 l0_11
set_option maxHeartbeats 8000000 in
set_option maxRecDepth 100000 in
theorem bournelaw26_falls.calls (k : Nat) (a0_0 : ByteArray) (a0_1 : Int) (a0_2 : Int) (a0_3 : Int) (A0_4 : Option Addr) (c0_4 : Nat) (l0_4 : List (S112)) (A0_5 : Option Addr) (c0_5 : Nat) (l0_5 : List Int) (a0_6 : Int) (a0_7 : Int) (a0_8 : Int) (a0_9 : Int) (a0_10 : Int) (A0_11 : Option Addr) (c0_11 : Nat) (l0_11 : List (S49)) (A1 : Option Addr) (c1 : Nat) (l1 : List Int) (r : Int) (w : World) (hr0_4 : Kd.C k112 w A0_4 l0_4.length l0_4) (hc0_4 : l0_4.length ≤ c0_4) (hr0_5 : Kd.C (Kd.int .i64) w A0_5 l0_5.length l0_5) (hc0_5 : l0_5.length ≤ c0_5) (hr0_11 : Kd.C k49 w A0_11 l0_11.length l0_11) (hc0_11 : l0_11.length ≤ c0_11) (hr1 : Kd.C (Kd.int .i64) w A1 l1.length l1) (hc1 : l1.length ≤ c1) (h : bournelaw26_falls.f k a0_0 a0_1 a0_2 a0_3 l0_4 l0_5 a0_6 a0_7 a0_8 a0_9 a0_10 l0_11 l1 = some r) :
  Calls Try.prog 26 #[.agg #[.string a0_0, .int .i64 a0_1, .int .i64 a0_2, .int .i64 a0_3, .slice A0_4 l0_4.length c0_4, .slice A0_5 l0_5.length c0_5, .int .i64 a0_6, .int .i64 a0_7, .int .i64 a0_8, .int .i64 a0_9, .int .i64 a0_10, .slice A0_11 l0_11.length c0_11], .slice A1 l1.length c1] w fun e w' => e = .returned (.int .i64 r) ∧ Below w.heap.size w w' := by
 have hu47 := Try.underlying47; have HR0_4 := Aside0.mk hr0_4
 have HC0_4 := Aside0.mk hc0_4
 clear hr0_4 hc0_4; have HR0_5 := Aside0.mk hr0_5
 have HC0_5 := Aside0.mk hc0_5
 clear hr0_5 hc0_5; have HR0_11 := Aside0.mk hr0_11
 have HC0_11 := Aside0.mk hc0_11
 clear hr0_11 hc0_11; have HR1 := Aside0.mk hr1
 have HC1 := Aside0.mk hc1
 clear hr1 hc1; have HB := Aside0.mk (Below.refl w.heap.size w)
 have H : (bournelaw26_falls.l0 k l1 0 0 a0_0 a0_1 a0_2 a0_3 l0_4 l0_5 a0_6 a0_7 a0_8 a0_9 a0_10 l0_11) = some r := h
 clear h; have H' := Aside0.mk H; clear H; go_enter Try.func26, Try.ntmps26
 go_wp2_with (first | ((with_reducible refine gate_dst (N := 2) rfl ?_); (try (refine gate_guard (by rfl) ?_; dsimp only)); refine box_event ?hg (N := 2) ?hd (cs := #[.string a0_0, .int .i64 a0_1, .int .i64 a0_2, .int .i64 a0_3, .slice A0_4 l0_4.length c0_4, .slice A0_5 l0_5.length c0_5, .int .i64 a0_6, .int .i64 a0_7, .int .i64 a0_8, .int .i64 a0_9, .int .i64 a0_10, .slice A0_11 l0_11.length c0_11]) (t := 47) ?hr ?_; (case hd => rfl); (case hg => rfl); (case hr => first | (go_simp; done) | (go_simp; rfl)); intro gb231 hg w3 hbox hb; have n0_ := Aside0.mk (below_step ahx hb); have n1_ := Aside0.mk (hbox); have n2_ := Aside0.mk ((by rw [hg]; exact (below_size ahx) : w.heap.size ≤ gb231)); have n3_ := Aside0.mk ((by rw [hg]; exact (below_size ahx) : w.heap.size ≤ gb231)); clear HB; have HB := n0_; have BK231 := n1_; have GW231 := n2_; have GE231 := n3_; clear n0_ n1_ n2_ n3_; clear hb hbox hg))
 repeat (go_quiet (first | ((with_reducible refine gate_dst (N := 2) rfl ?_); (try (refine gate_guard (by rfl) ?_; dsimp only)); refine box_event ?hg (N := 2) ?hd (cs := #[.string a0_0, .int .i64 a0_1, .int .i64 a0_2, .int .i64 a0_3, .slice A0_4 l0_4.length c0_4, .slice A0_5 l0_5.length c0_5, .int .i64 a0_6, .int .i64 a0_7, .int .i64 a0_8, .int .i64 a0_9, .int .i64 a0_10, .slice A0_11 l0_11.length c0_11]) (t := 47) ?hr ?_; (case hd => rfl); (case hg => rfl); (case hr => first | (go_simp; done) | (go_simp; rfl)); intro gb231 hg w3 hbox hb; have n0_ := Aside0.mk (below_step ahx hb); have n1_ := Aside0.mk (hbox); have n2_ := Aside0.mk ((by rw [hg]; exact (below_size ahx) : w.heap.size ≤ gb231)); have n3_ := Aside0.mk ((by rw [hg]; exact (below_size ahx) : w.heap.size ≤ gb231)); clear HB; have HB := n0_; have BK231 := n1_; have GW231 := n2_; have GE231 := n3_; clear n0_ n1_ n2_ n3_; clear hb hbox hg)); try go_wp2_with (first | ((with_reducible refine gate_dst (N := 2) rfl ?_); (try (refine gate_guard (by rfl) ?_; dsimp only)); refine box_event ?hg (N := 2) ?hd (cs := #[.string a0_0, .int .i64 a0_1, .int .i64 a0_2, .int .i64 a0_3, .slice A0_4 l0_4.length c0_4, .slice A0_5 l0_5.length c0_5, .int .i64 a0_6, .int .i64 a0_7, .int .i64 a0_8, .int .i64 a0_9, .int .i64 a0_10, .slice A0_11 l0_11.length c0_11]) (t := 47) ?hr ?_; (case hd => rfl); (case hg => rfl); (case hr => first | (go_simp; done) | (go_simp; rfl)); intro gb231 hg w3 hbox hb; have n0_ := Aside0.mk (below_step ahx hb); have n1_ := Aside0.mk (hbox); have n2_ := Aside0.mk ((by rw [hg]; exact (below_size ahx) : w.heap.size ≤ gb231)); have n3_ := Aside0.mk ((by rw [hg]; exact (below_size ahx) : w.heap.size ≤ gb231)); clear HB; have HB := n0_; have BK231 := n1_; have GW231 := n2_; have GE231 := n3_; clear n0_ n1_ n2_ n3_; clear hb hbox hg)))
 go_loopg [5, 6] k (fun kq v5 v6 w' => ∃ (x5_1 : Int) (x6_1 : Int), v5 = .int .i64 x5_1 ∧ v6 = .int .i64 x6_1 ∧ Aside0 (bournelaw26_falls.l0 kq l1 x5_1 x6_1 a0_0 a0_1 a0_2 a0_3 l0_4 l0_5 a0_6 a0_7 a0_8 a0_9 a0_10 l0_11 = some r) ∧ Aside0 (kq ≤ k) ∧ Aside0 (w'.heap[gb231]? = some (.cells #[.string a0_0, .int .i64 a0_1, .int .i64 a0_2, .int .i64 a0_3, (.slice A0_4 l0_4.length c0_4), (.slice A0_5 l0_5.length c0_5), .int .i64 a0_6, .int .i64 a0_7, .int .i64 a0_8, .int .i64 a0_9, .int .i64 a0_10, (.slice A0_11 l0_11.length c0_11)] 47 (0, 0))) ∧ Aside0 (Below w.heap.size w w'))
 case atStart => exact ⟨(0), (0), (by first | rfl | (simp; done) | (simp [*]; done)), (by first | rfl | (simp; done) | (simp [*]; done)), H', ⟨Nat.le_refl _⟩, ⟨by (with_reducible repeat (first | refine blk_drewN ?_ _ | refine blk_drew ?_ | refine blk_alloc ?_ _)); exact BK231.out⟩, ⟨ahx⟩⟩
 case round =>
  clear H'; try clear c1
  try clear c2
  try clear p2
  obtain ⟨x5_1, x6_1, rfl, rfl, HA, HK1, BK231, HB⟩ := hrel
  cases gk with
  | zero => exact absurd HA.out (by simp [bournelaw26_falls.l0])
  | succ k1 =>
   have H := HA.out; clear HA; simp only [bournelaw26_falls.l0] at H
   by_cases c4 : x6_1 < (l0_11.length : Int)
   rotate_left
   ·rw [if_neg c4] at H
    have c4b0 : decide (x6_1 < (l0_11.length : Int)) = false := decide_eq_false c4
    clear c4; obtain ⟨ji19, hji19⟩ : ∃ j_ : Int, (mn x5_1 1125899906842624) = j_ := ⟨_, rfl⟩
    replace H : (some ji19) = some r := by first | (rw [hji19] at H; exact H) | (simp only [hji19] at H ⊢; exact H)
    have hji19_ : (if 1125899906842624 < x5_1 then 1125899906842624 else x5_1) = ji19 := hji19
    as_aux_lemma =>
     obtain rfl := Option.some.inj H
     have hcz20_0 : wr.cell? ⟨gb231, 0, none⟩ = some (.string a0_0) := (blk_cell BK231.out 0).trans rfl
     have hcz20_1 : wr.cell? ⟨gb231, 1, none⟩ = some (.int .i64 a0_1) := (blk_cell BK231.out 1).trans rfl
     have hcz20_2 : wr.cell? ⟨gb231, 2, none⟩ = some (.int .i64 a0_2) := (blk_cell BK231.out 2).trans rfl
     have hcz20_3 : wr.cell? ⟨gb231, 3, none⟩ = some (.int .i64 a0_3) := (blk_cell BK231.out 3).trans rfl
     have hcz20_4 : wr.cell? ⟨gb231, 4, none⟩ = some (.slice A0_4 l0_4.length c0_4) := (blk_cell BK231.out 4).trans rfl
     have hcz20_5 : wr.cell? ⟨gb231, 5, none⟩ = some (.slice A0_5 l0_5.length c0_5) := (blk_cell BK231.out 5).trans rfl
     have hcz20_6 : wr.cell? ⟨gb231, 6, none⟩ = some (.int .i64 a0_6) := (blk_cell BK231.out 6).trans rfl
     have hcz20_7 : wr.cell? ⟨gb231, 7, none⟩ = some (.int .i64 a0_7) := (blk_cell BK231.out 7).trans rfl
     have hcz20_8 : wr.cell? ⟨gb231, 8, none⟩ = some (.int .i64 a0_8) := (blk_cell BK231.out 8).trans rfl
     have hcz20_9 : wr.cell? ⟨gb231, 9, none⟩ = some (.int .i64 a0_9) := (blk_cell BK231.out 9).trans rfl
     have hcz20_10 : wr.cell? ⟨gb231, 10, none⟩ = some (.int .i64 a0_10) := (blk_cell BK231.out 10).trans rfl
     have hcz20_11 : wr.cell? ⟨gb231, 11, none⟩ = some (.slice A0_11 l0_11.length c0_11) := (blk_cell BK231.out 11).trans rfl
     have hfz20_0 := blk_frozen BK231.out 0
     have hfz20_1 := blk_frozen BK231.out 1
     have hfz20_2 := blk_frozen BK231.out 2
     have hfz20_3 := blk_frozen BK231.out 3
     have hfz20_4 := blk_frozen BK231.out 4
     have hfz20_5 := blk_frozen BK231.out 5
     have hfz20_6 := blk_frozen BK231.out 6
     have hfz20_7 := blk_frozen BK231.out 7
     have hfz20_8 := blk_frozen BK231.out 8
     have hfz20_9 := blk_frozen BK231.out 9
     have hfz20_10 := blk_frozen BK231.out 10
     have hfz20_11 := blk_frozen BK231.out 11
     go_wp2
     repeat (go_quiet (fail); try go_wp2)
     go_ret
     exact ⟨by first | rfl | (simp [errW_none, errW_some] <;> rfl) | (simp only [← hji19]; first | rfl | (simp [errW_none, errW_some] <;> rfl)) | (simp [*, errW_none, errW_some] <;> rfl), ahx⟩
   rw [if_pos c4] at H
   have c4b0 : decide (x6_1 < (l0_11.length : Int)) = true := decide_eq_true c4
   clear c4; have HC5 := Aside0.mk H
   clear H; have hcz6_0 : wr.cell? ⟨gb231, 0, none⟩ = some (.string a0_0) := (blk_cell BK231.out 0).trans rfl
   have hcz6_1 : wr.cell? ⟨gb231, 1, none⟩ = some (.int .i64 a0_1) := (blk_cell BK231.out 1).trans rfl
   have hcz6_2 : wr.cell? ⟨gb231, 2, none⟩ = some (.int .i64 a0_2) := (blk_cell BK231.out 2).trans rfl
   have hcz6_3 : wr.cell? ⟨gb231, 3, none⟩ = some (.int .i64 a0_3) := (blk_cell BK231.out 3).trans rfl
   have hcz6_4 : wr.cell? ⟨gb231, 4, none⟩ = some (.slice A0_4 l0_4.length c0_4) := (blk_cell BK231.out 4).trans rfl
   have hcz6_5 : wr.cell? ⟨gb231, 5, none⟩ = some (.slice A0_5 l0_5.length c0_5) := (blk_cell BK231.out 5).trans rfl
   have hcz6_6 : wr.cell? ⟨gb231, 6, none⟩ = some (.int .i64 a0_6) := (blk_cell BK231.out 6).trans rfl
   have hcz6_7 : wr.cell? ⟨gb231, 7, none⟩ = some (.int .i64 a0_7) := (blk_cell BK231.out 7).trans rfl
   have hcz6_8 : wr.cell? ⟨gb231, 8, none⟩ = some (.int .i64 a0_8) := (blk_cell BK231.out 8).trans rfl
   have hcz6_9 : wr.cell? ⟨gb231, 9, none⟩ = some (.int .i64 a0_9) := (blk_cell BK231.out 9).trans rfl
   have hcz6_10 : wr.cell? ⟨gb231, 10, none⟩ = some (.int .i64 a0_10) := (blk_cell BK231.out 10).trans rfl
   have hcz6_11 : wr.cell? ⟨gb231, 11, none⟩ = some (.slice A0_11 l0_11.length c0_11) := (blk_cell BK231.out 11).trans rfl
   have hfz6_0 := blk_frozen BK231.out 0
   have hfz6_1 := blk_frozen BK231.out 1
   have hfz6_2 := blk_frozen BK231.out 2
   have hfz6_3 := blk_frozen BK231.out 3
   have hfz6_4 := blk_frozen BK231.out 4
   have hfz6_5 := blk_frozen BK231.out 5
   have hfz6_6 := blk_frozen BK231.out 6
   have hfz6_7 := blk_frozen BK231.out 7
   have hfz6_8 := blk_frozen BK231.out 8
   have hfz6_9 := blk_frozen BK231.out 9
   have hfz6_10 := blk_frozen BK231.out 10
   have hfz6_11 := blk_frozen BK231.out 11
   go_upto_region 5 with (fail)
   repeat (go_quiet (fail); go_upto_region 5 with (fail))
   go_cut [31] (fun v31 wc => ∃ (kq : Nat) (x31_4 : Bool), v31 = .bool x31_4 ∧ Aside0 (bournelaw26_falls.j1 kq l1 x5_1 x6_1 x31_4 a0_0 a0_1 a0_2 a0_3 l0_4 l0_5 a0_6 a0_7 a0_8 a0_9 a0_10 l0_11 = some r) ∧ Aside0 (kq ≤ k1) ∧ Aside0 (wc.heap[gb231]? = some (.cells #[.string a0_0, .int .i64 a0_1, .int .i64 a0_2, .int .i64 a0_3, (.slice A0_4 l0_4.length c0_4), (.slice A0_5 l0_5.length c0_5), .int .i64 a0_6, .int .i64 a0_7, .int .i64 a0_8, .int .i64 a0_9, .int .i64 a0_10, (.slice A0_11 l0_11.length c0_11)] 47 (0, 0))) ∧ Aside0 (Below w.heap.size w wc))
   case first =>
    have H := HC5.out; clear HC5
    by_cases c7 : 0 ≤ x6_1
    ·rw [if_pos c7] at H
     have c7b0 : decide (0 ≤ x6_1) = true := decide_eq_true c7
     clear c7; (first | rw [c7b0] | (simp only [i64_w, i32_w]; rw [c7b0]) | skip)
     by_cases c8 : ((rd_T49 l0_11 x6_1).f0) ≥ 0
     rotate_left
     ·rw [if_neg c8] at H
      have c8b0 : decide (0 ≤ ((rd_T49 l0_11 x6_1).f0)) = false := decide_eq_false c8
      clear c8
      as_aux_lemma =>
       have H' := Aside0.mk H; clear H; have hcz10_0 : wr.cell? ⟨gb231, 0, none⟩ = some (.string a0_0) := (blk_cell BK231.out 0).trans rfl
       have hcz10_1 : wr.cell? ⟨gb231, 1, none⟩ = some (.int .i64 a0_1) := (blk_cell BK231.out 1).trans rfl
       have hcz10_2 : wr.cell? ⟨gb231, 2, none⟩ = some (.int .i64 a0_2) := (blk_cell BK231.out 2).trans rfl
       have hcz10_3 : wr.cell? ⟨gb231, 3, none⟩ = some (.int .i64 a0_3) := (blk_cell BK231.out 3).trans rfl
       have hcz10_4 : wr.cell? ⟨gb231, 4, none⟩ = some (.slice A0_4 l0_4.length c0_4) := (blk_cell BK231.out 4).trans rfl
       have hcz10_5 : wr.cell? ⟨gb231, 5, none⟩ = some (.slice A0_5 l0_5.length c0_5) := (blk_cell BK231.out 5).trans rfl
       have hcz10_6 : wr.cell? ⟨gb231, 6, none⟩ = some (.int .i64 a0_6) := (blk_cell BK231.out 6).trans rfl
       have hcz10_7 : wr.cell? ⟨gb231, 7, none⟩ = some (.int .i64 a0_7) := (blk_cell BK231.out 7).trans rfl
       have hcz10_8 : wr.cell? ⟨gb231, 8, none⟩ = some (.int .i64 a0_8) := (blk_cell BK231.out 8).trans rfl
       have hcz10_9 : wr.cell? ⟨gb231, 9, none⟩ = some (.int .i64 a0_9) := (blk_cell BK231.out 9).trans rfl
       have hcz10_10 : wr.cell? ⟨gb231, 10, none⟩ = some (.int .i64 a0_10) := (blk_cell BK231.out 10).trans rfl
       have hcz10_11 : wr.cell? ⟨gb231, 11, none⟩ = some (.slice A0_11 l0_11.length c0_11) := (blk_cell BK231.out 11).trans rfl
       have hfz10_0 := blk_frozen BK231.out 0
       have hfz10_1 := blk_frozen BK231.out 1
       have hfz10_2 := blk_frozen BK231.out 2
       have hfz10_3 := blk_frozen BK231.out 3
       have hfz10_4 := blk_frozen BK231.out 4
       have hfz10_5 := blk_frozen BK231.out 5
       have hfz10_6 := blk_frozen BK231.out 6
       have hfz10_7 := blk_frozen BK231.out 7
       have hfz10_8 := blk_frozen BK231.out 8
       have hfz10_9 := blk_frozen BK231.out 9
       have hfz10_10 := blk_frozen BK231.out 10
       have hfz10_11 := blk_frozen BK231.out 11
       have p232 : 0 ≤ (x6_1 : Int) := of_decide_eq_true (by first | (with_reducible assumption) | assumption)
       have q232 : x6_1 < (l0_11.length : Int) := of_decide_eq_true (by first | (with_reducible assumption) | assumption)
       obtain ⟨ad232, e232, hx232_0, hx232_1⟩ := at_T49 HR0_11.out x6_1 p232 q232
       cases e232
       replace hx232_0 := (HB.out.cell (World.block_lt_of_cell? w _ hx232_0)).trans hx232_0
       replace hx232_1 := (HB.out.cell (World.block_lt_of_cell? w _ hx232_1)).trans hx232_1
       replace p232 := eq_true p232
       replace q232 := eq_true q232
       go_wp2
       repeat (go_quiet (fail); try go_wp2)
       go_meet
       case rel => exact ⟨_, (false), (by first | rfl | (simp; done) | (simp [*]; done)), H', ⟨by have := HK1.out; first | omega | exact Nat.le_refl _⟩, ⟨by (with_reducible repeat (first | refine blk_drewN ?_ _ | refine blk_drew ?_ | refine blk_alloc ?_ _)); exact BK231.out⟩, ⟨ahx⟩⟩
     rw [if_pos c8] at H
     have c8b0 : decide (0 ≤ ((rd_T49 l0_11 x6_1).f0)) = true := decide_eq_true c8
     clear c8
     as_aux_lemma =>
      have H' := Aside0.mk H; clear H; have hcz9_0 : wr.cell? ⟨gb231, 0, none⟩ = some (.string a0_0) := (blk_cell BK231.out 0).trans rfl
      have hcz9_1 : wr.cell? ⟨gb231, 1, none⟩ = some (.int .i64 a0_1) := (blk_cell BK231.out 1).trans rfl
      have hcz9_2 : wr.cell? ⟨gb231, 2, none⟩ = some (.int .i64 a0_2) := (blk_cell BK231.out 2).trans rfl
      have hcz9_3 : wr.cell? ⟨gb231, 3, none⟩ = some (.int .i64 a0_3) := (blk_cell BK231.out 3).trans rfl
      have hcz9_4 : wr.cell? ⟨gb231, 4, none⟩ = some (.slice A0_4 l0_4.length c0_4) := (blk_cell BK231.out 4).trans rfl
      have hcz9_5 : wr.cell? ⟨gb231, 5, none⟩ = some (.slice A0_5 l0_5.length c0_5) := (blk_cell BK231.out 5).trans rfl
      have hcz9_6 : wr.cell? ⟨gb231, 6, none⟩ = some (.int .i64 a0_6) := (blk_cell BK231.out 6).trans rfl
      have hcz9_7 : wr.cell? ⟨gb231, 7, none⟩ = some (.int .i64 a0_7) := (blk_cell BK231.out 7).trans rfl
      have hcz9_8 : wr.cell? ⟨gb231, 8, none⟩ = some (.int .i64 a0_8) := (blk_cell BK231.out 8).trans rfl
      have hcz9_9 : wr.cell? ⟨gb231, 9, none⟩ = some (.int .i64 a0_9) := (blk_cell BK231.out 9).trans rfl
      have hcz9_10 : wr.cell? ⟨gb231, 10, none⟩ = some (.int .i64 a0_10) := (blk_cell BK231.out 10).trans rfl
      have hcz9_11 : wr.cell? ⟨gb231, 11, none⟩ = some (.slice A0_11 l0_11.length c0_11) := (blk_cell BK231.out 11).trans rfl
      have hfz9_0 := blk_frozen BK231.out 0
      have hfz9_1 := blk_frozen BK231.out 1
      have hfz9_2 := blk_frozen BK231.out 2
      have hfz9_3 := blk_frozen BK231.out 3
      have hfz9_4 := blk_frozen BK231.out 4
      have hfz9_5 := blk_frozen BK231.out 5
      have hfz9_6 := blk_frozen BK231.out 6
      have hfz9_7 := blk_frozen BK231.out 7
      have hfz9_8 := blk_frozen BK231.out 8
      have hfz9_9 := blk_frozen BK231.out 9
      have hfz9_10 := blk_frozen BK231.out 10
      have hfz9_11 := blk_frozen BK231.out 11
      have p232 : 0 ≤ (x6_1 : Int) := of_decide_eq_true (by first | (with_reducible assumption) | assumption)
      have q232 : x6_1 < (l0_11.length : Int) := of_decide_eq_true (by first | (with_reducible assumption) | assumption)
      obtain ⟨ad232, e232, hx232_0, hx232_1⟩ := at_T49 HR0_11.out x6_1 p232 q232
      cases e232
      replace hx232_0 := (HB.out.cell (World.block_lt_of_cell? w _ hx232_0)).trans hx232_0
      replace hx232_1 := (HB.out.cell (World.block_lt_of_cell? w _ hx232_1)).trans hx232_1
      replace p232 := eq_true p232
      replace q232 := eq_true q232
      have p233 : 0 ≤ (x6_1 : Int) := of_decide_eq_true (by first | (with_reducible assumption) | assumption)
      have q233 : x6_1 < (l0_11.length : Int) := of_decide_eq_true (by first | (with_reducible assumption) | assumption)
      obtain ⟨ad233, e233, hx233_0, hx233_1⟩ := at_T49 HR0_11.out x6_1 p233 q233
      obtain rfl : ad232 = ad233 := (by injection e233)
      replace hx233_0 := (HB.out.cell (World.block_lt_of_cell? w _ hx233_0)).trans hx233_0
      replace hx233_1 := (HB.out.cell (World.block_lt_of_cell? w _ hx233_1)).trans hx233_1
      replace p233 := eq_true p233
      replace q233 := eq_true q233
      go_wp2
      repeat (go_quiet (fail); try go_wp2)
      go_meet
      case rel => exact ⟨_, (decide (((rd_T49 l0_11 x6_1).f0) < (l1.length : Int))), (by first | rfl | (simp; done) | (simp [*]; done)), H', ⟨by have := HK1.out; first | omega | exact Nat.le_refl _⟩, ⟨by (with_reducible repeat (first | refine blk_drewN ?_ _ | refine blk_drew ?_ | refine blk_alloc ?_ _)); exact BK231.out⟩, ⟨ahx⟩⟩
    ·rw [if_neg c7] at H
     exact absurd H (by simp)
   case rest =>
    clear HC5; try clear c1
    try clear c2
    try clear p2
    try clear q2
    try clear hx2
    try clear c4
    try clear c4b0
    try clear c7
    try clear c7b0
    try clear c8
    try clear c8b0
    try clear hcz10_0
    try clear hcz10_1
    try clear hcz10_10
    try clear hcz10_11
    try clear hcz10_2
    try clear hcz10_3
    try clear hcz10_4
    try clear hcz10_5
    try clear hcz10_6
    try clear hcz10_7
    try clear hcz10_8
    try clear hcz10_9
    try clear hcz6_0
    try clear hcz6_1
    try clear hcz6_10
    try clear hcz6_11
    try clear hcz6_2
    try clear hcz6_3
    try clear hcz6_4
    try clear hcz6_5
    try clear hcz6_6
    try clear hcz6_7
    try clear hcz6_8
    try clear hcz6_9
    try clear hcz9_0
    try clear hcz9_1
    try clear hcz9_10
    try clear hcz9_11
    try clear hcz9_2
    try clear hcz9_3
    try clear hcz9_4
    try clear hcz9_5
    try clear hcz9_6
    try clear hcz9_7
    try clear hcz9_8
    try clear hcz9_9
    try clear hfz10_0
    try clear hfz10_1
    try clear hfz10_10
    try clear hfz10_11
    try clear hfz10_2
    try clear hfz10_3
    try clear hfz10_4
    try clear hfz10_5
    try clear hfz10_6
    try clear hfz10_7
    try clear hfz10_8
    try clear hfz10_9
    try clear hfz6_0
    try clear hfz6_1
    try clear hfz6_10
    try clear hfz6_11
    try clear hfz6_2
    try clear hfz6_3
    try clear hfz6_4
    try clear hfz6_5
    try clear hfz6_6
    try clear hfz6_7
    try clear hfz6_8
    try clear hfz6_9
    try clear hfz9_0
    try clear hfz9_1
    try clear hfz9_10
    try clear hfz9_11
    try clear hfz9_2
    try clear hfz9_3
    try clear hfz9_4
    try clear hfz9_5
    try clear hfz9_6
    try clear hfz9_7
    try clear hfz9_8
    try clear hfz9_9
    try clear hx232_0
    try clear hx232_1
    try clear hx233_0
    try clear hx233_1
    try clear p2
    try clear p232
    try clear p233
    try clear q232
    try clear q233
    obtain ⟨kq, x31_4, rfl, HA, HJ4, BK231, HB⟩ := hcut
    cases kq with
    | zero => exact absurd HA.out (by simp [bournelaw26_falls.j1])
    | succ kj4 =>
     have H := HA.out; clear HA; simp only [bournelaw26_falls.j1] at H
     by_cases c11 : x31_4 = true
     rotate_left
     ·replace c11 := Bool.eq_false_iff.mpr c11
      subst c11; have H1 : (bournelaw26_falls.l0 kj4 l1 x5_1 (wrap64 (x6_1 + 1)) a0_0 a0_1 a0_2 a0_3 l0_4 l0_5 a0_6 a0_7 a0_8 a0_9 a0_10 l0_11) = some r := by rw [if_neg (show ¬ (false = true) by decide)] at H; exact H
      clear H; have H := H1; clear H1
      as_aux_lemma =>
       have H' := Aside0.mk H; clear H; go_wp2
       repeat (go_quiet (fail); try go_wp2)
       go_roundg kj4
       case measure => have := HK1.out; have := HJ4.out; omega
       case rel => exact ⟨(x5_1), (wrap64 (x6_1 + 1)), (by first | rfl | (simp; done) | (simp [*]; done)), (by first | rfl | (simp; done) | (simp [*]; done)), H', ⟨by have := HK1.out; have := HJ4.out; omega⟩, ⟨by (with_reducible repeat (first | refine blk_drewN ?_ _ | refine blk_drew ?_ | refine blk_alloc ?_ _)); exact BK231.out⟩, ⟨ahx⟩⟩
     subst c11; have H1 : (if 0 ≤ x6_1 then (if x6_1 < (l0_11.length : Int) then (if 0 ≤ ((rd_T49 l0_11 x6_1).f0) then (if ((rd_T49 l0_11 x6_1).f0) < (l1.length : Int) then ((bourneref26_Litres.f kj4 (rd l1 ((rd_T49 l0_11 x6_1).f0)) ((rd_T49 l0_11 x6_1).f1)).bind fun t237 => ((exact_Add.f x5_1 t237).bind fun t238 => (bournelaw26_falls.l0 kj4 l1 t238 (wrap64 (x6_1 + 1)) a0_0 a0_1 a0_2 a0_3 l0_4 l0_5 a0_6 a0_7 a0_8 a0_9 a0_10 l0_11))) else (none)) else (none)) else (none)) else (none)) = some r := by rw [if_pos rfl] at H; exact H
     clear H; have H := H1; clear H1
     by_cases c12 : 0 ≤ x6_1
     rotate_left
     ·rw [if_neg c12] at H
      exact absurd H (by simp)
     rw [if_pos c12] at H
     have c12b0 : decide (0 ≤ x6_1) = true := decide_eq_true c12
     clear c12
     by_cases c13 : x6_1 < (l0_11.length : Int)
     rotate_left
     ·rw [if_neg c13] at H
      exact absurd H (by simp)
     rw [if_pos c13] at H
     have c13b0 : decide (x6_1 < (l0_11.length : Int)) = true := decide_eq_true c13
     clear c13
     by_cases c14 : 0 ≤ ((rd_T49 l0_11 x6_1).f0)
     rotate_left
     ·rw [if_neg c14] at H
      exact absurd H (by simp)
     rw [if_pos c14] at H
     have c14b0 : decide (0 ≤ ((rd_T49 l0_11 x6_1).f0)) = true := decide_eq_true c14
     clear c14
     by_cases c15 : ((rd_T49 l0_11 x6_1).f0) < (l1.length : Int)
     rotate_left
     ·rw [if_neg c15] at H
      exact absurd H (by simp)
     rw [if_pos c15] at H
     have c15b0 : decide (((rd_T49 l0_11 x6_1).f0) < (l1.length : Int)) = true := decide_eq_true c15
     clear c15; replace H := Option.bind_eq_some_iff.mp H; obtain ⟨t237, A160, H⟩ := H; replace H : ((exact_Add.f x5_1 t237).bind fun t238 => (bournelaw26_falls.l0 kj4 l1 t238 (wrap64 (x6_1 + 1)) a0_0 a0_1 a0_2 a0_3 l0_4 l0_5 a0_6 a0_7 a0_8 a0_9 a0_10 l0_11)) = some r := H
     have A16 := Aside0.mk A160
     clear A160; replace H := Option.bind_eq_some_iff.mp H; obtain ⟨t238, A170, H⟩ := H; replace H : (bournelaw26_falls.l0 kj4 l1 t238 (wrap64 (x6_1 + 1)) a0_0 a0_1 a0_2 a0_3 l0_4 l0_5 a0_6 a0_7 a0_8 a0_9 a0_10 l0_11) = some r := H
     have A17 := Aside0.mk A170
     clear A170
     as_aux_lemma =>
      have H' := Aside0.mk H; clear H; have hcz18_0 : wc.cell? ⟨gb231, 0, none⟩ = some (.string a0_0) := (blk_cell BK231.out 0).trans rfl
      have hcz18_1 : wc.cell? ⟨gb231, 1, none⟩ = some (.int .i64 a0_1) := (blk_cell BK231.out 1).trans rfl
      have hcz18_2 : wc.cell? ⟨gb231, 2, none⟩ = some (.int .i64 a0_2) := (blk_cell BK231.out 2).trans rfl
      have hcz18_3 : wc.cell? ⟨gb231, 3, none⟩ = some (.int .i64 a0_3) := (blk_cell BK231.out 3).trans rfl
      have hcz18_4 : wc.cell? ⟨gb231, 4, none⟩ = some (.slice A0_4 l0_4.length c0_4) := (blk_cell BK231.out 4).trans rfl
      have hcz18_5 : wc.cell? ⟨gb231, 5, none⟩ = some (.slice A0_5 l0_5.length c0_5) := (blk_cell BK231.out 5).trans rfl
      have hcz18_6 : wc.cell? ⟨gb231, 6, none⟩ = some (.int .i64 a0_6) := (blk_cell BK231.out 6).trans rfl
      have hcz18_7 : wc.cell? ⟨gb231, 7, none⟩ = some (.int .i64 a0_7) := (blk_cell BK231.out 7).trans rfl
      have hcz18_8 : wc.cell? ⟨gb231, 8, none⟩ = some (.int .i64 a0_8) := (blk_cell BK231.out 8).trans rfl
      have hcz18_9 : wc.cell? ⟨gb231, 9, none⟩ = some (.int .i64 a0_9) := (blk_cell BK231.out 9).trans rfl
      have hcz18_10 : wc.cell? ⟨gb231, 10, none⟩ = some (.int .i64 a0_10) := (blk_cell BK231.out 10).trans rfl
      have hcz18_11 : wc.cell? ⟨gb231, 11, none⟩ = some (.slice A0_11 l0_11.length c0_11) := (blk_cell BK231.out 11).trans rfl
      have hfz18_0 := blk_frozen BK231.out 0
      have hfz18_1 := blk_frozen BK231.out 1
      have hfz18_2 := blk_frozen BK231.out 2
      have hfz18_3 := blk_frozen BK231.out 3
      have hfz18_4 := blk_frozen BK231.out 4
      have hfz18_5 := blk_frozen BK231.out 5
      have hfz18_6 := blk_frozen BK231.out 6
      have hfz18_7 := blk_frozen BK231.out 7
      have hfz18_8 := blk_frozen BK231.out 8
      have hfz18_9 := blk_frozen BK231.out 9
      have hfz18_10 := blk_frozen BK231.out 10
      have hfz18_11 := blk_frozen BK231.out 11
      have p234 : 0 ≤ (x6_1 : Int) := of_decide_eq_true (by first | (with_reducible assumption) | assumption)
      have q234 : x6_1 < (l0_11.length : Int) := of_decide_eq_true (by first | (with_reducible assumption) | assumption)
      obtain ⟨ad234, e234, hx234_0, hx234_1⟩ := at_T49 HR0_11.out x6_1 p234 q234
      cases e234
      replace hx234_0 := (HB.out.cell (World.block_lt_of_cell? w _ hx234_0)).trans hx234_0
      replace hx234_1 := (HB.out.cell (World.block_lt_of_cell? w _ hx234_1)).trans hx234_1
      replace p234 := eq_true p234
      replace q234 := eq_true q234
      have p235 : 0 ≤ (((rd_T49 l0_11 x6_1).f0) : Int) := of_decide_eq_true (by first | (with_reducible assumption) | assumption)
      have q235 : ((rd_T49 l0_11 x6_1).f0) < (l1.length : Int) := of_decide_eq_true (by first | (with_reducible assumption) | assumption)
      obtain ⟨ad235, e235, hx235_0⟩ := Kd.at_int HR1.out ((rd_T49 l0_11 x6_1).f0) p235 q235
      cases e235
      replace hx235_0 := (HB.out.cell (World.block_lt_of_cell? w _ hx235_0)).trans hx235_0
      replace p235 := eq_true p235
      replace q235 := eq_true q235
      have p236 : 0 ≤ (x6_1 : Int) := of_decide_eq_true (by first | (with_reducible assumption) | assumption)
      have q236 : x6_1 < (l0_11.length : Int) := of_decide_eq_true (by first | (with_reducible assumption) | assumption)
      obtain ⟨ad236, e236, hx236_0, hx236_1⟩ := at_T49 HR0_11.out x6_1 p236 q236
      obtain rfl : ad234 = ad236 := (by injection e236)
      replace hx236_0 := (HB.out.cell (World.block_lt_of_cell? w _ hx236_0)).trans hx236_0
      replace hx236_1 := (HB.out.cell (World.block_lt_of_cell? w _ hx236_1)).trans hx236_1
      replace p236 := eq_true p236
      replace q236 := eq_true q236
      go_wp2_with (first | (go_at_call 36; (with_reducible refine (bourneref26_Litres.calls kj4 (rd l1 ((rd_T49 l0_11 x6_1).f0)) ((rd_T49 l0_11 x6_1).f1) t237 _ A16.out).mono ?_); rintro e w' ⟨rfl, ⟨nd, rfl⟩⟩; (try first | exact ⟨rfl, _, World.drewN_drewN _ _ _⟩ | exact ⟨rfl, _, Eq.trans (World.drewN_drewN _ _ _) (congrArg (World.drewN _) (Nat.add_assoc _ _ _))⟩)) | (go_at_call 24; (with_reducible refine (exact_Add.calls x5_1 t237 t238 _ A17.out).mono ?_); rintro e w' ⟨rfl, ⟨nd, rfl⟩⟩; (try first | exact ⟨rfl, _, World.drewN_drewN _ _ _⟩ | exact ⟨rfl, _, Eq.trans (World.drewN_drewN _ _ _) (congrArg (World.drewN _) (Nat.add_assoc _ _ _))⟩)))
      repeat (go_quiet (first | (go_at_call 36; exact Calls.quiet_of ((bourneref26_Litres.calls kj4 (rd l1 ((rd_T49 l0_11 x6_1).f0)) ((rd_T49 l0_11 x6_1).f1) t237 _ A16.out).mono fun e w' h => ⟨h.1, h.2.out⟩)) | (go_at_call 36; (with_reducible refine (bourneref26_Litres.calls kj4 (rd l1 ((rd_T49 l0_11 x6_1).f0)) ((rd_T49 l0_11 x6_1).f1) t237 _ A16.out).mono ?_); rintro e w' ⟨rfl, ⟨nd, rfl⟩⟩; (try first | exact ⟨rfl, _, World.drewN_drewN _ _ _⟩ | exact ⟨rfl, _, Eq.trans (World.drewN_drewN _ _ _) (congrArg (World.drewN _) (Nat.add_assoc _ _ _))⟩)) | (go_at_call 24; exact Calls.quiet_of ((exact_Add.calls x5_1 t237 t238 _ A17.out).mono fun e w' h => ⟨h.1, h.2.out⟩)) | (go_at_call 24; (with_reducible refine (exact_Add.calls x5_1 t237 t238 _ A17.out).mono ?_); rintro e w' ⟨rfl, ⟨nd, rfl⟩⟩; (try first | exact ⟨rfl, _, World.drewN_drewN _ _ _⟩ | exact ⟨rfl, _, Eq.trans (World.drewN_drewN _ _ _) (congrArg (World.drewN _) (Nat.add_assoc _ _ _))⟩))); try go_wp2_with (first | (go_at_call 36; (with_reducible refine (bourneref26_Litres.calls kj4 (rd l1 ((rd_T49 l0_11 x6_1).f0)) ((rd_T49 l0_11 x6_1).f1) t237 _ A16.out).mono ?_); rintro e w' ⟨rfl, ⟨nd, rfl⟩⟩; (try first | exact ⟨rfl, _, World.drewN_drewN _ _ _⟩ | exact ⟨rfl, _, Eq.trans (World.drewN_drewN _ _ _) (congrArg (World.drewN _) (Nat.add_assoc _ _ _))⟩)) | (go_at_call 24; (with_reducible refine (exact_Add.calls x5_1 t237 t238 _ A17.out).mono ?_); rintro e w' ⟨rfl, ⟨nd, rfl⟩⟩; (try first | exact ⟨rfl, _, World.drewN_drewN _ _ _⟩ | exact ⟨rfl, _, Eq.trans (World.drewN_drewN _ _ _) (congrArg (World.drewN _) (Nat.add_assoc _ _ _))⟩))))
      go_roundg kj4
      case measure => have := HK1.out; have := HJ4.out; omega
      case rel => exact ⟨(t238), (wrap64 (x6_1 + 1)), (by first | rfl | (simp; done) | (simp [*]; done)), (by first | rfl | (simp; done) | (simp [*]; done)), H', ⟨by have := HK1.out; have := HJ4.out; omega⟩, ⟨by (with_reducible repeat (first | refine blk_drewN ?_ _ | refine blk_drew ?_ | refine blk_alloc ?_ _)); exact BK231.out⟩, ⟨ahx⟩⟩

end Go.Proofs.Ytcdlielgifkemaa.C
