-- Written by a program of this session (wip/tools/pp.py) out of the translation; Lean checks it.
import Derived.Test.YtcdlielgifkemaaCx0
import Derived.Test.YtcdlielgifkemaaCx5
import Derived.Test.YtcdlielgifkemaaCx6
namespace Go.Proofs.Ytcdlielgifkemaa.C
open Go.RowKit Go.Proofs.YtcdlielgifkemaaW.PrintWords Go.Proofs.YtcdlielgifkemaaW.PrintLast Go.Proofs.YtcdlielgifkemaaW.PrintMore
open Go.Proofs.Ytcdlielgifkemaa.S
attribute [local go_sem] max2_int min2_int max_two min_two max_three min_three max_four min_four   -- for this text's walks alone
open Bool renaming true → Z, false → O
set_option linter.unusedVariables false
set_option linter.unusedSimpArgs false

/-! ### bourneref26_Cells: function 19 -/
def bourneref26_Cells.l0 : Nat → List Int → Int → List (S63) → List (S26) → Int → ByteArray → List ByteArray → Int → List (S47) → List (S104) → List (S106) → List (S67) → List (S108) → List (S110) → List Int → Int → Option ((List (S26)))
 | 0, _, _, _, _, _, _, _, _, _, _, _, _, _, _, _, _ => none
 | k + 1, x1, x2, x3, x9, x10, x202000, x202001, x202002, x202003, x202004, x202005, x202006, x202007, x202008, x202009, x202010 => if x10 < x202002 then (if x10 < 64 then ((bourneref26_Cell.f k x202000 x202001 x202002 x202003 x202004 x202005 x202006 x202007 x202008 x202009 x202010 x1 x2 x3 x10).bind fun bt202 => (if x9.length < 8796093022208 then (bourneref26_Cells.l0 k x1 x2 x3 (x9 ++ [(⟨bt202.1, bt202.2⟩ : S26)]) (wrap64 (x10 + 1)) x202000 x202001 x202002 x202003 x202004 x202005 x202006 x202007 x202008 x202009 x202010) else (none))) else (some x9)) else (some x9)
def bourneref26_Cells.f (k : Nat) (a0_0 : ByteArray) (l0_1 : List ByteArray) (a0_2 : Int) (l0_3 : List (S47)) (l0_4 : List (S104)) (l0_5 : List (S106)) (l0_6 : List (S67)) (l0_7 : List (S108)) (l0_8 : List (S110)) (l0_9 : List Int) (a0_10 : Int) (l1 : List Int) (a2 : Int) (l3 : List (S63)) : Option ((List (S26))) := bourneref26_Cells.l0 k l1 a2 l3 ([] : List (S26)) 0 a0_0 l0_1 a0_2 l0_3 l0_4 l0_5 l0_6 l0_7 l0_8 l0_9 a0_10
set_option maxHeartbeats 8000000 in
set_option maxRecDepth 100000 in
theorem bourneref26_Cells.calls (k : Nat) (a0_0 : ByteArray) (A0_1 : Option Addr) (c0_1 : Nat) (l0_1 : List ByteArray) (a0_2 : Int) (A0_3 : Option Addr) (c0_3 : Nat) (l0_3 : List (S47)) (A0_4 : Option Addr) (c0_4 : Nat) (l0_4 : List (S104)) (A0_5 : Option Addr) (c0_5 : Nat) (l0_5 : List (S106)) (A0_6 : Option Addr) (c0_6 : Nat) (l0_6 : List (S67)) (A0_7 : Option Addr) (c0_7 : Nat) (l0_7 : List (S108)) (A0_8 : Option Addr) (c0_8 : Nat) (l0_8 : List (S110)) (A0_9 : Option Addr) (c0_9 : Nat) (l0_9 : List Int) (a0_10 : Int) (A1 : Option Addr) (c1 : Nat) (l1 : List Int) (a2 : Int) (A3 : Option Addr) (c3 : Nat) (l3 : List (S63)) (r : List (S26)) (w : World) (hr0_1 : Kd.C Kd.string w A0_1 l0_1.length l0_1) (hc0_1 : l0_1.length ≤ c0_1) (hr0_3 : Kd.C k47 w A0_3 l0_3.length l0_3) (hc0_3 : l0_3.length ≤ c0_3) (hr0_4 : Kd.C k104 w A0_4 l0_4.length l0_4) (hc0_4 : l0_4.length ≤ c0_4) (hr0_5 : Kd.C k106 w A0_5 l0_5.length l0_5) (hc0_5 : l0_5.length ≤ c0_5) (hr0_6 : Kd.C k67 w A0_6 l0_6.length l0_6) (hc0_6 : l0_6.length ≤ c0_6) (hr0_7 : Kd.C k108 w A0_7 l0_7.length l0_7) (hc0_7 : l0_7.length ≤ c0_7) (hr0_8 : Kd.C k110 w A0_8 l0_8.length l0_8) (hc0_8 : l0_8.length ≤ c0_8) (hr0_9 : Kd.C (Kd.int .i64) w A0_9 l0_9.length l0_9) (hc0_9 : l0_9.length ≤ c0_9) (hr1 : Kd.C (Kd.int .i64) w A1 l1.length l1) (hc1 : l1.length ≤ c1) (hr3 : Kd.C k63 w A3 l3.length l3) (hc3 : l3.length ≤ c3) (h : bourneref26_Cells.f k a0_0 l0_1 a0_2 l0_3 l0_4 l0_5 l0_6 l0_7 l0_8 l0_9 a0_10 l1 a2 l3 = some r) :
  Calls Try.prog 19 #[.agg #[.string a0_0, .slice A0_1 l0_1.length c0_1, .int .i64 a0_2, .slice A0_3 l0_3.length c0_3, .slice A0_4 l0_4.length c0_4, .slice A0_5 l0_5.length c0_5, .slice A0_6 l0_6.length c0_6, .slice A0_7 l0_7.length c0_7, .slice A0_8 l0_8.length c0_8, .slice A0_9 l0_9.length c0_9, .int .i64 a0_10], .slice A1 l1.length c1, .int .i64 a2, .slice A3 l3.length c3] w fun e w' => ∃ v0_ : Value, e = .returned (v0_) ∧ Kd.R k26 26 w' w.heap.size (fun _ => True) v0_ r ∧ Below w.heap.size w w' := by
 have hu41 := Try.underlying41; have HR0_1 := Aside0.mk hr0_1
 have HC0_1 := Aside0.mk hc0_1
 clear hr0_1 hc0_1; have HR0_3 := Aside0.mk hr0_3
 have HC0_3 := Aside0.mk hc0_3
 clear hr0_3 hc0_3; have HR0_4 := Aside0.mk hr0_4
 have HC0_4 := Aside0.mk hc0_4
 clear hr0_4 hc0_4; have HR0_5 := Aside0.mk hr0_5
 have HC0_5 := Aside0.mk hc0_5
 clear hr0_5 hc0_5; have HR0_6 := Aside0.mk hr0_6
 have HC0_6 := Aside0.mk hc0_6
 clear hr0_6 hc0_6; have HR0_7 := Aside0.mk hr0_7
 have HC0_7 := Aside0.mk hc0_7
 clear hr0_7 hc0_7; have HR0_8 := Aside0.mk hr0_8
 have HC0_8 := Aside0.mk hc0_8
 clear hr0_8 hc0_8; have HR0_9 := Aside0.mk hr0_9
 have HC0_9 := Aside0.mk hc0_9
 clear hr0_9 hc0_9; have HR1 := Aside0.mk hr1
 have HC1 := Aside0.mk hc1
 clear hr1 hc1; have HR3 := Aside0.mk hr3
 have HC3 := Aside0.mk hc3
 clear hr3 hc3; have HB := Aside0.mk (Below.refl w.heap.size w)
 have H : (bourneref26_Cells.l0 k l1 a2 l3 ([] : List (S26)) 0 a0_0 l0_1 a0_2 l0_3 l0_4 l0_5 l0_6 l0_7 l0_8 l0_9 a0_10) = some r := h
 clear h; have H' := Aside0.mk H; clear H; go_enter Try.func19, Try.ntmps19
 go_wp2_with (first | ((with_reducible refine gate_dst (N := 4) rfl ?_); refine box_event ?hg (N := 4) ?hd (cs := #[.string a0_0, .slice A0_1 l0_1.length c0_1, .int .i64 a0_2, .slice A0_3 l0_3.length c0_3, .slice A0_4 l0_4.length c0_4, .slice A0_5 l0_5.length c0_5, .slice A0_6 l0_6.length c0_6, .slice A0_7 l0_7.length c0_7, .slice A0_8 l0_8.length c0_8, .slice A0_9 l0_9.length c0_9, .int .i64 a0_10]) (t := 41) ?hr ?_; (case hd => rfl); (case hg => rfl); (case hr => first | (go_simp; done) | (go_simp; rfl)); intro gb201 hg w5 hbox hb; have n0_ := Aside0.mk (below_step ahx hb); have n1_ := Aside0.mk (hbox); have n2_ := Aside0.mk ((by rw [hg]; exact (below_size ahx) : w.heap.size ≤ gb201)); have n3_ := Aside0.mk ((by rw [hg]; exact (below_size ahx) : w.heap.size ≤ gb201)); clear HB; have HB := n0_; have BK201 := n1_; have GW201 := n2_; have GE201 := n3_; clear n0_ n1_ n2_ n3_; clear hb hbox hg))
 go_loopg [9, 10] k (fun kq v9 v10 w' => ∃ (x9_1 : List (S26)) (x10_1 : Int), v10 = .int .i64 x10_1 ∧ Aside0 (bourneref26_Cells.l0 kq l1 a2 l3 x9_1 x10_1 a0_0 l0_1 a0_2 l0_3 l0_4 l0_5 l0_6 l0_7 l0_8 l0_9 a0_10 = some r) ∧ Aside0 (kq ≤ k) ∧ Aside0 (Kd.R k26 26 w' w.heap.size (fun _ => True) v9 x9_1) ∧ Aside0 (w'.heap[gb201]? = some (.cells #[.string a0_0, (.slice A0_1 l0_1.length c0_1), .int .i64 a0_2, (.slice A0_3 l0_3.length c0_3), (.slice A0_4 l0_4.length c0_4), (.slice A0_5 l0_5.length c0_5), (.slice A0_6 l0_6.length c0_6), (.slice A0_7 l0_7.length c0_7), (.slice A0_8 l0_8.length c0_8), (.slice A0_9 l0_9.length c0_9), .int .i64 a0_10] 41 (0, 0))) ∧ Aside0 (Below w.heap.size w w'))
 case atStart => exact ⟨(([] : List (S26))), (0), (by first | rfl | (simp; done) | (simp [*]; done)), H', ⟨Nat.le_refl _⟩, ⟨by first | exact Kd.R_nil _ _ _ _ _ | exact Kd.N_nil _ _ _ _ _ | exact Kd.V_nil _ _ _ _ _ | exact Kd.Q_nil _ _ _ _ _ | exact Kd.S_nil _ _ _ _ _⟩, ⟨by (with_reducible repeat (first | refine blk_drewN ?_ _ | refine blk_drew ?_ | refine blk_alloc ?_ _)); exact BK201.out⟩, ⟨ahx⟩⟩
 case round =>
  clear H'; try clear c1
  try clear p2
  try clear c3
  obtain ⟨x9_1, x10_1, rfl, HA, HK1, HO_9, BK201, HB⟩ := hrel
  cases gk with
  | zero => exact absurd HA.out (by simp [bourneref26_Cells.l0])
  | succ k1 =>
   have H := HA.out; clear HA; simp only [bourneref26_Cells.l0] at H
   by_cases c6 : x10_1 < a0_2
   rotate_left
   ·rw [if_neg c6] at H
    have c6b0 : decide (x10_1 < a0_2) = false := decide_eq_false c6
    clear c6
    as_aux_lemma =>
     obtain rfl := Option.some.inj H
     have hcz14_0 : wr.cell? ⟨gb201, 0, none⟩ = some (.string a0_0) := (blk_cell BK201.out 0).trans rfl
     have hcz14_1 : wr.cell? ⟨gb201, 1, none⟩ = some (.slice A0_1 l0_1.length c0_1) := (blk_cell BK201.out 1).trans rfl
     have hcz14_2 : wr.cell? ⟨gb201, 2, none⟩ = some (.int .i64 a0_2) := (blk_cell BK201.out 2).trans rfl
     have hcz14_3 : wr.cell? ⟨gb201, 3, none⟩ = some (.slice A0_3 l0_3.length c0_3) := (blk_cell BK201.out 3).trans rfl
     have hcz14_4 : wr.cell? ⟨gb201, 4, none⟩ = some (.slice A0_4 l0_4.length c0_4) := (blk_cell BK201.out 4).trans rfl
     have hcz14_5 : wr.cell? ⟨gb201, 5, none⟩ = some (.slice A0_5 l0_5.length c0_5) := (blk_cell BK201.out 5).trans rfl
     have hcz14_6 : wr.cell? ⟨gb201, 6, none⟩ = some (.slice A0_6 l0_6.length c0_6) := (blk_cell BK201.out 6).trans rfl
     have hcz14_7 : wr.cell? ⟨gb201, 7, none⟩ = some (.slice A0_7 l0_7.length c0_7) := (blk_cell BK201.out 7).trans rfl
     have hcz14_8 : wr.cell? ⟨gb201, 8, none⟩ = some (.slice A0_8 l0_8.length c0_8) := (blk_cell BK201.out 8).trans rfl
     have hcz14_9 : wr.cell? ⟨gb201, 9, none⟩ = some (.slice A0_9 l0_9.length c0_9) := (blk_cell BK201.out 9).trans rfl
     have hcz14_10 : wr.cell? ⟨gb201, 10, none⟩ = some (.int .i64 a0_10) := (blk_cell BK201.out 10).trans rfl
     have hfz14_0 := blk_frozen BK201.out 0
     have hfz14_1 := blk_frozen BK201.out 1
     have hfz14_2 := blk_frozen BK201.out 2
     have hfz14_3 := blk_frozen BK201.out 3
     have hfz14_4 := blk_frozen BK201.out 4
     have hfz14_5 := blk_frozen BK201.out 5
     have hfz14_6 := blk_frozen BK201.out 6
     have hfz14_7 := blk_frozen BK201.out 7
     have hfz14_8 := blk_frozen BK201.out 8
     have hfz14_9 := blk_frozen BK201.out 9
     have hfz14_10 := blk_frozen BK201.out 10
     go_wp2
     go_ret
     exact ⟨_, by first | rfl | (simp [errW_none, errW_some] <;> rfl) | (simp [*, errW_none, errW_some] <;> rfl), by (with_reducible repeat (first | apply Kd.R_alloc | apply Kd.R_drewN | apply Kd.R_drew)); exact HO_9.out, ahx⟩
   rw [if_pos c6] at H
   have c6b0 : decide (x10_1 < a0_2) = true := decide_eq_true c6
   clear c6
   by_cases c7 : x10_1 < 64
   rotate_left
   ·rw [if_neg c7] at H
    have c7b0 : decide (x10_1 < 64) = false := decide_eq_false c7
    clear c7
    as_aux_lemma =>
     obtain rfl := Option.some.inj H
     have hcz13_0 : wr.cell? ⟨gb201, 0, none⟩ = some (.string a0_0) := (blk_cell BK201.out 0).trans rfl
     have hcz13_1 : wr.cell? ⟨gb201, 1, none⟩ = some (.slice A0_1 l0_1.length c0_1) := (blk_cell BK201.out 1).trans rfl
     have hcz13_2 : wr.cell? ⟨gb201, 2, none⟩ = some (.int .i64 a0_2) := (blk_cell BK201.out 2).trans rfl
     have hcz13_3 : wr.cell? ⟨gb201, 3, none⟩ = some (.slice A0_3 l0_3.length c0_3) := (blk_cell BK201.out 3).trans rfl
     have hcz13_4 : wr.cell? ⟨gb201, 4, none⟩ = some (.slice A0_4 l0_4.length c0_4) := (blk_cell BK201.out 4).trans rfl
     have hcz13_5 : wr.cell? ⟨gb201, 5, none⟩ = some (.slice A0_5 l0_5.length c0_5) := (blk_cell BK201.out 5).trans rfl
     have hcz13_6 : wr.cell? ⟨gb201, 6, none⟩ = some (.slice A0_6 l0_6.length c0_6) := (blk_cell BK201.out 6).trans rfl
     have hcz13_7 : wr.cell? ⟨gb201, 7, none⟩ = some (.slice A0_7 l0_7.length c0_7) := (blk_cell BK201.out 7).trans rfl
     have hcz13_8 : wr.cell? ⟨gb201, 8, none⟩ = some (.slice A0_8 l0_8.length c0_8) := (blk_cell BK201.out 8).trans rfl
     have hcz13_9 : wr.cell? ⟨gb201, 9, none⟩ = some (.slice A0_9 l0_9.length c0_9) := (blk_cell BK201.out 9).trans rfl
     have hcz13_10 : wr.cell? ⟨gb201, 10, none⟩ = some (.int .i64 a0_10) := (blk_cell BK201.out 10).trans rfl
     have hfz13_0 := blk_frozen BK201.out 0
     have hfz13_1 := blk_frozen BK201.out 1
     have hfz13_2 := blk_frozen BK201.out 2
     have hfz13_3 := blk_frozen BK201.out 3
     have hfz13_4 := blk_frozen BK201.out 4
     have hfz13_5 := blk_frozen BK201.out 5
     have hfz13_6 := blk_frozen BK201.out 6
     have hfz13_7 := blk_frozen BK201.out 7
     have hfz13_8 := blk_frozen BK201.out 8
     have hfz13_9 := blk_frozen BK201.out 9
     have hfz13_10 := blk_frozen BK201.out 10
     go_wp2
     go_ret
     exact ⟨_, by first | rfl | (simp [errW_none, errW_some] <;> rfl) | (simp [*, errW_none, errW_some] <;> rfl), by (with_reducible repeat (first | apply Kd.R_alloc | apply Kd.R_drewN | apply Kd.R_drew)); exact HO_9.out, ahx⟩
   rw [if_pos c7] at H
   have c7b0 : decide (x10_1 < 64) = true := decide_eq_true c7
   clear c7; replace H := Option.bind_eq_some_iff.mp H; obtain ⟨⟨t202, t203⟩, A80, H⟩ := H
   replace H : (if x9_1.length < 8796093022208 then (bourneref26_Cells.l0 k1 l1 a2 l3 (x9_1 ++ [(⟨t202, t203⟩ : S26)]) (wrap64 (x10_1 + 1)) a0_0 l0_1 a0_2 l0_3 l0_4 l0_5 l0_6 l0_7 l0_8 l0_9 a0_10) else (none)) = some r := H
   have A8 := Aside0.mk A80
   clear A80
   by_cases c9 : x9_1.length < 8796093022208
   rotate_left
   ·rw [if_neg c9] at H
    exact absurd H (by simp)
   rw [if_pos c9] at H
   have LMc9 := Aside0.mk c9
   clear c9; obtain ⟨y204, hy204⟩ : ∃ y_ : List (S26), y_ = (x9_1 ++ [(⟨t202, t203⟩ : S26)]) := ⟨_, rfl⟩
   replace H : (bourneref26_Cells.l0 k1 l1 a2 l3 y204 (wrap64 (x10_1 + 1)) a0_0 l0_1 a0_2 l0_3 l0_4 l0_5 l0_6 l0_7 l0_8 l0_9 a0_10) = some r := by first | (rw [hy204]; with_reducible exact H) | (have H2_ := (Option.bind_some _ _).symm.trans H; rw [hy204]; with_reducible exact H2_) | (have H2_ := (Option.bind_some _ _).symm.trans H; with_reducible exact H2_) | with_reducible exact H | (rw [hy204]; exact H) | exact H
   have Ny204 := Aside0.mk hy204
   clear hy204
   as_aux_lemma =>
    have H' := Aside0.mk H; clear H; have hcz10_0 : wr.cell? ⟨gb201, 0, none⟩ = some (.string a0_0) := (blk_cell BK201.out 0).trans rfl
    have hcz10_1 : wr.cell? ⟨gb201, 1, none⟩ = some (.slice A0_1 l0_1.length c0_1) := (blk_cell BK201.out 1).trans rfl
    have hcz10_2 : wr.cell? ⟨gb201, 2, none⟩ = some (.int .i64 a0_2) := (blk_cell BK201.out 2).trans rfl
    have hcz10_3 : wr.cell? ⟨gb201, 3, none⟩ = some (.slice A0_3 l0_3.length c0_3) := (blk_cell BK201.out 3).trans rfl
    have hcz10_4 : wr.cell? ⟨gb201, 4, none⟩ = some (.slice A0_4 l0_4.length c0_4) := (blk_cell BK201.out 4).trans rfl
    have hcz10_5 : wr.cell? ⟨gb201, 5, none⟩ = some (.slice A0_5 l0_5.length c0_5) := (blk_cell BK201.out 5).trans rfl
    have hcz10_6 : wr.cell? ⟨gb201, 6, none⟩ = some (.slice A0_6 l0_6.length c0_6) := (blk_cell BK201.out 6).trans rfl
    have hcz10_7 : wr.cell? ⟨gb201, 7, none⟩ = some (.slice A0_7 l0_7.length c0_7) := (blk_cell BK201.out 7).trans rfl
    have hcz10_8 : wr.cell? ⟨gb201, 8, none⟩ = some (.slice A0_8 l0_8.length c0_8) := (blk_cell BK201.out 8).trans rfl
    have hcz10_9 : wr.cell? ⟨gb201, 9, none⟩ = some (.slice A0_9 l0_9.length c0_9) := (blk_cell BK201.out 9).trans rfl
    have hcz10_10 : wr.cell? ⟨gb201, 10, none⟩ = some (.int .i64 a0_10) := (blk_cell BK201.out 10).trans rfl
    have hfz10_0 := blk_frozen BK201.out 0
    have hfz10_1 := blk_frozen BK201.out 1
    have hfz10_2 := blk_frozen BK201.out 2
    have hfz10_3 := blk_frozen BK201.out 3
    have hfz10_4 := blk_frozen BK201.out 4
    have hfz10_5 := blk_frozen BK201.out 5
    have hfz10_6 := blk_frozen BK201.out 6
    have hfz10_7 := blk_frozen BK201.out 7
    have hfz10_8 := blk_frozen BK201.out 8
    have hfz10_9 := blk_frozen BK201.out 9
    have hfz10_10 := blk_frozen BK201.out 10
    go_wp2_with (first | ((first | ((with_reducible refine gate_callee (f := 34) rfl ?_); refine goesL_ (some 27) rfl rfl Try.func34 (by kernel_rfl) rfl #[.agg #[.string a0_0, .slice A0_1 l0_1.length c0_1, .int .i64 a0_2, .slice A0_3 l0_3.length c0_3, .slice A0_4 l0_4.length c0_4, .slice A0_5 l0_5.length c0_5, .slice A0_6 l0_6.length c0_6, .slice A0_7 l0_7.length c0_7, .slice A0_8 l0_8.length c0_8, .slice A0_9 l0_9.length c0_9, .int .i64 a0_10], .slice A1 l1.length c1, .int .i64 a2, .slice A3 l3.length c3, .int .i64 x10_1] rfl (by first | done | rfl) ?_) | go_at_call 34); (with_reducible refine (bourneref26_Cell.calls k1 a0_0 _ _ l0_1 a0_2 _ _ l0_3 _ _ l0_4 _ _ l0_5 _ _ l0_6 _ _ l0_7 _ _ l0_8 _ _ l0_9 a0_10 _ _ l1 a2 _ _ l3 x10_1 t202 t203 _ ?side1 ?side2 ?side3 ?side4 ?side5 ?side6 ?side7 ?side8 ?side9 ?side10 ?side11 ?side12 ?side13 ?side14 ?side15 ?side16 ?side17 ?side18 ?side19 ?side20 A8.out).mono ?_); (case side1 => repeat (first | exact (Kd.C_below HR0_1.out HB.out) | with_reducible first | refine Kd.C_alloc ?_ _ | refine Kd.C_drewN ?_ _ | refine Kd.C_drew ?_)); (case side2 => exact HC0_1.out); (case side3 => repeat (first | exact (Kd.C_below HR0_3.out HB.out) | with_reducible first | refine Kd.C_alloc ?_ _ | refine Kd.C_drewN ?_ _ | refine Kd.C_drew ?_)); (case side4 => exact HC0_3.out); (case side5 => repeat (first | exact (Kd.C_below HR0_4.out HB.out) | with_reducible first | refine Kd.C_alloc ?_ _ | refine Kd.C_drewN ?_ _ | refine Kd.C_drew ?_)); (case side6 => exact HC0_4.out); (case side7 => repeat (first | exact (Kd.C_below HR0_5.out HB.out) | with_reducible first | refine Kd.C_alloc ?_ _ | refine Kd.C_drewN ?_ _ | refine Kd.C_drew ?_)); (case side8 => exact HC0_5.out); (case side9 => repeat (first | exact (Kd.C_below HR0_6.out HB.out) | with_reducible first | refine Kd.C_alloc ?_ _ | refine Kd.C_drewN ?_ _ | refine Kd.C_drew ?_)); (case side10 => exact HC0_6.out); (case side11 => repeat (first | exact (Kd.C_below HR0_7.out HB.out) | with_reducible first | refine Kd.C_alloc ?_ _ | refine Kd.C_drewN ?_ _ | refine Kd.C_drew ?_)); (case side12 => exact HC0_7.out); (case side13 => repeat (first | exact (Kd.C_below HR0_8.out HB.out) | with_reducible first | refine Kd.C_alloc ?_ _ | refine Kd.C_drewN ?_ _ | refine Kd.C_drew ?_)); (case side14 => exact HC0_8.out); (case side15 => repeat (first | exact (Kd.C_below HR0_9.out HB.out) | with_reducible first | refine Kd.C_alloc ?_ _ | refine Kd.C_drewN ?_ _ | refine Kd.C_drew ?_)); (case side16 => exact HC0_9.out); (case side17 => repeat (first | exact (Kd.C_below HR1.out HB.out) | with_reducible first | refine Kd.C_alloc ?_ _ | refine Kd.C_drewN ?_ _ | refine Kd.C_drew ?_)); (case side18 => exact HC1.out); (case side19 => repeat (first | exact (Kd.C_below HR3.out HB.out) | with_reducible first | refine Kd.C_alloc ?_ _ | refine Kd.C_drewN ?_ _ | refine Kd.C_drew ?_)); (case side20 => exact HC3.out); rintro e w11 ⟨rfl, hb⟩; (first | with_reducible refine ⟨_, rfl, ?_⟩ | skip); have n0_ := Aside0.mk (Kd.R_below (by (with_reducible repeat (first | apply Kd.R_alloc | apply Kd.R_drewN | apply Kd.R_drew)); exact HO_9.out) hb); have n1_ := Aside0.mk (blk_below (g := gb201) (o := .cells #[.string a0_0, .slice A0_1 l0_1.length c0_1, .int .i64 a0_2, .slice A0_3 l0_3.length c0_3, .slice A0_4 l0_4.length c0_4, .slice A0_5 l0_5.length c0_5, .slice A0_6 l0_6.length c0_6, .slice A0_7 l0_7.length c0_7, .slice A0_8 l0_8.length c0_8, .slice A0_9 l0_9.length c0_9, .int .i64 a0_10] 41 (0, 0)) abx hb); have n2_ := Aside0.mk (below_step ahx hb); clear HO_9; clear BK201; clear HB; have HO_9 := n0_; have BK201 := n1_; have HB := n2_; clear n0_ n1_ n2_; (try clear hb); (try clear hb2); (try clear hk); (try clear hi)) | ((with_reducible refine gate_builtin (b := .append) (xs := #[.tmp 21, .tmp 28]) rfl ?_); at_builtin; refine Kd.R_append k26 (w0 := w) w.heap.size rfl (.tmp 21) (.tmp 28) 22 26 (.agg #[(.int .i64 0), (.int .i64 0)]) 16 rfl Try.underlying22 info26 rfl (by decide) (by omega) u9 x9_1 (⟨t202, t203⟩ : S26) [.int .i64 t202, .int .i64 t203] (fun _ => True) (fun _ => False) rfl rfl ?aP (fun _ hk => hk.elim) ?aF ?aO ?aB ?aS ?aL ?_; (case aP => exact k26_mkM _ _ _ (⟨t202, t203⟩ : S26)); (case aB => exact ahx); (case aF => exact (fun _ _ => trivial)); (case aO => exact (by (with_reducible repeat (first | apply Kd.R_alloc | apply Kd.R_drewN | apply Kd.R_drew)); exact HO_9.out)); (case aS => exact (below_size ahx)); (case aL => have := LMc9.out; omega); intro v205 w12 ho hb hg hat; rw [← Ny204.out] at ho; have n0_ := Aside0.mk (blk_grown (g := gb201) (o := .cells #[.string a0_0, .slice A0_1 l0_1.length c0_1, .int .i64 a0_2, .slice A0_3 l0_3.length c0_3, .slice A0_4 l0_4.length c0_4, .slice A0_5 l0_5.length c0_5, .slice A0_6 l0_6.length c0_6, .slice A0_7 l0_7.length c0_7, .slice A0_8 l0_8.length c0_8, .slice A0_9 l0_9.length c0_9, .int .i64 a0_10] 41 (0, 0)) abx hg (Kd.R_ne HO_9.out BK201.out (by decide))); have n1_ := Aside0.mk (hb); have n2_ := Aside0.mk (ho); clear BK201; clear HB; clear HO_9; have BK201 := n0_; have HB := n1_; have HO206 := n2_; clear n0_ n1_ n2_; clear ho hb hg hat))
    go_roundg k1
    case measure => have := HK1.out; omega
    case rel => exact ⟨(y204), (wrap64 (x10_1 + 1)), (by first | rfl | (simp; done) | (simp [*]; done)), H', ⟨by have := HK1.out; omega⟩, ⟨by (with_reducible repeat (first | apply Kd.R_alloc | apply Kd.R_drewN | apply Kd.R_drew)); exact HO206.out⟩, ⟨by (with_reducible repeat (first | refine blk_drewN ?_ _ | refine blk_drew ?_ | refine blk_alloc ?_ _)); exact BK201.out⟩, ⟨ahx⟩⟩

/-! ### bourneref26_Mesh: function 20 -/
mutual
def bourneref26_Mesh.l0 : Nat → List (S26) → List (S26) → Int → ByteArray → List ByteArray → Int → List (S47) → List (S104) → List (S106) → List (S67) → List (S108) → List (S110) → List Int → Int → Option ((List (S26)))
 | 0, _, _, _, _, _, _, _, _, _, _, _, _, _, _ => none
 | k + 1, x1, x5, x6, x208000, x208001, x208002, x208003, x208004, x208005, x208006, x208007, x208008, x208009, x208010 => if x6 < (x208003.length : Int) then (if 0 ≤ x6 then (bourneref26_Mesh.l1 k x1 x5 x6 0 0 ((rd_T47 x208003 x6).f11) 0 x208000 x208001 x208002 x208003 x208004 x208005 x208006 x208007 x208008 x208009 x208010) else (none)) else (some x5)
def bourneref26_Mesh.l1 : Nat → List (S26) → List (S26) → Int → Int → Int → List (S49) → Int → ByteArray → List ByteArray → Int → List (S47) → List (S104) → List (S106) → List (S67) → List (S108) → List (S110) → List Int → Int → Option ((List (S26)))
 | 0, _, _, _, _, _, _, _, _, _, _, _, _, _, _, _, _, _, _ => none
 | k + 1, x1, x5, x6, x7, x8, x9, x10, x208000, x208001, x208002, x208003, x208004, x208005, x208006, x208007, x208008, x208009, x208010 => if x10 < (x9.length : Int) then (if 0 ≤ x10 then (if ((rd_T49 x9 x10).f0) < 0 then (bourneref26_Mesh.j2 k x1 x5 x6 x7 x8 x9 x10 true x208000 x208001 x208002 x208003 x208004 x208005 x208006 x208007 x208008 x208009 x208010) else (bourneref26_Mesh.j2 k x1 x5 x6 x7 x8 x9 x10 (decide (((rd_T49 x9 x10).f0) ≥ (x1.length : Int))) x208000 x208001 x208002 x208003 x208004 x208005 x208006 x208007 x208008 x208009 x208010)) else (none)) else (if x5.length < 8796093022208 then (bourneref26_Mesh.l0 k x1 (x5 ++ [(⟨mn x7 1125899906842624, mn x8 1125899906842624⟩ : S26)]) (wrap64 (x6 + 1)) x208000 x208001 x208002 x208003 x208004 x208005 x208006 x208007 x208008 x208009 x208010) else (none))
def bourneref26_Mesh.j2 : Nat → List (S26) → List (S26) → Int → Int → Int → List (S49) → Int → Bool → ByteArray → List ByteArray → Int → List (S47) → List (S104) → List (S106) → List (S67) → List (S108) → List (S110) → List Int → Int → Option ((List (S26)))
 | 0, _, _, _, _, _, _, _, _, _, _, _, _, _, _, _, _, _, _, _ => none
 | k + 1, x1, x5, x6, x7, x8, x9, x10, x45, x208000, x208001, x208002, x208003, x208004, x208005, x208006, x208007, x208008, x208009, x208010 => if x45 = true then (bourneref26_Mesh.l1 k x1 x5 x6 x7 x8 x9 (wrap64 (x10 + 1)) x208000 x208001 x208002 x208003 x208004 x208005 x208006 x208007 x208008 x208009 x208010) else (if 0 ≤ x10 then (if x10 < (x9.length : Int) then (if 0 ≤ ((rd_T49 x9 x10).f0) then (if ((rd_T49 x9 x10).f0) < (x1.length : Int) then ((bourneref26_Litres.f k ((rd_T26 x1 ((rd_T49 x9 x10).f0)).f0) ((rd_T49 x9 x10).f1)).bind fun t217 => ((bourneref01_Add.f x7 t217).bind fun t218 => ((bourneref26_Litres.f k ((rd_T26 x1 ((rd_T49 x9 x10).f0)).f1) ((rd_T49 x9 x10).f1)).bind fun t222 => ((bourneref01_Add.f x8 t222).bind fun t223 => (bourneref26_Mesh.l1 k x1 x5 x6 t218 t223 x9 (wrap64 (x10 + 1)) x208000 x208001 x208002 x208003 x208004 x208005 x208006 x208007 x208008 x208009 x208010))))) else (none)) else (none)) else (none)) else (none))
end
def bourneref26_Mesh.f (k : Nat) (a0_0 : ByteArray) (l0_1 : List ByteArray) (a0_2 : Int) (l0_3 : List (S47)) (l0_4 : List (S104)) (l0_5 : List (S106)) (l0_6 : List (S67)) (l0_7 : List (S108)) (l0_8 : List (S110)) (l0_9 : List Int) (a0_10 : Int) (l1 : List (S26)) : Option ((List (S26))) := bourneref26_Mesh.l0 k l1 ([] : List (S26)) 0 a0_0 l0_1 a0_2 l0_3 l0_4 l0_5 l0_6 l0_7 l0_8 l0_9 a0_10
set_option maxHeartbeats 8000000 in
set_option maxRecDepth 100000 in
theorem bourneref26_Mesh.calls (k : Nat) (a0_0 : ByteArray) (A0_1 : Option Addr) (c0_1 : Nat) (l0_1 : List ByteArray) (a0_2 : Int) (A0_3 : Option Addr) (c0_3 : Nat) (l0_3 : List (S47)) (A0_4 : Option Addr) (c0_4 : Nat) (l0_4 : List (S104)) (A0_5 : Option Addr) (c0_5 : Nat) (l0_5 : List (S106)) (A0_6 : Option Addr) (c0_6 : Nat) (l0_6 : List (S67)) (A0_7 : Option Addr) (c0_7 : Nat) (l0_7 : List (S108)) (A0_8 : Option Addr) (c0_8 : Nat) (l0_8 : List (S110)) (A0_9 : Option Addr) (c0_9 : Nat) (l0_9 : List Int) (a0_10 : Int) (A1 : Option Addr) (c1 : Nat) (l1 : List (S26)) (r : List (S26)) (w : World) (hr0_1 : Kd.C Kd.string w A0_1 l0_1.length l0_1) (hc0_1 : l0_1.length ≤ c0_1) (hr0_3 : Kd.C k47 w A0_3 l0_3.length l0_3) (hc0_3 : l0_3.length ≤ c0_3) (hr0_4 : Kd.C k104 w A0_4 l0_4.length l0_4) (hc0_4 : l0_4.length ≤ c0_4) (hr0_5 : Kd.C k106 w A0_5 l0_5.length l0_5) (hc0_5 : l0_5.length ≤ c0_5) (hr0_6 : Kd.C k67 w A0_6 l0_6.length l0_6) (hc0_6 : l0_6.length ≤ c0_6) (hr0_7 : Kd.C k108 w A0_7 l0_7.length l0_7) (hc0_7 : l0_7.length ≤ c0_7) (hr0_8 : Kd.C k110 w A0_8 l0_8.length l0_8) (hc0_8 : l0_8.length ≤ c0_8) (hr0_9 : Kd.C (Kd.int .i64) w A0_9 l0_9.length l0_9) (hc0_9 : l0_9.length ≤ c0_9) (hr1 : Kd.C k26 w A1 l1.length l1) (hc1 : l1.length ≤ c1) (h : bourneref26_Mesh.f k a0_0 l0_1 a0_2 l0_3 l0_4 l0_5 l0_6 l0_7 l0_8 l0_9 a0_10 l1 = some r) :
  Calls Try.prog 20 #[.agg #[.string a0_0, .slice A0_1 l0_1.length c0_1, .int .i64 a0_2, .slice A0_3 l0_3.length c0_3, .slice A0_4 l0_4.length c0_4, .slice A0_5 l0_5.length c0_5, .slice A0_6 l0_6.length c0_6, .slice A0_7 l0_7.length c0_7, .slice A0_8 l0_8.length c0_8, .slice A0_9 l0_9.length c0_9, .int .i64 a0_10], .slice A1 l1.length c1] w fun e w' => ∃ v0_ : Value, e = .returned (v0_) ∧ Kd.R k26 26 w' w.heap.size (fun _ => True) v0_ r ∧ Below w.heap.size w w' := by
 have hu41 := Try.underlying41; have hu26 := Try.underlying26; have HR0_1 := Aside0.mk hr0_1
 have HC0_1 := Aside0.mk hc0_1
 clear hr0_1 hc0_1; have HR0_3 := Aside0.mk hr0_3
 have HC0_3 := Aside0.mk hc0_3
 clear hr0_3 hc0_3; have HR0_4 := Aside0.mk hr0_4
 have HC0_4 := Aside0.mk hc0_4
 clear hr0_4 hc0_4; have HR0_5 := Aside0.mk hr0_5
 have HC0_5 := Aside0.mk hc0_5
 clear hr0_5 hc0_5; have HR0_6 := Aside0.mk hr0_6
 have HC0_6 := Aside0.mk hc0_6
 clear hr0_6 hc0_6; have HR0_7 := Aside0.mk hr0_7
 have HC0_7 := Aside0.mk hc0_7
 clear hr0_7 hc0_7; have HR0_8 := Aside0.mk hr0_8
 have HC0_8 := Aside0.mk hc0_8
 clear hr0_8 hc0_8; have HR0_9 := Aside0.mk hr0_9
 have HC0_9 := Aside0.mk hc0_9
 clear hr0_9 hc0_9; have HR1 := Aside0.mk hr1
 have HC1 := Aside0.mk hc1
 clear hr1 hc1; have HB := Aside0.mk (Below.refl w.heap.size w)
 have H : (bourneref26_Mesh.l0 k l1 ([] : List (S26)) 0 a0_0 l0_1 a0_2 l0_3 l0_4 l0_5 l0_6 l0_7 l0_8 l0_9 a0_10) = some r := h
 clear h; have H' := Aside0.mk H; clear H; go_enter Try.func20, Try.ntmps20
 go_wp2_with (first | ((with_reducible refine gate_dst (N := 2) rfl ?_); (try (refine gate_guard (by rfl) ?_; dsimp only)); refine box_event ?hg (N := 2) ?hd (cs := #[.string a0_0, .slice A0_1 l0_1.length c0_1, .int .i64 a0_2, .slice A0_3 l0_3.length c0_3, .slice A0_4 l0_4.length c0_4, .slice A0_5 l0_5.length c0_5, .slice A0_6 l0_6.length c0_6, .slice A0_7 l0_7.length c0_7, .slice A0_8 l0_8.length c0_8, .slice A0_9 l0_9.length c0_9, .int .i64 a0_10]) (t := 41) ?hr ?_; (case hd => rfl); (case hg => rfl); (case hr => first | (go_simp; done) | (go_simp; rfl)); intro gb207 hg w3 hbox hb; have n0_ := Aside0.mk (below_step ahx hb); have n1_ := Aside0.mk (hbox); have n2_ := Aside0.mk ((by rw [hg]; exact (below_size ahx) : w.heap.size ≤ gb207)); have n3_ := Aside0.mk ((by rw [hg]; exact (below_size ahx) : w.heap.size ≤ gb207)); clear HB; have HB := n0_; have BK207 := n1_; have GW207 := n2_; have GE207 := n3_; clear n0_ n1_ n2_ n3_; clear hb hbox hg))
 repeat (go_quiet (first | ((with_reducible refine gate_dst (N := 2) rfl ?_); (try (refine gate_guard (by rfl) ?_; dsimp only)); refine box_event ?hg (N := 2) ?hd (cs := #[.string a0_0, .slice A0_1 l0_1.length c0_1, .int .i64 a0_2, .slice A0_3 l0_3.length c0_3, .slice A0_4 l0_4.length c0_4, .slice A0_5 l0_5.length c0_5, .slice A0_6 l0_6.length c0_6, .slice A0_7 l0_7.length c0_7, .slice A0_8 l0_8.length c0_8, .slice A0_9 l0_9.length c0_9, .int .i64 a0_10]) (t := 41) ?hr ?_; (case hd => rfl); (case hg => rfl); (case hr => first | (go_simp; done) | (go_simp; rfl)); intro gb207 hg w3 hbox hb; have n0_ := Aside0.mk (below_step ahx hb); have n1_ := Aside0.mk (hbox); have n2_ := Aside0.mk ((by rw [hg]; exact (below_size ahx) : w.heap.size ≤ gb207)); have n3_ := Aside0.mk ((by rw [hg]; exact (below_size ahx) : w.heap.size ≤ gb207)); clear HB; have HB := n0_; have BK207 := n1_; have GW207 := n2_; have GE207 := n3_; clear n0_ n1_ n2_ n3_; clear hb hbox hg)); try go_wp2_with (first | ((with_reducible refine gate_dst (N := 2) rfl ?_); (try (refine gate_guard (by rfl) ?_; dsimp only)); refine box_event ?hg (N := 2) ?hd (cs := #[.string a0_0, .slice A0_1 l0_1.length c0_1, .int .i64 a0_2, .slice A0_3 l0_3.length c0_3, .slice A0_4 l0_4.length c0_4, .slice A0_5 l0_5.length c0_5, .slice A0_6 l0_6.length c0_6, .slice A0_7 l0_7.length c0_7, .slice A0_8 l0_8.length c0_8, .slice A0_9 l0_9.length c0_9, .int .i64 a0_10]) (t := 41) ?hr ?_; (case hd => rfl); (case hg => rfl); (case hr => first | (go_simp; done) | (go_simp; rfl)); intro gb207 hg w3 hbox hb; have n0_ := Aside0.mk (below_step ahx hb); have n1_ := Aside0.mk (hbox); have n2_ := Aside0.mk ((by rw [hg]; exact (below_size ahx) : w.heap.size ≤ gb207)); have n3_ := Aside0.mk ((by rw [hg]; exact (below_size ahx) : w.heap.size ≤ gb207)); clear HB; have HB := n0_; have BK207 := n1_; have GW207 := n2_; have GE207 := n3_; clear n0_ n1_ n2_ n3_; clear hb hbox hg)))
 go_loopg [5, 6] k (fun kq v5 v6 w' => ∃ (x5_1 : List (S26)) (x6_1 : Int), v6 = .int .i64 x6_1 ∧ Aside0 (bourneref26_Mesh.l0 kq l1 x5_1 x6_1 a0_0 l0_1 a0_2 l0_3 l0_4 l0_5 l0_6 l0_7 l0_8 l0_9 a0_10 = some r) ∧ Aside0 (kq ≤ k) ∧ Aside0 (Kd.R k26 26 w' w.heap.size (fun _ => True) v5 x5_1) ∧ Aside0 (w'.heap[gb207]? = some (.cells #[.string a0_0, (.slice A0_1 l0_1.length c0_1), .int .i64 a0_2, (.slice A0_3 l0_3.length c0_3), (.slice A0_4 l0_4.length c0_4), (.slice A0_5 l0_5.length c0_5), (.slice A0_6 l0_6.length c0_6), (.slice A0_7 l0_7.length c0_7), (.slice A0_8 l0_8.length c0_8), (.slice A0_9 l0_9.length c0_9), .int .i64 a0_10] 41 (0, 0))) ∧ Aside0 (Below w.heap.size w w'))
 case atStart => exact ⟨(([] : List (S26))), (0), (by first | rfl | (simp; done) | (simp [*]; done)), H', ⟨Nat.le_refl _⟩, ⟨by first | exact Kd.R_nil _ _ _ _ _ | exact Kd.N_nil _ _ _ _ _ | exact Kd.V_nil _ _ _ _ _ | exact Kd.Q_nil _ _ _ _ _ | exact Kd.S_nil _ _ _ _ _⟩, ⟨by (with_reducible repeat (first | refine blk_drewN ?_ _ | refine blk_drew ?_ | refine blk_alloc ?_ _)); exact BK207.out⟩, ⟨ahx⟩⟩
 case round =>
  clear H'; try clear c1
  try clear c2
  try clear p2
  obtain ⟨x5_1, x6_1, rfl, HA, HK1, HO_5, BK207, HB⟩ := hrel
  cases gk with
  | zero => exact absurd HA.out (by simp [bourneref26_Mesh.l0])
  | succ k1 =>
   have H := HA.out; clear HA; simp only [bourneref26_Mesh.l0] at H
   by_cases c4 : x6_1 < (l0_3.length : Int)
   rotate_left
   ·rw [if_neg c4] at H
    have c4b0 : decide (x6_1 < (l0_3.length : Int)) = false := decide_eq_false c4
    clear c4
    as_aux_lemma =>
     obtain rfl := Option.some.inj H
     have hcz24_0 : wr.cell? ⟨gb207, 0, none⟩ = some (.string a0_0) := (blk_cell BK207.out 0).trans rfl
     have hcz24_1 : wr.cell? ⟨gb207, 1, none⟩ = some (.slice A0_1 l0_1.length c0_1) := (blk_cell BK207.out 1).trans rfl
     have hcz24_2 : wr.cell? ⟨gb207, 2, none⟩ = some (.int .i64 a0_2) := (blk_cell BK207.out 2).trans rfl
     have hcz24_3 : wr.cell? ⟨gb207, 3, none⟩ = some (.slice A0_3 l0_3.length c0_3) := (blk_cell BK207.out 3).trans rfl
     have hcz24_4 : wr.cell? ⟨gb207, 4, none⟩ = some (.slice A0_4 l0_4.length c0_4) := (blk_cell BK207.out 4).trans rfl
     have hcz24_5 : wr.cell? ⟨gb207, 5, none⟩ = some (.slice A0_5 l0_5.length c0_5) := (blk_cell BK207.out 5).trans rfl
     have hcz24_6 : wr.cell? ⟨gb207, 6, none⟩ = some (.slice A0_6 l0_6.length c0_6) := (blk_cell BK207.out 6).trans rfl
     have hcz24_7 : wr.cell? ⟨gb207, 7, none⟩ = some (.slice A0_7 l0_7.length c0_7) := (blk_cell BK207.out 7).trans rfl
     have hcz24_8 : wr.cell? ⟨gb207, 8, none⟩ = some (.slice A0_8 l0_8.length c0_8) := (blk_cell BK207.out 8).trans rfl
     have hcz24_9 : wr.cell? ⟨gb207, 9, none⟩ = some (.slice A0_9 l0_9.length c0_9) := (blk_cell BK207.out 9).trans rfl
     have hcz24_10 : wr.cell? ⟨gb207, 10, none⟩ = some (.int .i64 a0_10) := (blk_cell BK207.out 10).trans rfl
     have hfz24_0 := blk_frozen BK207.out 0
     have hfz24_1 := blk_frozen BK207.out 1
     have hfz24_2 := blk_frozen BK207.out 2
     have hfz24_3 := blk_frozen BK207.out 3
     have hfz24_4 := blk_frozen BK207.out 4
     have hfz24_5 := blk_frozen BK207.out 5
     have hfz24_6 := blk_frozen BK207.out 6
     have hfz24_7 := blk_frozen BK207.out 7
     have hfz24_8 := blk_frozen BK207.out 8
     have hfz24_9 := blk_frozen BK207.out 9
     have hfz24_10 := blk_frozen BK207.out 10
     go_wp2
     repeat (go_quiet (fail); try go_wp2)
     go_ret
     exact ⟨_, by first | rfl | (simp [errW_none, errW_some] <;> rfl) | (simp [*, errW_none, errW_some] <;> rfl), by (with_reducible repeat (first | apply Kd.R_alloc | apply Kd.R_drewN | apply Kd.R_drew)); exact HO_5.out, ahx⟩
   rw [if_pos c4] at H
   have c4b0 : decide (x6_1 < (l0_3.length : Int)) = true := decide_eq_true c4
   clear c4
   by_cases c5 : 0 ≤ x6_1
   rotate_left
   ·rw [if_neg c5] at H
    exact absurd H (by simp)
   rw [if_pos c5] at H
   have c5b0 : decide (0 ≤ x6_1) = true := decide_eq_true c5
   clear c5; have H' := Aside0.mk H; clear H; have hcz6_0 : wr.cell? ⟨gb207, 0, none⟩ = some (.string a0_0) := (blk_cell BK207.out 0).trans rfl
   have hcz6_1 : wr.cell? ⟨gb207, 1, none⟩ = some (.slice A0_1 l0_1.length c0_1) := (blk_cell BK207.out 1).trans rfl
   have hcz6_2 : wr.cell? ⟨gb207, 2, none⟩ = some (.int .i64 a0_2) := (blk_cell BK207.out 2).trans rfl
   have hcz6_3 : wr.cell? ⟨gb207, 3, none⟩ = some (.slice A0_3 l0_3.length c0_3) := (blk_cell BK207.out 3).trans rfl
   have hcz6_4 : wr.cell? ⟨gb207, 4, none⟩ = some (.slice A0_4 l0_4.length c0_4) := (blk_cell BK207.out 4).trans rfl
   have hcz6_5 : wr.cell? ⟨gb207, 5, none⟩ = some (.slice A0_5 l0_5.length c0_5) := (blk_cell BK207.out 5).trans rfl
   have hcz6_6 : wr.cell? ⟨gb207, 6, none⟩ = some (.slice A0_6 l0_6.length c0_6) := (blk_cell BK207.out 6).trans rfl
   have hcz6_7 : wr.cell? ⟨gb207, 7, none⟩ = some (.slice A0_7 l0_7.length c0_7) := (blk_cell BK207.out 7).trans rfl
   have hcz6_8 : wr.cell? ⟨gb207, 8, none⟩ = some (.slice A0_8 l0_8.length c0_8) := (blk_cell BK207.out 8).trans rfl
   have hcz6_9 : wr.cell? ⟨gb207, 9, none⟩ = some (.slice A0_9 l0_9.length c0_9) := (blk_cell BK207.out 9).trans rfl
   have hcz6_10 : wr.cell? ⟨gb207, 10, none⟩ = some (.int .i64 a0_10) := (blk_cell BK207.out 10).trans rfl
   have hfz6_0 := blk_frozen BK207.out 0
   have hfz6_1 := blk_frozen BK207.out 1
   have hfz6_2 := blk_frozen BK207.out 2
   have hfz6_3 := blk_frozen BK207.out 3
   have hfz6_4 := blk_frozen BK207.out 4
   have hfz6_5 := blk_frozen BK207.out 5
   have hfz6_6 := blk_frozen BK207.out 6
   have hfz6_7 := blk_frozen BK207.out 7
   have hfz6_8 := blk_frozen BK207.out 8
   have hfz6_9 := blk_frozen BK207.out 9
   have hfz6_10 := blk_frozen BK207.out 10
   have p208 : 0 ≤ (x6_1 : Int) := of_decide_eq_true (by first | (with_reducible assumption) | assumption)
   have q208 : x6_1 < (l0_3.length : Int) := of_decide_eq_true (by first | (with_reducible assumption) | assumption)
   obtain ⟨ad208, A208_4, c208_4, A208_5, c208_5, A208_11, c208_11, e208, hx208_0, hx208_1, hx208_2, hx208_3, hx208_4, hx208_5, hx208_6, hx208_7, hx208_8, hx208_9, hx208_10, hx208_11, hl208_4, hi208_4, hl208_5, hi208_5, hl208_11, hi208_11⟩ := at_T47 HR0_3.out x6_1 p208 q208
   cases e208
   replace hx208_0 := (HB.out.cell (World.block_lt_of_cell? w _ hx208_0)).trans hx208_0
   replace hx208_1 := (HB.out.cell (World.block_lt_of_cell? w _ hx208_1)).trans hx208_1
   replace hx208_2 := (HB.out.cell (World.block_lt_of_cell? w _ hx208_2)).trans hx208_2
   replace hx208_3 := (HB.out.cell (World.block_lt_of_cell? w _ hx208_3)).trans hx208_3
   replace hx208_4 := (HB.out.cell (World.block_lt_of_cell? w _ hx208_4)).trans hx208_4
   replace hx208_5 := (HB.out.cell (World.block_lt_of_cell? w _ hx208_5)).trans hx208_5
   replace hx208_6 := (HB.out.cell (World.block_lt_of_cell? w _ hx208_6)).trans hx208_6
   replace hx208_7 := (HB.out.cell (World.block_lt_of_cell? w _ hx208_7)).trans hx208_7
   replace hx208_8 := (HB.out.cell (World.block_lt_of_cell? w _ hx208_8)).trans hx208_8
   replace hx208_9 := (HB.out.cell (World.block_lt_of_cell? w _ hx208_9)).trans hx208_9
   replace hx208_10 := (HB.out.cell (World.block_lt_of_cell? w _ hx208_10)).trans hx208_10
   replace hx208_11 := (HB.out.cell (World.block_lt_of_cell? w _ hx208_11)).trans hx208_11
   have HR208_4 := Aside0.mk hi208_4
   have HC208_4 := Aside0.mk hl208_4
   clear hi208_4 hl208_4; have HR208_5 := Aside0.mk hi208_5
   have HC208_5 := Aside0.mk hl208_5
   clear hi208_5 hl208_5; have HR208_11 := Aside0.mk hi208_11
   have HC208_11 := Aside0.mk hl208_11
   clear hi208_11 hl208_11; replace p208 := eq_true p208
   replace q208 := eq_true q208
   go_wp2
   repeat (go_quiet (fail); try go_wp2)
   go_loopg [7, 8, 10] k1 (fun kq v7 v8 v10 w' => ∃ (x7_2 : Int) (x8_2 : Int) (x10_2 : Int), v7 = .int .i64 x7_2 ∧ v8 = .int .i64 x8_2 ∧ v10 = .int .i64 x10_2 ∧ Aside0 (bourneref26_Mesh.l1 kq l1 x5_1 x6_1 x7_2 x8_2 ((rd_T47 l0_3 x6_1).f11) x10_2 a0_0 l0_1 a0_2 l0_3 l0_4 l0_5 l0_6 l0_7 l0_8 l0_9 a0_10 = some r) ∧ Aside0 (kq ≤ k1) ∧ Aside0 (Kd.R k26 26 w' w.heap.size (fun _ => True) u5 x5_1) ∧ Aside0 (w'.heap[gb207]? = some (.cells #[.string a0_0, (.slice A0_1 l0_1.length c0_1), .int .i64 a0_2, (.slice (some ad208) l0_3.length c0_3), (.slice A0_4 l0_4.length c0_4), (.slice A0_5 l0_5.length c0_5), (.slice A0_6 l0_6.length c0_6), (.slice A0_7 l0_7.length c0_7), (.slice A0_8 l0_8.length c0_8), (.slice A0_9 l0_9.length c0_9), .int .i64 a0_10] 41 (0, 0))) ∧ Aside0 (Below w.heap.size w w'))
   case atStart => exact ⟨(0), (0), (0), (by first | rfl | (simp; done) | (simp [*]; done)), (by first | rfl | (simp; done) | (simp [*]; done)), (by first | rfl | (simp; done) | (simp [*]; done)), H', ⟨Nat.le_refl _⟩, ⟨by (with_reducible repeat (first | apply Kd.R_alloc | apply Kd.R_drewN | apply Kd.R_drew)); exact HO_5.out⟩, ⟨by (with_reducible repeat (first | refine blk_drewN ?_ _ | refine blk_drew ?_ | refine blk_alloc ?_ _)); exact BK207.out⟩, ⟨ahx⟩⟩
   case round =>
    clear H'; try clear c1
    try clear c2
    try clear p2
    try clear q2
    try clear hx2
    try clear c4
    try clear c4b0
    try clear c5
    try clear c5b0
    try clear hcz6_0
    try clear hcz6_1
    try clear hcz6_10
    try clear hcz6_2
    try clear hcz6_3
    try clear hcz6_4
    try clear hcz6_5
    try clear hcz6_6
    try clear hcz6_7
    try clear hcz6_8
    try clear hcz6_9
    try clear hfz6_0
    try clear hfz6_1
    try clear hfz6_10
    try clear hfz6_2
    try clear hfz6_3
    try clear hfz6_4
    try clear hfz6_5
    try clear hfz6_6
    try clear hfz6_7
    try clear hfz6_8
    try clear hfz6_9
    try clear hx208_0
    try clear hx208_1
    try clear hx208_10
    try clear hx208_11
    try clear hx208_2
    try clear hx208_3
    try clear hx208_4
    try clear hx208_5
    try clear hx208_6
    try clear hx208_7
    try clear hx208_8
    try clear hx208_9
    try clear p2
    try clear p208
    try clear q208
    obtain ⟨x7_2, x8_2, x10_2, rfl, rfl, rfl, HA, HK2, HO_5, BK207, HB⟩ := hrel
    cases gk with
    | zero => exact absurd HA.out (by simp [bourneref26_Mesh.l1])
    | succ k2 =>
     have H := HA.out; clear HA; simp only [bourneref26_Mesh.l1] at H
     by_cases c7 : x10_2 < (((rd_T47 l0_3 x6_1).f11).length : Int)
     rotate_left
     ·rw [if_neg c7] at H
      have c7b0 : decide (x10_2 < (((rd_T47 l0_3 x6_1).f11).length : Int)) = false := decide_eq_false c7
      clear c7; obtain ⟨ji20, hji20⟩ : ∃ j_ : Int, (mn x7_2 1125899906842624) = j_ := ⟨_, rfl⟩
      replace H : (if x5_1.length < 8796093022208 then (bourneref26_Mesh.l0 k2 l1 (x5_1 ++ [(⟨ji20, mn x8_2 1125899906842624⟩ : S26)]) (wrap64 (x6_1 + 1)) a0_0 l0_1 a0_2 l0_3 l0_4 l0_5 l0_6 l0_7 l0_8 l0_9 a0_10) else (none)) = some r := by first | (rw [hji20] at H; exact H) | (simp only [hji20] at H ⊢; exact H)
      have hji20_ : (if 1125899906842624 < x7_2 then 1125899906842624 else x7_2) = ji20 := hji20
      obtain ⟨ji21, hji21⟩ : ∃ j_ : Int, (mn x8_2 1125899906842624) = j_ := ⟨_, rfl⟩
      replace H : (if x5_1.length < 8796093022208 then (bourneref26_Mesh.l0 k2 l1 (x5_1 ++ [(⟨ji20, ji21⟩ : S26)]) (wrap64 (x6_1 + 1)) a0_0 l0_1 a0_2 l0_3 l0_4 l0_5 l0_6 l0_7 l0_8 l0_9 a0_10) else (none)) = some r := by first | (rw [hji21] at H; exact H) | (simp only [hji21] at H ⊢; exact H)
      have hji21_ : (if 1125899906842624 < x8_2 then 1125899906842624 else x8_2) = ji21 := hji21
      by_cases c22 : x5_1.length < 8796093022208
      rotate_left
      ·rw [if_neg c22] at H
       exact absurd H (by simp)
      rw [if_pos c22] at H
      have LMc22 := Aside0.mk c22
      clear c22; obtain ⟨y209, hy209⟩ : ∃ y_ : List (S26), y_ = (x5_1 ++ [(⟨ji20, ji21⟩ : S26)]) := ⟨_, rfl⟩
      replace H : (bourneref26_Mesh.l0 k2 l1 y209 (wrap64 (x6_1 + 1)) a0_0 l0_1 a0_2 l0_3 l0_4 l0_5 l0_6 l0_7 l0_8 l0_9 a0_10) = some r := by first | (rw [hy209]; with_reducible exact H) | (have H2_ := (Option.bind_some _ _).symm.trans H; rw [hy209]; with_reducible exact H2_) | (have H2_ := (Option.bind_some _ _).symm.trans H; with_reducible exact H2_) | with_reducible exact H | (rw [hy209]; exact H) | exact H
      have Ny209 := Aside0.mk hy209
      clear hy209
      as_aux_lemma =>
       have H' := Aside0.mk H; clear H; go_wp2_with (first | ((with_reducible refine gate_builtin (b := .append) (xs := #[.tmp 80, .tmp 86]) rfl ?_); (try (refine gate_guard (by rfl) ?_; dsimp only)); at_builtin; refine Kd.R_append k26 (w0 := w) w.heap.size rfl (.tmp 80) (.tmp 86) 22 26 (.agg #[(.int .i64 0), (.int .i64 0)]) 16 rfl Try.underlying22 info26 rfl (by decide) (by omega) u5 x5_1 (⟨ji20, ji21⟩ : S26) [.int .i64 ji20, .int .i64 ji21] (fun _ => True) (fun _ => False) rfl rfl ?aP (fun _ hk => hk.elim) ?aF ?aO ?aB ?aS ?aL ?_; (case aP => exact k26_mkM _ _ _ (⟨ji20, ji21⟩ : S26)); (case aB => exact ahx); (case aF => exact (fun _ _ => trivial)); (case aO => exact (by (with_reducible repeat (first | apply Kd.R_alloc | apply Kd.R_drewN | apply Kd.R_drew)); exact HO_5.out)); (case aS => exact (below_size ahx)); (case aL => have := LMc22.out; omega); intro v210 w23 ho hb hg hat; rw [← Ny209.out] at ho; have n0_ := Aside0.mk (blk_grown (g := gb207) (o := .cells #[.string a0_0, .slice A0_1 l0_1.length c0_1, .int .i64 a0_2, .slice (some ad208) l0_3.length c0_3, .slice A0_4 l0_4.length c0_4, .slice A0_5 l0_5.length c0_5, .slice A0_6 l0_6.length c0_6, .slice A0_7 l0_7.length c0_7, .slice A0_8 l0_8.length c0_8, .slice A0_9 l0_9.length c0_9, .int .i64 a0_10] 41 (0, 0)) abx hg (Kd.R_ne HO_5.out BK207.out (by decide))); have n1_ := Aside0.mk (hb); have n2_ := Aside0.mk (ho); clear BK207; clear HB; clear HO_5; have BK207 := n0_; have HB := n1_; have HO211 := n2_; clear n0_ n1_ n2_; clear ho hb hg hat))
       repeat (go_quiet (first | ((with_reducible refine gate_builtin (b := .append) (xs := #[.tmp 80, .tmp 86]) rfl ?_); (try (refine gate_guard (by rfl) ?_; dsimp only)); at_builtin; refine Kd.R_append k26 (w0 := w) w.heap.size rfl (.tmp 80) (.tmp 86) 22 26 (.agg #[(.int .i64 0), (.int .i64 0)]) 16 rfl Try.underlying22 info26 rfl (by decide) (by omega) u5 x5_1 (⟨ji20, ji21⟩ : S26) [.int .i64 ji20, .int .i64 ji21] (fun _ => True) (fun _ => False) rfl rfl ?aP (fun _ hk => hk.elim) ?aF ?aO ?aB ?aS ?aL ?_; (case aP => exact k26_mkM _ _ _ (⟨ji20, ji21⟩ : S26)); (case aB => exact ahx); (case aF => exact (fun _ _ => trivial)); (case aO => exact (by (with_reducible repeat (first | apply Kd.R_alloc | apply Kd.R_drewN | apply Kd.R_drew)); exact HO_5.out)); (case aS => exact (below_size ahx)); (case aL => have := LMc22.out; omega); intro v210 w23 ho hb hg hat; rw [← Ny209.out] at ho; have n0_ := Aside0.mk (blk_grown (g := gb207) (o := .cells #[.string a0_0, .slice A0_1 l0_1.length c0_1, .int .i64 a0_2, .slice (some ad208) l0_3.length c0_3, .slice A0_4 l0_4.length c0_4, .slice A0_5 l0_5.length c0_5, .slice A0_6 l0_6.length c0_6, .slice A0_7 l0_7.length c0_7, .slice A0_8 l0_8.length c0_8, .slice A0_9 l0_9.length c0_9, .int .i64 a0_10] 41 (0, 0)) abx hg (Kd.R_ne HO_5.out BK207.out (by decide))); have n1_ := Aside0.mk (hb); have n2_ := Aside0.mk (ho); clear BK207; clear HB; clear HO_5; have BK207 := n0_; have HB := n1_; have HO211 := n2_; clear n0_ n1_ n2_; clear ho hb hg hat)); try go_wp2_with (first | ((with_reducible refine gate_builtin (b := .append) (xs := #[.tmp 80, .tmp 86]) rfl ?_); (try (refine gate_guard (by rfl) ?_; dsimp only)); at_builtin; refine Kd.R_append k26 (w0 := w) w.heap.size rfl (.tmp 80) (.tmp 86) 22 26 (.agg #[(.int .i64 0), (.int .i64 0)]) 16 rfl Try.underlying22 info26 rfl (by decide) (by omega) u5 x5_1 (⟨ji20, ji21⟩ : S26) [.int .i64 ji20, .int .i64 ji21] (fun _ => True) (fun _ => False) rfl rfl ?aP (fun _ hk => hk.elim) ?aF ?aO ?aB ?aS ?aL ?_; (case aP => exact k26_mkM _ _ _ (⟨ji20, ji21⟩ : S26)); (case aB => exact ahx); (case aF => exact (fun _ _ => trivial)); (case aO => exact (by (with_reducible repeat (first | apply Kd.R_alloc | apply Kd.R_drewN | apply Kd.R_drew)); exact HO_5.out)); (case aS => exact (below_size ahx)); (case aL => have := LMc22.out; omega); intro v210 w23 ho hb hg hat; rw [← Ny209.out] at ho; have n0_ := Aside0.mk (blk_grown (g := gb207) (o := .cells #[.string a0_0, .slice A0_1 l0_1.length c0_1, .int .i64 a0_2, .slice (some ad208) l0_3.length c0_3, .slice A0_4 l0_4.length c0_4, .slice A0_5 l0_5.length c0_5, .slice A0_6 l0_6.length c0_6, .slice A0_7 l0_7.length c0_7, .slice A0_8 l0_8.length c0_8, .slice A0_9 l0_9.length c0_9, .int .i64 a0_10] 41 (0, 0)) abx hg (Kd.R_ne HO_5.out BK207.out (by decide))); have n1_ := Aside0.mk (hb); have n2_ := Aside0.mk (ho); clear BK207; clear HB; clear HO_5; have BK207 := n0_; have HB := n1_; have HO211 := n2_; clear n0_ n1_ n2_; clear ho hb hg hat)))
       go_roundg k2
       case measure => have := HK1.out; have := HK2.out; omega
       case rel => exact ⟨(y209), (wrap64 (x6_1 + 1)), (by first | rfl | (simp; done) | (simp [*]; done)), H', ⟨by have := HK1.out; have := HK2.out; omega⟩, ⟨by (with_reducible repeat (first | apply Kd.R_alloc | apply Kd.R_drewN | apply Kd.R_drew)); exact HO211.out⟩, ⟨by (with_reducible repeat (first | refine blk_drewN ?_ _ | refine blk_drew ?_ | refine blk_alloc ?_ _)); exact BK207.out⟩, ⟨ahx⟩⟩
     rw [if_pos c7] at H
     have c7b0 : decide (x10_2 < (((rd_T47 l0_3 x6_1).f11).length : Int)) = true := decide_eq_true c7
     clear c7; have HC8 := Aside0.mk H
     clear H; go_upto_region 11 with (fail)
     repeat (go_quiet (fail); go_upto_region 11 with (fail))
     go_cut [45] (fun v45 wc => ∃ (kq : Nat) (x45_7 : Bool), v45 = .bool x45_7 ∧ Aside0 (bourneref26_Mesh.j2 kq l1 x5_1 x6_1 x7_2 x8_2 ((rd_T47 l0_3 x6_1).f11) x10_2 x45_7 a0_0 l0_1 a0_2 l0_3 l0_4 l0_5 l0_6 l0_7 l0_8 l0_9 a0_10 = some r) ∧ Aside0 (kq ≤ k2) ∧ Aside0 (Kd.R k26 26 wc w.heap.size (fun _ => True) u5 x5_1) ∧ Aside0 (wc.heap[gb207]? = some (.cells #[.string a0_0, (.slice A0_1 l0_1.length c0_1), .int .i64 a0_2, (.slice (some ad208) l0_3.length c0_3), (.slice A0_4 l0_4.length c0_4), (.slice A0_5 l0_5.length c0_5), (.slice A0_6 l0_6.length c0_6), (.slice A0_7 l0_7.length c0_7), (.slice A0_8 l0_8.length c0_8), (.slice A0_9 l0_9.length c0_9), .int .i64 a0_10] 41 (0, 0))) ∧ Aside0 (Below w.heap.size w wc))
     case first =>
      have H := HC8.out; clear HC8
      by_cases c9 : 0 ≤ x10_2
      ·rw [if_pos c9] at H
       have c9b0 : decide (0 ≤ x10_2) = true := decide_eq_true c9
       clear c9; (first | rw [c9b0] | (simp only [i64_w, i32_w]; rw [c9b0]) | skip)
       by_cases c10 : ((rd_T49 ((rd_T47 l0_3 x6_1).f11) x10_2).f0) < 0
       ·rw [if_pos c10] at H
        have c10b0 : decide (((rd_T49 ((rd_T47 l0_3 x6_1).f11) x10_2).f0) < 0) = true := decide_eq_true c10
        clear c10
        as_aux_lemma =>
         have H' := Aside0.mk H; clear H; have p212 : 0 ≤ (x10_2 : Int) := of_decide_eq_true (by first | (with_reducible assumption) | assumption)
         have q212 : x10_2 < (((rd_T47 l0_3 x6_1).f11).length : Int) := of_decide_eq_true (by first | (with_reducible assumption) | assumption)
         obtain ⟨ad212, e212, hx212_0, hx212_1⟩ := at_T49 HR208_11.out x10_2 p212 q212
         cases e212
         replace hx212_0 := (HB.out.cell (World.block_lt_of_cell? w _ hx212_0)).trans hx212_0
         replace hx212_1 := (HB.out.cell (World.block_lt_of_cell? w _ hx212_1)).trans hx212_1
         replace p212 := eq_true p212
         replace q212 := eq_true q212
         go_wp2
         repeat (go_quiet (fail); try go_wp2)
         go_meet
         case rel => exact ⟨_, (true), (by first | rfl | (simp; done) | (simp [*]; done)), H', ⟨by have := HK1.out; have := HK2.out; first | omega | exact Nat.le_refl _⟩, ⟨by (with_reducible repeat (first | apply Kd.R_alloc | apply Kd.R_drewN | apply Kd.R_drew)); exact HO_5.out⟩, ⟨by (with_reducible repeat (first | refine blk_drewN ?_ _ | refine blk_drew ?_ | refine blk_alloc ?_ _)); exact BK207.out⟩, ⟨ahx⟩⟩
       rw [if_neg c10] at H
       have c10b0 : decide (((rd_T49 ((rd_T47 l0_3 x6_1).f11) x10_2).f0) < 0) = false := decide_eq_false c10
       clear c10
       as_aux_lemma =>
        have H' := Aside0.mk H; clear H; have p212 : 0 ≤ (x10_2 : Int) := of_decide_eq_true (by first | (with_reducible assumption) | assumption)
        have q212 : x10_2 < (((rd_T47 l0_3 x6_1).f11).length : Int) := of_decide_eq_true (by first | (with_reducible assumption) | assumption)
        obtain ⟨ad212, e212, hx212_0, hx212_1⟩ := at_T49 HR208_11.out x10_2 p212 q212
        cases e212
        replace hx212_0 := (HB.out.cell (World.block_lt_of_cell? w _ hx212_0)).trans hx212_0
        replace hx212_1 := (HB.out.cell (World.block_lt_of_cell? w _ hx212_1)).trans hx212_1
        replace p212 := eq_true p212
        replace q212 := eq_true q212
        have p213 : 0 ≤ (x10_2 : Int) := of_decide_eq_true (by first | (with_reducible assumption) | assumption)
        have q213 : x10_2 < (((rd_T47 l0_3 x6_1).f11).length : Int) := of_decide_eq_true (by first | (with_reducible assumption) | assumption)
        obtain ⟨ad213, e213, hx213_0, hx213_1⟩ := at_T49 HR208_11.out x10_2 p213 q213
        obtain rfl : ad212 = ad213 := (by injection e213)
        replace hx213_0 := (HB.out.cell (World.block_lt_of_cell? w _ hx213_0)).trans hx213_0
        replace hx213_1 := (HB.out.cell (World.block_lt_of_cell? w _ hx213_1)).trans hx213_1
        replace p213 := eq_true p213
        replace q213 := eq_true q213
        go_wp2
        repeat (go_quiet (fail); try go_wp2)
        go_meet
        case rel => exact ⟨_, (decide (((rd_T49 ((rd_T47 l0_3 x6_1).f11) x10_2).f0) ≥ (l1.length : Int))), (by first | rfl | (simp; done) | (simp [*]; done)), H', ⟨by have := HK1.out; have := HK2.out; first | omega | exact Nat.le_refl _⟩, ⟨by (with_reducible repeat (first | apply Kd.R_alloc | apply Kd.R_drewN | apply Kd.R_drew)); exact HO_5.out⟩, ⟨by (with_reducible repeat (first | refine blk_drewN ?_ _ | refine blk_drew ?_ | refine blk_alloc ?_ _)); exact BK207.out⟩, ⟨ahx⟩⟩
      ·rw [if_neg c9] at H
       exact absurd H (by simp)
     case rest =>
      clear HC8; try clear c1
      try clear c2
      try clear p2
      try clear q2
      try clear hx2
      try clear c4
      try clear c4b0
      try clear c5
      try clear c5b0
      try clear c7
      try clear c7b0
      try clear c9
      try clear c9b0
      try clear c10
      try clear c10b0
      try clear hcz6_0
      try clear hcz6_1
      try clear hcz6_10
      try clear hcz6_2
      try clear hcz6_3
      try clear hcz6_4
      try clear hcz6_5
      try clear hcz6_6
      try clear hcz6_7
      try clear hcz6_8
      try clear hcz6_9
      try clear hfz6_0
      try clear hfz6_1
      try clear hfz6_10
      try clear hfz6_2
      try clear hfz6_3
      try clear hfz6_4
      try clear hfz6_5
      try clear hfz6_6
      try clear hfz6_7
      try clear hfz6_8
      try clear hfz6_9
      try clear hx208_0
      try clear hx208_1
      try clear hx208_10
      try clear hx208_11
      try clear hx208_2
      try clear hx208_3
      try clear hx208_4
      try clear hx208_5
      try clear hx208_6
      try clear hx208_7
      try clear hx208_8
      try clear hx208_9
      try clear hx212_0
      try clear hx212_1
      try clear hx213_0
      try clear hx213_1
      try clear p2
      try clear p208
      try clear p212
      try clear p213
      try clear q2
      try clear q208
      try clear q212
      try clear q213
      obtain ⟨kq, x45_7, rfl, HA, HJ7, HO_5, BK207, HB⟩ := hcut
      cases kq with
      | zero => exact absurd HA.out (by simp [bourneref26_Mesh.j2])
      | succ kj7 =>
       have H := HA.out; clear HA; simp only [bourneref26_Mesh.j2] at H
       by_cases c11 : x45_7 = true
       ·subst c11; have H1 : (bourneref26_Mesh.l1 kj7 l1 x5_1 x6_1 x7_2 x8_2 ((rd_T47 l0_3 x6_1).f11) (wrap64 (x10_2 + 1)) a0_0 l0_1 a0_2 l0_3 l0_4 l0_5 l0_6 l0_7 l0_8 l0_9 a0_10) = some r := by rw [if_pos rfl] at H; exact H
        clear H; have H := H1; clear H1
        as_aux_lemma =>
         have H' := Aside0.mk H; clear H; go_wp2
         repeat (go_quiet (fail); try go_wp2)
         go_roundg kj7
         case measure => have := HK1.out; have := HK2.out; have := HJ7.out; omega
         case rel => exact ⟨(x7_2), (x8_2), (wrap64 (x10_2 + 1)), (by first | rfl | (simp; done) | (simp [*]; done)), (by first | rfl | (simp; done) | (simp [*]; done)), (by first | rfl | (simp; done) | (simp [*]; done)), H', ⟨by have := HK1.out; have := HK2.out; have := HJ7.out; omega⟩, ⟨by (with_reducible repeat (first | apply Kd.R_alloc | apply Kd.R_drewN | apply Kd.R_drew)); exact HO_5.out⟩, ⟨by (with_reducible repeat (first | refine blk_drewN ?_ _ | refine blk_drew ?_ | refine blk_alloc ?_ _)); exact BK207.out⟩, ⟨ahx⟩⟩
       replace c11 := Bool.eq_false_iff.mpr c11
       subst c11; have H1 : (if 0 ≤ x10_2 then (if x10_2 < (((rd_T47 l0_3 x6_1).f11).length : Int) then (if 0 ≤ ((rd_T49 ((rd_T47 l0_3 x6_1).f11) x10_2).f0) then (if ((rd_T49 ((rd_T47 l0_3 x6_1).f11) x10_2).f0) < (l1.length : Int) then ((bourneref26_Litres.f kj7 ((rd_T26 l1 ((rd_T49 ((rd_T47 l0_3 x6_1).f11) x10_2).f0)).f0) ((rd_T49 ((rd_T47 l0_3 x6_1).f11) x10_2).f1)).bind fun t217 => ((bourneref01_Add.f x7_2 t217).bind fun t218 => ((bourneref26_Litres.f kj7 ((rd_T26 l1 ((rd_T49 ((rd_T47 l0_3 x6_1).f11) x10_2).f0)).f1) ((rd_T49 ((rd_T47 l0_3 x6_1).f11) x10_2).f1)).bind fun t222 => ((bourneref01_Add.f x8_2 t222).bind fun t223 => (bourneref26_Mesh.l1 kj7 l1 x5_1 x6_1 t218 t223 ((rd_T47 l0_3 x6_1).f11) (wrap64 (x10_2 + 1)) a0_0 l0_1 a0_2 l0_3 l0_4 l0_5 l0_6 l0_7 l0_8 l0_9 a0_10))))) else (none)) else (none)) else (none)) else (none)) = some r := by rw [if_neg (show ¬ (false = true) by decide)] at H; exact H
       clear H; have H := H1; clear H1
       by_cases c12 : 0 ≤ x10_2
       rotate_left
       ·rw [if_neg c12] at H
        exact absurd H (by simp)
       rw [if_pos c12] at H
       have c12b0 : decide (0 ≤ x10_2) = true := decide_eq_true c12
       clear c12
       by_cases c13 : x10_2 < (((rd_T47 l0_3 x6_1).f11).length : Int)
       rotate_left
       ·rw [if_neg c13] at H
        exact absurd H (by simp)
       rw [if_pos c13] at H
       have c13b0 : decide (x10_2 < (((rd_T47 l0_3 x6_1).f11).length : Int)) = true := decide_eq_true c13
       clear c13
       by_cases c14 : 0 ≤ ((rd_T49 ((rd_T47 l0_3 x6_1).f11) x10_2).f0)
       rotate_left
       ·rw [if_neg c14] at H
        exact absurd H (by simp)
       rw [if_pos c14] at H
       have c14b0 : decide (0 ≤ ((rd_T49 ((rd_T47 l0_3 x6_1).f11) x10_2).f0)) = true := decide_eq_true c14
       clear c14
       by_cases c15 : ((rd_T49 ((rd_T47 l0_3 x6_1).f11) x10_2).f0) < (l1.length : Int)
       rotate_left
       ·rw [if_neg c15] at H
        exact absurd H (by simp)
       rw [if_pos c15] at H
       have c15b0 : decide (((rd_T49 ((rd_T47 l0_3 x6_1).f11) x10_2).f0) < (l1.length : Int)) = true := decide_eq_true c15
       clear c15; replace H := Option.bind_eq_some_iff.mp H; obtain ⟨t217, A160, H⟩ := H; replace H : ((bourneref01_Add.f x7_2 t217).bind fun t218 => ((bourneref26_Litres.f kj7 ((rd_T26 l1 ((rd_T49 ((rd_T47 l0_3 x6_1).f11) x10_2).f0)).f1) ((rd_T49 ((rd_T47 l0_3 x6_1).f11) x10_2).f1)).bind fun t222 => ((bourneref01_Add.f x8_2 t222).bind fun t223 => (bourneref26_Mesh.l1 kj7 l1 x5_1 x6_1 t218 t223 ((rd_T47 l0_3 x6_1).f11) (wrap64 (x10_2 + 1)) a0_0 l0_1 a0_2 l0_3 l0_4 l0_5 l0_6 l0_7 l0_8 l0_9 a0_10)))) = some r := H
       have A16 := Aside0.mk A160
       clear A160; replace H := Option.bind_eq_some_iff.mp H; obtain ⟨t218, A170, H⟩ := H; replace H : ((bourneref26_Litres.f kj7 ((rd_T26 l1 ((rd_T49 ((rd_T47 l0_3 x6_1).f11) x10_2).f0)).f1) ((rd_T49 ((rd_T47 l0_3 x6_1).f11) x10_2).f1)).bind fun t222 => ((bourneref01_Add.f x8_2 t222).bind fun t223 => (bourneref26_Mesh.l1 kj7 l1 x5_1 x6_1 t218 t223 ((rd_T47 l0_3 x6_1).f11) (wrap64 (x10_2 + 1)) a0_0 l0_1 a0_2 l0_3 l0_4 l0_5 l0_6 l0_7 l0_8 l0_9 a0_10))) = some r := H
       have A17 := Aside0.mk A170
       clear A170; replace H := Option.bind_eq_some_iff.mp H; obtain ⟨t222, A180, H⟩ := H; replace H : ((bourneref01_Add.f x8_2 t222).bind fun t223 => (bourneref26_Mesh.l1 kj7 l1 x5_1 x6_1 t218 t223 ((rd_T47 l0_3 x6_1).f11) (wrap64 (x10_2 + 1)) a0_0 l0_1 a0_2 l0_3 l0_4 l0_5 l0_6 l0_7 l0_8 l0_9 a0_10)) = some r := H
       have A18 := Aside0.mk A180
       clear A180; replace H := Option.bind_eq_some_iff.mp H; obtain ⟨t223, A190, H⟩ := H; replace H : (bourneref26_Mesh.l1 kj7 l1 x5_1 x6_1 t218 t223 ((rd_T47 l0_3 x6_1).f11) (wrap64 (x10_2 + 1)) a0_0 l0_1 a0_2 l0_3 l0_4 l0_5 l0_6 l0_7 l0_8 l0_9 a0_10) = some r := H
       have A19 := Aside0.mk A190
       clear A190
       as_aux_lemma =>
        have H' := Aside0.mk H; clear H; have p214 : 0 ≤ (x10_2 : Int) := of_decide_eq_true (by first | (with_reducible assumption) | assumption)
        have q214 : x10_2 < (((rd_T47 l0_3 x6_1).f11).length : Int) := of_decide_eq_true (by first | (with_reducible assumption) | assumption)
        obtain ⟨ad214, e214, hx214_0, hx214_1⟩ := at_T49 HR208_11.out x10_2 p214 q214
        cases e214
        replace hx214_0 := (HB.out.cell (World.block_lt_of_cell? w _ hx214_0)).trans hx214_0
        replace hx214_1 := (HB.out.cell (World.block_lt_of_cell? w _ hx214_1)).trans hx214_1
        replace p214 := eq_true p214
        replace q214 := eq_true q214
        have p215 : 0 ≤ (((rd_T49 ((rd_T47 l0_3 x6_1).f11) x10_2).f0) : Int) := of_decide_eq_true (by first | (with_reducible assumption) | assumption)
        have q215 : ((rd_T49 ((rd_T47 l0_3 x6_1).f11) x10_2).f0) < (l1.length : Int) := of_decide_eq_true (by first | (with_reducible assumption) | assumption)
        obtain ⟨ad215, e215, hx215_0, hx215_1⟩ := at_T26 HR1.out ((rd_T49 ((rd_T47 l0_3 x6_1).f11) x10_2).f0) p215 q215
        cases e215
        replace hx215_0 := (HB.out.cell (World.block_lt_of_cell? w _ hx215_0)).trans hx215_0
        replace hx215_1 := (HB.out.cell (World.block_lt_of_cell? w _ hx215_1)).trans hx215_1
        replace p215 := eq_true p215
        replace q215 := eq_true q215
        have p216 : 0 ≤ (x10_2 : Int) := of_decide_eq_true (by first | (with_reducible assumption) | assumption)
        have q216 : x10_2 < (((rd_T47 l0_3 x6_1).f11).length : Int) := of_decide_eq_true (by first | (with_reducible assumption) | assumption)
        obtain ⟨ad216, e216, hx216_0, hx216_1⟩ := at_T49 HR208_11.out x10_2 p216 q216
        obtain rfl : ad214 = ad216 := (by injection e216)
        replace hx216_0 := (HB.out.cell (World.block_lt_of_cell? w _ hx216_0)).trans hx216_0
        replace hx216_1 := (HB.out.cell (World.block_lt_of_cell? w _ hx216_1)).trans hx216_1
        replace p216 := eq_true p216
        replace q216 := eq_true q216
        go_wp2_with (first | (go_at_call 36; (with_reducible refine (bourneref26_Litres.calls kj7 ((rd_T26 l1 ((rd_T49 ((rd_T47 l0_3 x6_1).f11) x10_2).f0)).f0) ((rd_T49 ((rd_T47 l0_3 x6_1).f11) x10_2).f1) t217 _ A16.out).mono ?_); rintro e w' ⟨rfl, ⟨nd, rfl⟩⟩; (try first | exact ⟨rfl, _, World.drewN_drewN _ _ _⟩ | exact ⟨rfl, _, Eq.trans (World.drewN_drewN _ _ _) (congrArg (World.drewN _) (Nat.add_assoc _ _ _))⟩)) | (go_at_call 35; (with_reducible refine (bourneref01_Add.calls x7_2 t217 t218 _ A17.out).mono ?_); rintro e w' ⟨rfl, ⟨nd, rfl⟩⟩; (try first | exact ⟨rfl, _, World.drewN_drewN _ _ _⟩ | exact ⟨rfl, _, Eq.trans (World.drewN_drewN _ _ _) (congrArg (World.drewN _) (Nat.add_assoc _ _ _))⟩); have p219 : 0 ≤ (x10_2 : Int) := of_decide_eq_true (by first | (with_reducible assumption) | assumption); have q219 : x10_2 < (((rd_T47 l0_3 x6_1).f11).length : Int) := of_decide_eq_true (by first | (with_reducible assumption) | assumption); obtain ⟨ad219, e219, hx219_0, hx219_1⟩ := at_T49 HR208_11.out x10_2 p219 q219; obtain rfl : ad214 = ad219 := (by injection e219); replace hx219_0 := (HB.out.cell (World.block_lt_of_cell? w _ hx219_0)).trans hx219_0; replace hx219_1 := (HB.out.cell (World.block_lt_of_cell? w _ hx219_1)).trans hx219_1; replace p219 := eq_true p219; replace q219 := eq_true q219; have p220 : 0 ≤ (((rd_T49 ((rd_T47 l0_3 x6_1).f11) x10_2).f0) : Int) := of_decide_eq_true (by first | (with_reducible assumption) | assumption); have q220 : ((rd_T49 ((rd_T47 l0_3 x6_1).f11) x10_2).f0) < (l1.length : Int) := of_decide_eq_true (by first | (with_reducible assumption) | assumption); obtain ⟨ad220, e220, hx220_0, hx220_1⟩ := at_T26 HR1.out ((rd_T49 ((rd_T47 l0_3 x6_1).f11) x10_2).f0) p220 q220; obtain rfl : ad215 = ad220 := (by injection e220); replace hx220_0 := (HB.out.cell (World.block_lt_of_cell? w _ hx220_0)).trans hx220_0; replace hx220_1 := (HB.out.cell (World.block_lt_of_cell? w _ hx220_1)).trans hx220_1; replace p220 := eq_true p220; replace q220 := eq_true q220; have p221 : 0 ≤ (x10_2 : Int) := of_decide_eq_true (by first | (with_reducible assumption) | assumption); have q221 : x10_2 < (((rd_T47 l0_3 x6_1).f11).length : Int) := of_decide_eq_true (by first | (with_reducible assumption) | assumption); obtain ⟨ad221, e221, hx221_0, hx221_1⟩ := at_T49 HR208_11.out x10_2 p221 q221; obtain rfl : ad214 = ad221 := (by injection e221); replace hx221_0 := (HB.out.cell (World.block_lt_of_cell? w _ hx221_0)).trans hx221_0; replace hx221_1 := (HB.out.cell (World.block_lt_of_cell? w _ hx221_1)).trans hx221_1; replace p221 := eq_true p221; replace q221 := eq_true q221) | (go_at_call 36; (with_reducible refine (bourneref26_Litres.calls kj7 ((rd_T26 l1 ((rd_T49 ((rd_T47 l0_3 x6_1).f11) x10_2).f0)).f1) ((rd_T49 ((rd_T47 l0_3 x6_1).f11) x10_2).f1) t222 _ A18.out).mono ?_); rintro e w' ⟨rfl, ⟨nd, rfl⟩⟩; (try first | exact ⟨rfl, _, World.drewN_drewN _ _ _⟩ | exact ⟨rfl, _, Eq.trans (World.drewN_drewN _ _ _) (congrArg (World.drewN _) (Nat.add_assoc _ _ _))⟩)) | (go_at_call 35; (with_reducible refine (bourneref01_Add.calls x8_2 t222 t223 _ A19.out).mono ?_); rintro e w' ⟨rfl, ⟨nd, rfl⟩⟩; (try first | exact ⟨rfl, _, World.drewN_drewN _ _ _⟩ | exact ⟨rfl, _, Eq.trans (World.drewN_drewN _ _ _) (congrArg (World.drewN _) (Nat.add_assoc _ _ _))⟩)))
        repeat (go_quiet (first | (go_at_call 36; exact Calls.quiet_of ((bourneref26_Litres.calls kj7 ((rd_T26 l1 ((rd_T49 ((rd_T47 l0_3 x6_1).f11) x10_2).f0)).f0) ((rd_T49 ((rd_T47 l0_3 x6_1).f11) x10_2).f1) t217 _ A16.out).mono fun e w' h => ⟨h.1, h.2.out⟩)) | (go_at_call 36; (with_reducible refine (bourneref26_Litres.calls kj7 ((rd_T26 l1 ((rd_T49 ((rd_T47 l0_3 x6_1).f11) x10_2).f0)).f0) ((rd_T49 ((rd_T47 l0_3 x6_1).f11) x10_2).f1) t217 _ A16.out).mono ?_); rintro e w' ⟨rfl, ⟨nd, rfl⟩⟩; (try first | exact ⟨rfl, _, World.drewN_drewN _ _ _⟩ | exact ⟨rfl, _, Eq.trans (World.drewN_drewN _ _ _) (congrArg (World.drewN _) (Nat.add_assoc _ _ _))⟩)) | (go_at_call 35; exact Calls.quiet_of ((bourneref01_Add.calls x7_2 t217 t218 _ A17.out).mono fun e w' h => ⟨h.1, h.2.out⟩)) | (go_at_call 35; (with_reducible refine (bourneref01_Add.calls x7_2 t217 t218 _ A17.out).mono ?_); rintro e w' ⟨rfl, ⟨nd, rfl⟩⟩; (try first | exact ⟨rfl, _, World.drewN_drewN _ _ _⟩ | exact ⟨rfl, _, Eq.trans (World.drewN_drewN _ _ _) (congrArg (World.drewN _) (Nat.add_assoc _ _ _))⟩); have p219 : 0 ≤ (x10_2 : Int) := of_decide_eq_true (by first | (with_reducible assumption) | assumption); have q219 : x10_2 < (((rd_T47 l0_3 x6_1).f11).length : Int) := of_decide_eq_true (by first | (with_reducible assumption) | assumption); obtain ⟨ad219, e219, hx219_0, hx219_1⟩ := at_T49 HR208_11.out x10_2 p219 q219; obtain rfl : ad214 = ad219 := (by injection e219); replace hx219_0 := (HB.out.cell (World.block_lt_of_cell? w _ hx219_0)).trans hx219_0; replace hx219_1 := (HB.out.cell (World.block_lt_of_cell? w _ hx219_1)).trans hx219_1; replace p219 := eq_true p219; replace q219 := eq_true q219; have p220 : 0 ≤ (((rd_T49 ((rd_T47 l0_3 x6_1).f11) x10_2).f0) : Int) := of_decide_eq_true (by first | (with_reducible assumption) | assumption); have q220 : ((rd_T49 ((rd_T47 l0_3 x6_1).f11) x10_2).f0) < (l1.length : Int) := of_decide_eq_true (by first | (with_reducible assumption) | assumption); obtain ⟨ad220, e220, hx220_0, hx220_1⟩ := at_T26 HR1.out ((rd_T49 ((rd_T47 l0_3 x6_1).f11) x10_2).f0) p220 q220; obtain rfl : ad215 = ad220 := (by injection e220); replace hx220_0 := (HB.out.cell (World.block_lt_of_cell? w _ hx220_0)).trans hx220_0; replace hx220_1 := (HB.out.cell (World.block_lt_of_cell? w _ hx220_1)).trans hx220_1; replace p220 := eq_true p220; replace q220 := eq_true q220; have p221 : 0 ≤ (x10_2 : Int) := of_decide_eq_true (by first | (with_reducible assumption) | assumption); have q221 : x10_2 < (((rd_T47 l0_3 x6_1).f11).length : Int) := of_decide_eq_true (by first | (with_reducible assumption) | assumption); obtain ⟨ad221, e221, hx221_0, hx221_1⟩ := at_T49 HR208_11.out x10_2 p221 q221; obtain rfl : ad214 = ad221 := (by injection e221); replace hx221_0 := (HB.out.cell (World.block_lt_of_cell? w _ hx221_0)).trans hx221_0; replace hx221_1 := (HB.out.cell (World.block_lt_of_cell? w _ hx221_1)).trans hx221_1; replace p221 := eq_true p221; replace q221 := eq_true q221) | (go_at_call 36; exact Calls.quiet_of ((bourneref26_Litres.calls kj7 ((rd_T26 l1 ((rd_T49 ((rd_T47 l0_3 x6_1).f11) x10_2).f0)).f1) ((rd_T49 ((rd_T47 l0_3 x6_1).f11) x10_2).f1) t222 _ A18.out).mono fun e w' h => ⟨h.1, h.2.out⟩)) | (go_at_call 36; (with_reducible refine (bourneref26_Litres.calls kj7 ((rd_T26 l1 ((rd_T49 ((rd_T47 l0_3 x6_1).f11) x10_2).f0)).f1) ((rd_T49 ((rd_T47 l0_3 x6_1).f11) x10_2).f1) t222 _ A18.out).mono ?_); rintro e w' ⟨rfl, ⟨nd, rfl⟩⟩; (try first | exact ⟨rfl, _, World.drewN_drewN _ _ _⟩ | exact ⟨rfl, _, Eq.trans (World.drewN_drewN _ _ _) (congrArg (World.drewN _) (Nat.add_assoc _ _ _))⟩)) | (go_at_call 35; exact Calls.quiet_of ((bourneref01_Add.calls x8_2 t222 t223 _ A19.out).mono fun e w' h => ⟨h.1, h.2.out⟩)) | (go_at_call 35; (with_reducible refine (bourneref01_Add.calls x8_2 t222 t223 _ A19.out).mono ?_); rintro e w' ⟨rfl, ⟨nd, rfl⟩⟩; (try first | exact ⟨rfl, _, World.drewN_drewN _ _ _⟩ | exact ⟨rfl, _, Eq.trans (World.drewN_drewN _ _ _) (congrArg (World.drewN _) (Nat.add_assoc _ _ _))⟩))); try go_wp2_with (first | (go_at_call 36; (with_reducible refine (bourneref26_Litres.calls kj7 ((rd_T26 l1 ((rd_T49 ((rd_T47 l0_3 x6_1).f11) x10_2).f0)).f0) ((rd_T49 ((rd_T47 l0_3 x6_1).f11) x10_2).f1) t217 _ A16.out).mono ?_); rintro e w' ⟨rfl, ⟨nd, rfl⟩⟩; (try first | exact ⟨rfl, _, World.drewN_drewN _ _ _⟩ | exact ⟨rfl, _, Eq.trans (World.drewN_drewN _ _ _) (congrArg (World.drewN _) (Nat.add_assoc _ _ _))⟩)) | (go_at_call 35; (with_reducible refine (bourneref01_Add.calls x7_2 t217 t218 _ A17.out).mono ?_); rintro e w' ⟨rfl, ⟨nd, rfl⟩⟩; (try first | exact ⟨rfl, _, World.drewN_drewN _ _ _⟩ | exact ⟨rfl, _, Eq.trans (World.drewN_drewN _ _ _) (congrArg (World.drewN _) (Nat.add_assoc _ _ _))⟩); have p219 : 0 ≤ (x10_2 : Int) := of_decide_eq_true (by first | (with_reducible assumption) | assumption); have q219 : x10_2 < (((rd_T47 l0_3 x6_1).f11).length : Int) := of_decide_eq_true (by first | (with_reducible assumption) | assumption); obtain ⟨ad219, e219, hx219_0, hx219_1⟩ := at_T49 HR208_11.out x10_2 p219 q219; obtain rfl : ad214 = ad219 := (by injection e219); replace hx219_0 := (HB.out.cell (World.block_lt_of_cell? w _ hx219_0)).trans hx219_0; replace hx219_1 := (HB.out.cell (World.block_lt_of_cell? w _ hx219_1)).trans hx219_1; replace p219 := eq_true p219; replace q219 := eq_true q219; have p220 : 0 ≤ (((rd_T49 ((rd_T47 l0_3 x6_1).f11) x10_2).f0) : Int) := of_decide_eq_true (by first | (with_reducible assumption) | assumption); have q220 : ((rd_T49 ((rd_T47 l0_3 x6_1).f11) x10_2).f0) < (l1.length : Int) := of_decide_eq_true (by first | (with_reducible assumption) | assumption); obtain ⟨ad220, e220, hx220_0, hx220_1⟩ := at_T26 HR1.out ((rd_T49 ((rd_T47 l0_3 x6_1).f11) x10_2).f0) p220 q220; obtain rfl : ad215 = ad220 := (by injection e220); replace hx220_0 := (HB.out.cell (World.block_lt_of_cell? w _ hx220_0)).trans hx220_0; replace hx220_1 := (HB.out.cell (World.block_lt_of_cell? w _ hx220_1)).trans hx220_1; replace p220 := eq_true p220; replace q220 := eq_true q220; have p221 : 0 ≤ (x10_2 : Int) := of_decide_eq_true (by first | (with_reducible assumption) | assumption); have q221 : x10_2 < (((rd_T47 l0_3 x6_1).f11).length : Int) := of_decide_eq_true (by first | (with_reducible assumption) | assumption); obtain ⟨ad221, e221, hx221_0, hx221_1⟩ := at_T49 HR208_11.out x10_2 p221 q221; obtain rfl : ad214 = ad221 := (by injection e221); replace hx221_0 := (HB.out.cell (World.block_lt_of_cell? w _ hx221_0)).trans hx221_0; replace hx221_1 := (HB.out.cell (World.block_lt_of_cell? w _ hx221_1)).trans hx221_1; replace p221 := eq_true p221; replace q221 := eq_true q221) | (go_at_call 36; (with_reducible refine (bourneref26_Litres.calls kj7 ((rd_T26 l1 ((rd_T49 ((rd_T47 l0_3 x6_1).f11) x10_2).f0)).f1) ((rd_T49 ((rd_T47 l0_3 x6_1).f11) x10_2).f1) t222 _ A18.out).mono ?_); rintro e w' ⟨rfl, ⟨nd, rfl⟩⟩; (try first | exact ⟨rfl, _, World.drewN_drewN _ _ _⟩ | exact ⟨rfl, _, Eq.trans (World.drewN_drewN _ _ _) (congrArg (World.drewN _) (Nat.add_assoc _ _ _))⟩)) | (go_at_call 35; (with_reducible refine (bourneref01_Add.calls x8_2 t222 t223 _ A19.out).mono ?_); rintro e w' ⟨rfl, ⟨nd, rfl⟩⟩; (try first | exact ⟨rfl, _, World.drewN_drewN _ _ _⟩ | exact ⟨rfl, _, Eq.trans (World.drewN_drewN _ _ _) (congrArg (World.drewN _) (Nat.add_assoc _ _ _))⟩))))
        go_roundg kj7
        case measure => have := HK1.out; have := HK2.out; have := HJ7.out; omega
        case rel => exact ⟨(t218), (t223), (wrap64 (x10_2 + 1)), (by first | rfl | (simp; done) | (simp [*]; done)), (by first | rfl | (simp; done) | (simp [*]; done)), (by first | rfl | (simp; done) | (simp [*]; done)), H', ⟨by have := HK1.out; have := HK2.out; have := HJ7.out; omega⟩, ⟨by (with_reducible repeat (first | apply Kd.R_alloc | apply Kd.R_drewN | apply Kd.R_drew)); exact HO_5.out⟩, ⟨by (with_reducible repeat (first | refine blk_drewN ?_ _ | refine blk_drew ?_ | refine blk_alloc ?_ _)); exact BK207.out⟩, ⟨ahx⟩⟩

end Go.Proofs.Ytcdlielgifkemaa.C
