-- Written by a program of this session (wip/tools/pp.py) out of the translation; Lean checks it.
import Derived.Test.YtcdlielgifkemaaCx0
import Derived.Test.YtcdlielgifkemaaCx2
import Derived.Test.YtcdlielgifkemaaCx3
namespace Go.Proofs.Ytcdlielgifkemaa.C
open Go.RowKit Go.Proofs.YtcdlielgifkemaaW.PrintWords Go.Proofs.YtcdlielgifkemaaW.PrintLast Go.Proofs.YtcdlielgifkemaaW.PrintMore
open Go.Proofs.Ytcdlielgifkemaa.S
attribute [local go_sem] max2_int min2_int max_two min_two max_three min_three max_four min_four   -- for this text's walks alone
open Bool renaming true → Z, false → O
set_option linter.unusedVariables false
set_option linter.unusedSimpArgs false

/-! ### rain_Cells: function 18 -/
mutual
def rain_Cells.l0 : Nat → List Int → Int → List (S63) → List (S26) → Int → Int → ByteArray → List ByteArray → Int → List (S47) → List (S104) → List (S106) → List (S67) → List (S108) → List (S110) → List Int → Int → Option ((List (S26)))
 | 0, _, _, _, _, _, _, _, _, _, _, _, _, _, _, _, _, _ => none
 | k + 1, x1, x2, x3, x9, x19, x20, x148000, x148001, x148002, x148003, x148004, x148005, x148006, x148007, x148008, x148009, x148010 => if x20 < x19 then (if x20 < (x1.length : Int) then (if 0 ≤ x20 then (rain_Cells.j1 k x1 x2 x3 x9 (rd x1 x20) x19 x20 x148000 x148001 x148002 x148003 x148004 x148005 x148006 x148007 x148008 x148009 x148010) else (none)) else (rain_Cells.j1 k x1 x2 x3 x9 0 x19 x20 x148000 x148001 x148002 x148003 x148004 x148005 x148006 x148007 x148008 x148009 x148010)) else (rain_Cells.l1 k x9 x3 (x3.length : Int) 0 x148000 x148001 x148002 x148003 x148004 x148005 x148006 x148007 x148008 x148009 x148010)
def rain_Cells.j1 : Nat → List Int → Int → List (S63) → List (S26) → Int → Int → Int → ByteArray → List ByteArray → Int → List (S47) → List (S104) → List (S106) → List (S67) → List (S108) → List (S110) → List Int → Int → Option ((List (S26)))
 | 0, _, _, _, _, _, _, _, _, _, _, _, _, _, _, _, _, _, _ => none
 | k + 1, x1, x2, x3, x9, x11, x19, x20, x148000, x148001, x148002, x148003, x148004, x148005, x148006, x148007, x148008, x148009, x148010 => (rain_radarSpan.f k x11 x2).bind fun bt150 => (if x9.length < 8796093022208 then (rain_Cells.l0 k x1 x2 x3 (x9 ++ [(⟨bt150.1, bt150.2⟩ : S26)]) x19 (wrap64 (x20 + 1)) x148000 x148001 x148002 x148003 x148004 x148005 x148006 x148007 x148008 x148009 x148010) else (none))
def rain_Cells.l1 : Nat → List (S26) → List (S63) → Int → Int → ByteArray → List ByteArray → Int → List (S47) → List (S104) → List (S106) → List (S67) → List (S108) → List (S110) → List Int → Int → Option ((List (S26)))
 | 0, _, _, _, _, _, _, _, _, _, _, _, _, _, _, _ => none
 | k + 1, x9, x38, x39, x40, x148000, x148001, x148002, x148003, x148004, x148005, x148006, x148007, x148008, x148009, x148010 => if x40 < x39 then (if 0 ≤ x40 then (if x40 < (x38.length : Int) then (if ((rd_T63 x38 x40).f0) < 0 then (rain_Cells.j3 k x9 x38 x39 x40 true x148000 x148001 x148002 x148003 x148004 x148005 x148006 x148007 x148008 x148009 x148010 ((rd_T63 x38 x40).f0) ((rd_T63 x38 x40).f1) ((rd_T63 x38 x40).f2.f0) ((rd_T63 x38 x40).f2.f1)) else (if ((rd_T63 x38 x40).f0) ≥ (x148006.length : Int) then (rain_Cells.j3 k x9 x38 x39 x40 true x148000 x148001 x148002 x148003 x148004 x148005 x148006 x148007 x148008 x148009 x148010 ((rd_T63 x38 x40).f0) ((rd_T63 x38 x40).f1) ((rd_T63 x38 x40).f2.f0) ((rd_T63 x38 x40).f2.f1)) else (if 0 ≤ ((rd_T63 x38 x40).f0) then (if ((rd_T63 x38 x40).f0) < (x148006.length : Int) then (rain_Cells.j3 k x9 x38 x39 x40 (((rd_T67 x148006 ((rd_T63 x38 x40).f0)).f1) != 1) x148000 x148001 x148002 x148003 x148004 x148005 x148006 x148007 x148008 x148009 x148010 ((rd_T63 x38 x40).f0) ((rd_T63 x38 x40).f1) ((rd_T63 x38 x40).f2.f0) ((rd_T63 x38 x40).f2.f1)) else (none)) else (none)))) else (none)) else (none)) else (some x9)
def rain_Cells.j3 : Nat → List (S26) → List (S63) → Int → Int → Bool → ByteArray → List ByteArray → Int → List (S47) → List (S104) → List (S106) → List (S67) → List (S108) → List (S110) → List Int → Int → Int → Int → Int → Int → Option ((List (S26)))
 | 0, _, _, _, _, _, _, _, _, _, _, _, _, _, _, _, _, _, _, _, _ => none
 | k + 1, x9, x38, x39, x40, x64, x148000, x148001, x148002, x148003, x148004, x148005, x148006, x148007, x148008, x148009, x148010, x157000, x157001, x157002, x157003 => if x64 = true then (rain_Cells.l1 k x9 x38 x39 (wrap64 (x40 + 1)) x148000 x148001 x148002 x148003 x148004 x148005 x148006 x148007 x148008 x148009 x148010) else (if 0 ≤ x157000 then (if x157000 < (x148006.length : Int) then (if ((rd_T67 x148006 x157000).f2) < 0 then (rain_Cells.j4 k x9 ((rd_T67 x148006 x157000).f2) x38 x39 x40 true x148000 x148001 x148002 x148003 x148004 x148005 x148006 x148007 x148008 x148009 x148010 x157000 x157001 x157002 x157003) else (if ((rd_T67 x148006 x157000).f2) ≥ (x9.length : Int) then (rain_Cells.j4 k x9 ((rd_T67 x148006 x157000).f2) x38 x39 x40 true x148000 x148001 x148002 x148003 x148004 x148005 x148006 x148007 x148008 x148009 x148010 x157000 x157001 x157002 x157003) else ((span_Right.f x157002 x157003).bind fun t159 => (rain_Cells.j4 k x9 ((rd_T67 x148006 x157000).f2) x38 x39 x40 (!t159) x148000 x148001 x148002 x148003 x148004 x148005 x148006 x148007 x148008 x148009 x148010 x157000 x157001 x157002 x157003)))) else (none)) else (none))
def rain_Cells.j4 : Nat → List (S26) → Int → List (S63) → Int → Int → Bool → ByteArray → List ByteArray → Int → List (S47) → List (S104) → List (S106) → List (S67) → List (S108) → List (S110) → List Int → Int → Int → Int → Int → Int → Option ((List (S26)))
 | 0, _, _, _, _, _, _, _, _, _, _, _, _, _, _, _, _, _, _, _, _, _ => none
 | k + 1, x9, x14, x38, x39, x40, x85, x148000, x148001, x148002, x148003, x148004, x148005, x148006, x148007, x148008, x148009, x148010, x157000, x157001, x157002, x157003 => if x85 = true then (rain_Cells.l1 k x9 x38 x39 (wrap64 (x40 + 1)) x148000 x148001 x148002 x148003 x148004 x148005 x148006 x148007 x148008 x148009 x148010) else (if 0 ≤ x14 then (if x14 < (x9.length : Int) then ((span_Meet.f ((rd_T26 x9 x14).f0) ((rd_T26 x9 x14).f1) x157002 x157003).bind fun bt161 => (if bt161.2.2 = true then (rain_Cells.l1 k (x9.set (x14 : Int).toNat (⟨bt161.1, bt161.2.1⟩ : S26)) x38 x39 (wrap64 (x40 + 1)) x148000 x148001 x148002 x148003 x148004 x148005 x148006 x148007 x148008 x148009 x148010) else (rain_Cells.l1 k x9 x38 x39 (wrap64 (x40 + 1)) x148000 x148001 x148002 x148003 x148004 x148005 x148006 x148007 x148008 x148009 x148010))) else (none)) else (none))
end
def rain_Cells.f (k : Nat) (a0_0 : ByteArray) (l0_1 : List ByteArray) (a0_2 : Int) (l0_3 : List (S47)) (l0_4 : List (S104)) (l0_5 : List (S106)) (l0_6 : List (S67)) (l0_7 : List (S108)) (l0_8 : List (S110)) (l0_9 : List Int) (a0_10 : Int) (l1 : List Int) (a2 : Int) (l3 : List (S63)) : Option ((List (S26))) := (exact_Clamp.f a0_2 0 64).bind fun t148 => (rain_Cells.l0 k l1 a2 l3 ([] : List (S26)) t148 0 a0_0 l0_1 a0_2 l0_3 l0_4 l0_5 l0_6 l0_7 l0_8 l0_9 a0_10)
def rain_Cells.T16 : Bool × List (List Nat × List Nat) := (true, [([], []), ([], []), ([0, 1], [0, 1]), ([2], [2]), ([], []), ([4], [4]), ([3, 5], [3, 5]), ([6], [6]), ([7], [7]), ([7], [7]), ([], []), ([10, 8, 6, 0, 1, 2, 3, 4, 5, 6, 7, 8, 10], [8, 10]), ([9, 11, 0, 1, 2, 3, 4, 5, 6, 7, 8, 9, 10, 11], [9])])
def rain_Cells.B16 : List Nat := [0, 0, 3, 7, 0, 16, 63, 127, 255, 255, 0, 1535, 4095]
theorem rain_Cells.tab16 : rtab .any (opsOf Try.f18 16) = rain_Cells.T16 := by kernel_rfl
theorem rain_Cells.bits16 : waitsOk rain_Cells.T16.2 rain_Cells.B16 = true := by kernel_rfl
set_option maxHeartbeats 8000000 in
set_option maxRecDepth 100000 in
theorem rain_Cells.calls (k : Nat) (a0_0 : ByteArray) (A0_1 : Option Addr) (c0_1 : Nat) (l0_1 : List ByteArray) (a0_2 : Int) (A0_3 : Option Addr) (c0_3 : Nat) (l0_3 : List (S47)) (A0_4 : Option Addr) (c0_4 : Nat) (l0_4 : List (S104)) (A0_5 : Option Addr) (c0_5 : Nat) (l0_5 : List (S106)) (A0_6 : Option Addr) (c0_6 : Nat) (l0_6 : List (S67)) (A0_7 : Option Addr) (c0_7 : Nat) (l0_7 : List (S108)) (A0_8 : Option Addr) (c0_8 : Nat) (l0_8 : List (S110)) (A0_9 : Option Addr) (c0_9 : Nat) (l0_9 : List Int) (a0_10 : Int) (A1 : Option Addr) (c1 : Nat) (l1 : List Int) (a2 : Int) (A3 : Option Addr) (c3 : Nat) (l3 : List (S63)) (r : List (S26)) (w : World) (hr0_1 : Kd.C Kd.string w A0_1 l0_1.length l0_1) (hc0_1 : l0_1.length ≤ c0_1) (hr0_3 : Kd.C k47 w A0_3 l0_3.length l0_3) (hc0_3 : l0_3.length ≤ c0_3) (hr0_4 : Kd.C k104 w A0_4 l0_4.length l0_4) (hc0_4 : l0_4.length ≤ c0_4) (hr0_5 : Kd.C k106 w A0_5 l0_5.length l0_5) (hc0_5 : l0_5.length ≤ c0_5) (hr0_6 : Kd.C k67 w A0_6 l0_6.length l0_6) (hc0_6 : l0_6.length ≤ c0_6) (hr0_7 : Kd.C k108 w A0_7 l0_7.length l0_7) (hc0_7 : l0_7.length ≤ c0_7) (hr0_8 : Kd.C k110 w A0_8 l0_8.length l0_8) (hc0_8 : l0_8.length ≤ c0_8) (hr0_9 : Kd.C (Kd.int .i64) w A0_9 l0_9.length l0_9) (hc0_9 : l0_9.length ≤ c0_9) (hr1 : Kd.C (Kd.int .i64) w A1 l1.length l1) (hc1 : l1.length ≤ c1) (hr3 : Kd.C k63 w A3 l3.length l3) (hc3 : l3.length ≤ c3) (h : rain_Cells.f k a0_0 l0_1 a0_2 l0_3 l0_4 l0_5 l0_6 l0_7 l0_8 l0_9 a0_10 l1 a2 l3 = some r) :
  Calls Try.prog 18 #[.agg #[.string a0_0, .slice A0_1 l0_1.length c0_1, .int .i64 a0_2, .slice A0_3 l0_3.length c0_3, .slice A0_4 l0_4.length c0_4, .slice A0_5 l0_5.length c0_5, .slice A0_6 l0_6.length c0_6, .slice A0_7 l0_7.length c0_7, .slice A0_8 l0_8.length c0_8, .slice A0_9 l0_9.length c0_9, .int .i64 a0_10], .slice A1 l1.length c1, .int .i64 a2, .slice A3 l3.length c3] w fun e w' => ∃ v0_ : Value, e = .returned (v0_) ∧ Kd.R k26 26 w' w.heap.size (fun _ => True) v0_ r ∧ Below w.heap.size w w' := by
 have hu41 := Try.underlying41; have hu63 := Try.underlying63; have hu26 := Try.underlying26; have HR0_1 := Aside0.mk hr0_1
 have HC0_1 := Aside0.mk hc0_1
 clear hr0_1 hc0_1; have HR0_3 := Aside0.mk hr0_3
 have HC0_3 := Aside0.mk hc0_3
 clear hr0_3 hc0_3; have HR0_4 := Aside0.mk hr0_4
 have HC0_4 := Aside0.mk hc0_4
 clear hr0_4 hc0_4; have HR0_5 := Aside0.mk hr0_5
 have HC0_5 := Aside0.mk hc0_5
 clear hr0_5 hc0_5; have HR0_6 := Aside0.mk hr0_6
 have HC0_6 := Aside0.mk hc0_6
 clear hr0_6 hc0_6; have HR0_7 := Aside0.mk hr0_7
 have HC0_7 := Aside0.mk hc0_7
 clear hr0_7 hc0_7; have HR0_8 := Aside0.mk hr0_8
 have HC0_8 := Aside0.mk hc0_8
 clear hr0_8 hc0_8; have HR0_9 := Aside0.mk hr0_9
 have HC0_9 := Aside0.mk hc0_9
 clear hr0_9 hc0_9; have HR1 := Aside0.mk hr1
 have HC1 := Aside0.mk hc1
 clear hr1 hc1; have HR3 := Aside0.mk hr3
 have HC3 := Aside0.mk hc3
 clear hr3 hc3; have HB := Aside0.mk (Below.refl w.heap.size w)
 have H : ((exact_Clamp.f a0_2 0 64).bind fun t148 => (rain_Cells.l0 k l1 a2 l3 ([] : List (S26)) t148 0 a0_0 l0_1 a0_2 l0_3 l0_4 l0_5 l0_6 l0_7 l0_8 l0_9 a0_10)) = some r := h
 clear h; replace H := Option.bind_eq_some_iff.mp H; obtain ⟨t148, A50, H⟩ := H; replace H : (rain_Cells.l0 k l1 a2 l3 ([] : List (S26)) t148 0 a0_0 l0_1 a0_2 l0_3 l0_4 l0_5 l0_6 l0_7 l0_8 l0_9 a0_10) = some r := H
 have A5 := Aside0.mk A50
 clear A50; have H' := Aside0.mk H; clear H; go_enter Try.func18, Try.ntmps18
 go_wp2_with (first | ((with_reducible refine gate_dst (N := 4) rfl ?_); (try (refine gate_guard (by rfl) ?_; dsimp only)); refine box_event ?hg (N := 4) ?hd (cs := #[.string a0_0, .slice A0_1 l0_1.length c0_1, .int .i64 a0_2, .slice A0_3 l0_3.length c0_3, .slice A0_4 l0_4.length c0_4, .slice A0_5 l0_5.length c0_5, .slice A0_6 l0_6.length c0_6, .slice A0_7 l0_7.length c0_7, .slice A0_8 l0_8.length c0_8, .slice A0_9 l0_9.length c0_9, .int .i64 a0_10]) (t := 41) ?hr ?_; (case hd => rfl); (case hg => rfl); (case hr => first | (go_simp; done) | (go_simp; rfl)); intro gb147 hg w6 hbox hb; have n0_ := Aside0.mk (below_step ahx hb); have n1_ := Aside0.mk (hbox); have n2_ := Aside0.mk ((by rw [hg]; exact (below_size ahx) : w.heap.size ≤ gb147)); have n3_ := Aside0.mk ((by rw [hg]; exact (below_size ahx) : w.heap.size ≤ gb147)); clear HB; have HB := n0_; have BK147 := n1_; have GW147 := n2_; have GE147 := n3_; clear n0_ n1_ n2_ n3_; clear hb hbox hg; have hcz7_0 : w6.cell? ⟨gb147, 0, none⟩ = some (.string a0_0) := (blk_cell BK147.out 0).trans rfl; have hcz7_1 : w6.cell? ⟨gb147, 1, none⟩ = some (.slice A0_1 l0_1.length c0_1) := (blk_cell BK147.out 1).trans rfl; have hcz7_2 : w6.cell? ⟨gb147, 2, none⟩ = some (.int .i64 a0_2) := (blk_cell BK147.out 2).trans rfl; have hcz7_3 : w6.cell? ⟨gb147, 3, none⟩ = some (.slice A0_3 l0_3.length c0_3) := (blk_cell BK147.out 3).trans rfl; have hcz7_4 : w6.cell? ⟨gb147, 4, none⟩ = some (.slice A0_4 l0_4.length c0_4) := (blk_cell BK147.out 4).trans rfl; have hcz7_5 : w6.cell? ⟨gb147, 5, none⟩ = some (.slice A0_5 l0_5.length c0_5) := (blk_cell BK147.out 5).trans rfl; have hcz7_6 : w6.cell? ⟨gb147, 6, none⟩ = some (.slice A0_6 l0_6.length c0_6) := (blk_cell BK147.out 6).trans rfl; have hcz7_7 : w6.cell? ⟨gb147, 7, none⟩ = some (.slice A0_7 l0_7.length c0_7) := (blk_cell BK147.out 7).trans rfl; have hcz7_8 : w6.cell? ⟨gb147, 8, none⟩ = some (.slice A0_8 l0_8.length c0_8) := (blk_cell BK147.out 8).trans rfl; have hcz7_9 : w6.cell? ⟨gb147, 9, none⟩ = some (.slice A0_9 l0_9.length c0_9) := (blk_cell BK147.out 9).trans rfl; have hcz7_10 : w6.cell? ⟨gb147, 10, none⟩ = some (.int .i64 a0_10) := (blk_cell BK147.out 10).trans rfl; have hfz7_0 := blk_frozen BK147.out 0; have hfz7_1 := blk_frozen BK147.out 1; have hfz7_2 := blk_frozen BK147.out 2; have hfz7_3 := blk_frozen BK147.out 3; have hfz7_4 := blk_frozen BK147.out 4; have hfz7_5 := blk_frozen BK147.out 5; have hfz7_6 := blk_frozen BK147.out 6; have hfz7_7 := blk_frozen BK147.out 7; have hfz7_8 := blk_frozen BK147.out 8; have hfz7_9 := blk_frozen BK147.out 9; have hfz7_10 := blk_frozen BK147.out 10) | ((with_reducible refine gate_callee (f := 23) rfl ?_); refine goesL_ (some 19) rfl rfl Try.func23 (by kernel_rfl) rfl #[.int .i64 a0_2, .int .i64 0, .int .i64 64] rfl (by first | done | rfl) ?_; (with_reducible refine (exact_Clamp.calls a0_2 0 64 t148 _ A5.out).mono ?_); rintro e w' ⟨rfl, ⟨nd, rfl⟩⟩; refine ⟨_, rfl, ?_⟩) | (go_at_call 23; (with_reducible refine (exact_Clamp.calls a0_2 0 64 t148 _ A5.out).mono ?_); rintro e w' ⟨rfl, ⟨nd, rfl⟩⟩))
 go_loopg [9, 20] k (fun kq v9 v20 w' => ∃ (x9_1 : List (S26)) (x20_1 : Int), v20 = .int .i64 x20_1 ∧ Aside0 (rain_Cells.l0 kq l1 a2 l3 x9_1 t148 x20_1 a0_0 l0_1 a0_2 l0_3 l0_4 l0_5 l0_6 l0_7 l0_8 l0_9 a0_10 = some r) ∧ Aside0 (kq ≤ k) ∧ Aside0 (Kd.R k26 26 w' w.heap.size (fun _ => True) v9 x9_1) ∧ Aside0 (w'.heap[gb147]? = some (.cells #[.string a0_0, (.slice A0_1 l0_1.length c0_1), .int .i64 a0_2, (.slice A0_3 l0_3.length c0_3), (.slice A0_4 l0_4.length c0_4), (.slice A0_5 l0_5.length c0_5), (.slice A0_6 l0_6.length c0_6), (.slice A0_7 l0_7.length c0_7), (.slice A0_8 l0_8.length c0_8), (.slice A0_9 l0_9.length c0_9), .int .i64 a0_10] 41 (0, 0))) ∧ Aside0 (Below w.heap.size w w'))
 case atStart => exact ⟨(([] : List (S26))), (0), (by first | rfl | (simp; done) | (simp [*]; done)), H', ⟨Nat.le_refl _⟩, ⟨by first | exact Kd.R_nil _ _ _ _ _ | exact Kd.N_nil _ _ _ _ _ | exact Kd.V_nil _ _ _ _ _ | exact Kd.Q_nil _ _ _ _ _ | exact Kd.S_nil _ _ _ _ _⟩, ⟨by (with_reducible repeat (first | refine blk_drewN ?_ _ | refine blk_drew ?_ | refine blk_alloc ?_ _)); exact BK147.out⟩, ⟨ahx⟩⟩
 case round =>
  clear H'; try clear c1
  try clear c2
  try clear p2
  try clear c3
  try clear hcz7_0
  try clear hcz7_1
  try clear hcz7_10
  try clear hcz7_2
  try clear hcz7_3
  try clear hcz7_4
  try clear hcz7_5
  try clear hcz7_6
  try clear hcz7_7
  try clear hcz7_8
  try clear hcz7_9
  try clear hfz7_0
  try clear hfz7_1
  try clear hfz7_10
  try clear hfz7_2
  try clear hfz7_3
  try clear hfz7_4
  try clear hfz7_5
  try clear hfz7_6
  try clear hfz7_7
  try clear hfz7_8
  try clear hfz7_9
  obtain ⟨x9_1, x20_1, rfl, HA, HK1, HO_9, BK147, HB⟩ := hrel
  cases gk with
  | zero => exact absurd HA.out (by simp [rain_Cells.l0])
  | succ k1 =>
   have H := HA.out; clear HA; simp only [rain_Cells.l0] at H
   by_cases c8 : x20_1 < t148
   ·rw [if_pos c8] at H
    have c8b0 : decide (x20_1 < t148) = true := decide_eq_true c8
    clear c8; have HC9 := Aside0.mk H
    clear H; go_upto_if 26 with (fail)
    go_cut [11] (fun v11 wc => ∃ (kq : Nat) (x11_8 : Int), v11 = .int .i64 x11_8 ∧ Aside0 (rain_Cells.j1 kq l1 a2 l3 x9_1 x11_8 t148 x20_1 a0_0 l0_1 a0_2 l0_3 l0_4 l0_5 l0_6 l0_7 l0_8 l0_9 a0_10 = some r) ∧ Aside0 (kq ≤ k1) ∧ Aside0 (Kd.R k26 26 wc w.heap.size (fun _ => True) u9 x9_1) ∧ Aside0 (wc.heap[gb147]? = some (.cells #[.string a0_0, (.slice A0_1 l0_1.length c0_1), .int .i64 a0_2, (.slice A0_3 l0_3.length c0_3), (.slice A0_4 l0_4.length c0_4), (.slice A0_5 l0_5.length c0_5), (.slice A0_6 l0_6.length c0_6), (.slice A0_7 l0_7.length c0_7), (.slice A0_8 l0_8.length c0_8), (.slice A0_9 l0_9.length c0_9), .int .i64 a0_10] 41 (0, 0))) ∧ Aside0 (Below w.heap.size w wc))
    case first =>
     have H := HC9.out; clear HC9
     by_cases c10 : x20_1 < (l1.length : Int)
     ·rw [if_pos c10] at H
      have c10b0 : decide (x20_1 < (l1.length : Int)) = true := decide_eq_true c10
      clear c10; (first | rw [c10b0] | (simp only [i64_w, i32_w]; rw [c10b0]) | skip)
      by_cases c11 : 0 ≤ x20_1
      rotate_left
      ·rw [if_neg c11] at H
       exact absurd H (by simp)
      rw [if_pos c11] at H
      have c11b0 : decide (0 ≤ x20_1) = true := decide_eq_true c11
      clear c11
      as_aux_lemma =>
       have H' := Aside0.mk H; clear H; have p149 : 0 ≤ (x20_1 : Int) := of_decide_eq_true (by first | (with_reducible assumption) | assumption)
       have q149 : x20_1 < (l1.length : Int) := of_decide_eq_true (by first | (with_reducible assumption) | assumption)
       obtain ⟨ad149, e149, hx149_0⟩ := Kd.at_int HR1.out x20_1 p149 q149
       cases e149
       replace hx149_0 := (HB.out.cell (World.block_lt_of_cell? w _ hx149_0)).trans hx149_0
       replace p149 := eq_true p149
       replace q149 := eq_true q149
       go_wp2
       go_meet
       case rel => exact ⟨_, (rd l1 x20_1), (by first | rfl | (simp; done) | (simp [*]; done)), H', ⟨by have := HK1.out; first | omega | exact Nat.le_refl _⟩, ⟨by (with_reducible repeat (first | apply Kd.R_alloc | apply Kd.R_drewN | apply Kd.R_drew)); exact HO_9.out⟩, ⟨by (with_reducible repeat (first | refine blk_drewN ?_ _ | refine blk_drew ?_ | refine blk_alloc ?_ _)); exact BK147.out⟩, ⟨ahx⟩⟩
     ·rw [if_neg c10] at H
      have c10b0 : decide (x20_1 < (l1.length : Int)) = false := decide_eq_false c10
      clear c10; (first | rw [c10b0] | (simp only [i64_w, i32_w]; rw [c10b0]) | skip)
      as_aux_lemma =>
       have H' := Aside0.mk H; clear H; go_wp2
       go_meet
       case rel => exact ⟨_, (0), (by first | rfl | (simp; done) | (simp [*]; done)), H', ⟨by have := HK1.out; first | omega | exact Nat.le_refl _⟩, ⟨by (with_reducible repeat (first | apply Kd.R_alloc | apply Kd.R_drewN | apply Kd.R_drew)); exact HO_9.out⟩, ⟨by (with_reducible repeat (first | refine blk_drewN ?_ _ | refine blk_drew ?_ | refine blk_alloc ?_ _)); exact BK147.out⟩, ⟨ahx⟩⟩
    case rest =>
     clear HC9; try clear c1
     try clear p1
     try clear q1
     try clear hx1
     try clear c2
     try clear p2
     try clear c3
     try clear c8
     try clear c8b0
     try clear c10
     try clear c10b0
     try clear c11
     try clear c11b0
     try clear hcz7_0
     try clear hcz7_1
     try clear hcz7_10
     try clear hcz7_2
     try clear hcz7_3
     try clear hcz7_4
     try clear hcz7_5
     try clear hcz7_6
     try clear hcz7_7
     try clear hcz7_8
     try clear hcz7_9
     try clear hfz7_0
     try clear hfz7_1
     try clear hfz7_10
     try clear hfz7_2
     try clear hfz7_3
     try clear hfz7_4
     try clear hfz7_5
     try clear hfz7_6
     try clear hfz7_7
     try clear hfz7_8
     try clear hfz7_9
     try clear hx149_0
     try clear p149
     try clear p2
     try clear q149
     obtain ⟨kq, x11_8, rfl, HA, HJ8, HO_9, BK147, HB⟩ := hcut
     cases kq with
     | zero => exact absurd HA.out (by simp [rain_Cells.j1])
     | succ kj8 =>
      have H := HA.out; clear HA; simp only [rain_Cells.j1] at H
      replace H := Option.bind_eq_some_iff.mp H; obtain ⟨⟨t150, t151⟩, A120, H⟩ := H
      replace H : (if x9_1.length < 8796093022208 then (rain_Cells.l0 kj8 l1 a2 l3 (x9_1 ++ [(⟨t150, t151⟩ : S26)]) t148 (wrap64 (x20_1 + 1)) a0_0 l0_1 a0_2 l0_3 l0_4 l0_5 l0_6 l0_7 l0_8 l0_9 a0_10) else (none)) = some r := H
      have A12 := Aside0.mk A120
      clear A120
      by_cases c13 : x9_1.length < 8796093022208
      rotate_left
      ·rw [if_neg c13] at H
       exact absurd H (by simp)
      rw [if_pos c13] at H
      have LMc13 := Aside0.mk c13
      clear c13; obtain ⟨y152, hy152⟩ : ∃ y_ : List (S26), y_ = (x9_1 ++ [(⟨t150, t151⟩ : S26)]) := ⟨_, rfl⟩
      replace H : (rain_Cells.l0 kj8 l1 a2 l3 y152 t148 (wrap64 (x20_1 + 1)) a0_0 l0_1 a0_2 l0_3 l0_4 l0_5 l0_6 l0_7 l0_8 l0_9 a0_10) = some r := by first | (rw [hy152]; with_reducible exact H) | (have H2_ := (Option.bind_some _ _).symm.trans H; rw [hy152]; with_reducible exact H2_) | (have H2_ := (Option.bind_some _ _).symm.trans H; with_reducible exact H2_) | with_reducible exact H | (rw [hy152]; exact H) | exact H
      have Ny152 := Aside0.mk hy152
      clear hy152
      as_aux_lemma =>
       have H' := Aside0.mk H; clear H; go_wp2_with (first | ((first | ((with_reducible refine gate_callee (f := 32) rfl ?_); refine goesL_ (some 34) rfl rfl Try.func32 (by kernel_rfl) rfl #[.int .i64 x11_8, .int .i64 a2] rfl (by first | done | rfl) ?_) | go_at_call 32); (with_reducible refine (rain_radarSpan.calls kj8 x11_8 a2 t150 t151 _ A12.out).mono ?_); rintro e w14 ⟨rfl, hb⟩; (first | with_reducible refine ⟨_, rfl, ?_⟩ | skip); have n0_ := Aside0.mk (Kd.R_below (by (with_reducible repeat (first | apply Kd.R_alloc | apply Kd.R_drewN | apply Kd.R_drew)); exact HO_9.out) hb); have n1_ := Aside0.mk (blk_below (g := gb147) (o := .cells #[.string a0_0, .slice A0_1 l0_1.length c0_1, .int .i64 a0_2, .slice A0_3 l0_3.length c0_3, .slice A0_4 l0_4.length c0_4, .slice A0_5 l0_5.length c0_5, .slice A0_6 l0_6.length c0_6, .slice A0_7 l0_7.length c0_7, .slice A0_8 l0_8.length c0_8, .slice A0_9 l0_9.length c0_9, .int .i64 a0_10] 41 (0, 0)) abx hb); have n2_ := Aside0.mk (below_step ahx hb); clear HO_9; clear BK147; clear HB; have HO_9 := n0_; have BK147 := n1_; have HB := n2_; clear n0_ n1_ n2_; (try clear hb); (try clear hb2); (try clear hk); (try clear hi)) | ((with_reducible refine gate_builtin (b := .append) (xs := #[.tmp 31, .tmp 35]) rfl ?_); (try (refine gate_guard (by rfl) ?_; dsimp only)); at_builtin; refine Kd.R_append k26 (w0 := w) w.heap.size rfl (.tmp 31) (.tmp 35) 22 26 (.agg #[(.int .i64 0), (.int .i64 0)]) 16 rfl Try.underlying22 info26 rfl (by decide) (by omega) u9 x9_1 (⟨t150, t151⟩ : S26) [.int .i64 t150, .int .i64 t151] (fun _ => True) (fun _ => False) rfl rfl ?aP (fun _ hk => hk.elim) ?aF ?aO ?aB ?aS ?aL ?_; (case aP => exact k26_mkM _ _ _ (⟨t150, t151⟩ : S26)); (case aB => exact ahx); (case aF => exact (fun _ _ => trivial)); (case aO => exact (by (with_reducible repeat (first | apply Kd.R_alloc | apply Kd.R_drewN | apply Kd.R_drew)); exact HO_9.out)); (case aS => exact (below_size ahx)); (case aL => have := LMc13.out; omega); intro v153 w15 ho hb hg hat; rw [← Ny152.out] at ho; have n0_ := Aside0.mk (blk_grown (g := gb147) (o := .cells #[.string a0_0, .slice A0_1 l0_1.length c0_1, .int .i64 a0_2, .slice A0_3 l0_3.length c0_3, .slice A0_4 l0_4.length c0_4, .slice A0_5 l0_5.length c0_5, .slice A0_6 l0_6.length c0_6, .slice A0_7 l0_7.length c0_7, .slice A0_8 l0_8.length c0_8, .slice A0_9 l0_9.length c0_9, .int .i64 a0_10] 41 (0, 0)) abx hg (Kd.R_ne HO_9.out BK147.out (by decide))); have n1_ := Aside0.mk (hb); have n2_ := Aside0.mk (ho); clear BK147; clear HB; clear HO_9; have BK147 := n0_; have HB := n1_; have HO154 := n2_; clear n0_ n1_ n2_; clear ho hb hg hat))
       go_roundg kj8
       case measure => have := HK1.out; have := HJ8.out; omega
       case rel => exact ⟨(y152), (wrap64 (x20_1 + 1)), (by first | rfl | (simp; done) | (simp [*]; done)), H', ⟨by have := HK1.out; have := HJ8.out; omega⟩, ⟨by (with_reducible repeat (first | apply Kd.R_alloc | apply Kd.R_drewN | apply Kd.R_drew)); exact HO154.out⟩, ⟨by (with_reducible repeat (first | refine blk_drewN ?_ _ | refine blk_drew ?_ | refine blk_alloc ?_ _)); exact BK147.out⟩, ⟨ahx⟩⟩
   rw [if_neg c8] at H
   have c8b0 : decide (x20_1 < t148) = false := decide_eq_false c8
   clear c8; have H' := Aside0.mk H; clear H; go_wp2
   go_loopg [40] k1 (fun kq v40 w' => ∃ (x9_2 : List (S26)) (x40_2 : Int), v40 = .int .i64 x40_2 ∧ Aside0 (rain_Cells.l1 kq x9_2 l3 (l3.length : Int) x40_2 a0_0 l0_1 a0_2 l0_3 l0_4 l0_5 l0_6 l0_7 l0_8 l0_9 a0_10 = some r) ∧ Aside0 (kq ≤ k1) ∧ Aside0 (Kd.R k26 26 w' w.heap.size (fun _ => True) u9 x9_2) ∧ Aside0 (w'.heap[gb147]? = some (.cells #[.string a0_0, (.slice A0_1 l0_1.length c0_1), .int .i64 a0_2, (.slice A0_3 l0_3.length c0_3), (.slice A0_4 l0_4.length c0_4), (.slice A0_5 l0_5.length c0_5), (.slice A0_6 l0_6.length c0_6), (.slice A0_7 l0_7.length c0_7), (.slice A0_8 l0_8.length c0_8), (.slice A0_9 l0_9.length c0_9), .int .i64 a0_10] 41 (0, 0))) ∧ Aside0 (Below w.heap.size w w'))
   case atStart => exact ⟨(x9_1), (0), (by first | rfl | (simp; done) | (simp [*]; done)), H', ⟨Nat.le_refl _⟩, ⟨by (with_reducible repeat (first | apply Kd.R_alloc | apply Kd.R_drewN | apply Kd.R_drew)); exact HO_9.out⟩, ⟨by (with_reducible repeat (first | refine blk_drewN ?_ _ | refine blk_drew ?_ | refine blk_alloc ?_ _)); exact BK147.out⟩, ⟨ahx⟩⟩
   case round =>
    clear H'; try clear c1
    try clear p1
    try clear q1
    try clear hx1
    try clear c2
    try clear p2
    try clear c3
    try clear p6
    try clear c8
    try clear c8b0
    try clear c10
    try clear c10b0
    try clear c11
    try clear c11b0
    try clear c13
    try clear p14
    try clear q14
    try clear hx14
    try clear hcz7_0
    try clear hcz7_1
    try clear hcz7_10
    try clear hcz7_2
    try clear hcz7_3
    try clear hcz7_4
    try clear hcz7_5
    try clear hcz7_6
    try clear hcz7_7
    try clear hcz7_8
    try clear hcz7_9
    try clear hfz7_0
    try clear hfz7_1
    try clear hfz7_10
    try clear hfz7_2
    try clear hfz7_3
    try clear hfz7_4
    try clear hfz7_5
    try clear hfz7_6
    try clear hfz7_7
    try clear hfz7_8
    try clear hfz7_9
    try clear hx149_0
    try clear p1
    try clear p149
    try clear p2
    try clear q1
    try clear q149
    obtain ⟨x9_2, x40_2, rfl, HA, HK2, HO_9, BK147, HB⟩ := hrel
    cases gk with
    | zero => exact absurd HA.out (by simp [rain_Cells.l1])
    | succ k2 =>
     have H := HA.out; clear HA; simp only [rain_Cells.l1] at H
     by_cases c16 : x40_2 < (l3.length : Int)
     rotate_left
     ·rw [if_neg c16] at H
      have c16b0 : decide (x40_2 < (l3.length : Int)) = false := decide_eq_false c16
      clear c16
      as_aux_lemma =>
       obtain rfl := Option.some.inj H
       go_wp2
       go_ret
       exact ⟨_, by first | rfl | (simp [errW_none, errW_some] <;> rfl) | (simp [*, errW_none, errW_some] <;> rfl), by (with_reducible repeat (first | apply Kd.R_alloc | apply Kd.R_drewN | apply Kd.R_drew)); exact HO_9.out, ahx⟩
     rw [if_pos c16] at H
     have c16b0 : decide (x40_2 < (l3.length : Int)) = true := decide_eq_true c16
     clear c16
     by_cases c17 : 0 ≤ x40_2
     rotate_left
     ·rw [if_neg c17] at H
      exact absurd H (by simp)
     rw [if_pos c17] at H
     have c17b0 : decide (0 ≤ x40_2) = true := decide_eq_true c17
     clear c17
     by_cases c18 : x40_2 < (l3.length : Int)
     rotate_left
     ·rw [if_neg c18] at H
      exact absurd H (by simp)
     rw [if_pos c18] at H
     have c18b0 : decide (x40_2 < (l3.length : Int)) = true := decide_eq_true c18
     clear c18; have HC19 := Aside0.mk H
     clear H; have p155 : 0 ≤ (x40_2 : Int) := of_decide_eq_true (by first | (with_reducible assumption) | assumption)
     have q155 : x40_2 < (l3.length : Int) := of_decide_eq_true (by first | (with_reducible assumption) | assumption)
     obtain ⟨ad155, e155, hx155_0, hx155_1, hx155_2, hx155_3⟩ := at_T63 HR3.out x40_2 p155 q155
     cases e155
     replace hx155_0 := (HB.out.cell (World.block_lt_of_cell? w _ hx155_0)).trans hx155_0
     replace hx155_1 := (HB.out.cell (World.block_lt_of_cell? w _ hx155_1)).trans hx155_1
     replace hx155_2 := (HB.out.cell (World.block_lt_of_cell? w _ hx155_2)).trans hx155_2
     replace hx155_3 := (HB.out.cell (World.block_lt_of_cell? w _ hx155_3)).trans hx155_3
     replace p155 := eq_true p155
     replace q155 := eq_true q155
     go_upto_region 13 with (first | ((with_reducible refine gate_dst (N := 13) rfl ?_); (try (refine gate_guard (by rfl) ?_; dsimp only)); refine box_event ?hg (N := 13) ?hd (cs := #[.int .i64 0, .int .i64 0, .int .i64 0, .int .i64 0]) (t := 63) ?hr ?_; (case hd => rfl); (case hg => rfl); (case hr => first | (go_simp; done) | (go_simp; rfl)); intro gb156 hg w20 hbox hb; have n0_ := Aside0.mk (Kd.R_below (by (with_reducible repeat (first | apply Kd.R_alloc | apply Kd.R_drewN | apply Kd.R_drew)); exact HO_9.out) hb); have n1_ := Aside0.mk (blk_below (g := gb147) (o := .cells #[.string a0_0, .slice A0_1 l0_1.length c0_1, .int .i64 a0_2, .slice A0_3 l0_3.length c0_3, .slice A0_4 l0_4.length c0_4, .slice A0_5 l0_5.length c0_5, .slice A0_6 l0_6.length c0_6, .slice A0_7 l0_7.length c0_7, .slice A0_8 l0_8.length c0_8, .slice A0_9 l0_9.length c0_9, .int .i64 a0_10] 41 (0, 0)) abx hb); have n2_ := Aside0.mk (below_step ahx hb); have n3_ := Aside0.mk (hbox); have n4_ := Aside0.mk ((by rw [hg]; exact (below_size ahx) : w.heap.size ≤ gb156)); have n5_ := Aside0.mk ((by rw [hg]; exact (below_size ahx) : w.heap.size ≤ gb156)); have n6_ := Aside0.mk ((by rw [hg]; exact Nat.ne_of_lt (blk_lt (g := gb147) (o := .cells #[.string a0_0, .slice A0_1 l0_1.length c0_1, .int .i64 a0_2, .slice A0_3 l0_3.length c0_3, .slice A0_4 l0_4.length c0_4, .slice A0_5 l0_5.length c0_5, .slice A0_6 l0_6.length c0_6, .slice A0_7 l0_7.length c0_7, .slice A0_8 l0_8.length c0_8, .slice A0_9 l0_9.length c0_9, .int .i64 a0_10] 41 (0, 0)) abx) : gb147 ≠ gb156)); have n7_ := Aside0.mk ((by rw [hg]; exact Nat.ne_of_gt (blk_lt (g := gb147) (o := .cells #[.string a0_0, .slice A0_1 l0_1.length c0_1, .int .i64 a0_2, .slice A0_3 l0_3.length c0_3, .slice A0_4 l0_4.length c0_4, .slice A0_5 l0_5.length c0_5, .slice A0_6 l0_6.length c0_6, .slice A0_7 l0_7.length c0_7, .slice A0_8 l0_8.length c0_8, .slice A0_9 l0_9.length c0_9, .int .i64 a0_10] 41 (0, 0)) abx) : gb156 ≠ gb147)); clear HO_9; clear BK147; clear HB; have HO_9 := n0_; have BK147 := n1_; have HB := n2_; have BK156 := n3_; have GW156 := n4_; have GE156 := n5_; have NB147_156 := n6_; have NB156_147 := n7_; clear n0_ n1_ n2_ n3_ n4_ n5_ n6_ n7_; clear hb hbox hg; have hnb21 := NB156_147.out; have hnc21 := NB147_156.out; have hcz22_0 : w20.cell? ⟨gb156, 0, none⟩ = some (.int .i64 0) := (blk_cell BK156.out 0).trans rfl; have hcz22_1 : w20.cell? ⟨gb156, 1, none⟩ = some (.int .i64 0) := (blk_cell BK156.out 1).trans rfl; have hcz22_2 : w20.cell? ⟨gb156, 2, none⟩ = some (.int .i64 0) := (blk_cell BK156.out 2).trans rfl; have hcz22_3 : w20.cell? ⟨gb156, 3, none⟩ = some (.int .i64 0) := (blk_cell BK156.out 3).trans rfl; have hfz22_0 := blk_frozen BK156.out 0; have hfz22_1 := blk_frozen BK156.out 1; have hfz22_2 := blk_frozen BK156.out 2; have hfz22_3 := blk_frozen BK156.out 3))
     (try simp only [Act.put, zA, zB, zC]); go_cut [64] (fun v64 wc => ∃ (kq : Nat) (x64_18 : Bool), v64 = .bool x64_18 ∧ Aside0 (rain_Cells.j3 kq x9_2 l3 (l3.length : Int) x40_2 x64_18 a0_0 l0_1 a0_2 l0_3 l0_4 l0_5 l0_6 l0_7 l0_8 l0_9 a0_10 ((rd_T63 l3 x40_2).f0) ((rd_T63 l3 x40_2).f1) ((rd_T63 l3 x40_2).f2.f0) ((rd_T63 l3 x40_2).f2.f1) = some r) ∧ Aside0 (kq ≤ k2) ∧ Aside0 (Kd.R k26 26 wc w.heap.size (fun _ => True) u9 x9_2) ∧ Aside0 (wc.heap[gb147]? = some (.cells #[.string a0_0, (.slice A0_1 l0_1.length c0_1), .int .i64 a0_2, (.slice A0_3 l0_3.length c0_3), (.slice A0_4 l0_4.length c0_4), (.slice A0_5 l0_5.length c0_5), (.slice A0_6 l0_6.length c0_6), (.slice A0_7 l0_7.length c0_7), (.slice A0_8 l0_8.length c0_8), (.slice A0_9 l0_9.length c0_9), .int .i64 a0_10] 41 (0, 0))) ∧ Aside0 (wc.heap[gb156]? = some (.cells #[.int .i64 ((rd_T63 l3 x40_2).f0), .int .i64 ((rd_T63 l3 x40_2).f1), .int .i64 ((rd_T63 l3 x40_2).f2.f0), .int .i64 ((rd_T63 l3 x40_2).f2.f1)] 63 (0, 0))) ∧ Aside0 (Below w.heap.size w wc))
     case first =>
      have H := HC19.out; clear HC19
      by_cases c23 : ((rd_T63 l3 x40_2).f0) < 0
      ·rw [if_pos c23] at H
       have c23b0 : decide (((rd_T63 l3 x40_2).f0) < 0) = true := decide_eq_true c23
       clear c23; (first | rw [c23b0] | (simp only [i64_w, i32_w]; rw [c23b0]) | skip)
       as_aux_lemma =>
        have H' := Aside0.mk H; clear H; have hnb24 := NB156_147.out; have hnc24 := NB147_156.out; have hcz25_0 : w20.cell? ⟨gb156, 0, none⟩ = some (.int .i64 0) := (blk_cell BK156.out 0).trans rfl
        have hcz25_1 : w20.cell? ⟨gb156, 1, none⟩ = some (.int .i64 0) := (blk_cell BK156.out 1).trans rfl
        have hcz25_2 : w20.cell? ⟨gb156, 2, none⟩ = some (.int .i64 0) := (blk_cell BK156.out 2).trans rfl
        have hcz25_3 : w20.cell? ⟨gb156, 3, none⟩ = some (.int .i64 0) := (blk_cell BK156.out 3).trans rfl
        have hfz25_0 := blk_frozen BK156.out 0
        have hfz25_1 := blk_frozen BK156.out 1
        have hfz25_2 := blk_frozen BK156.out 2
        have hfz25_3 := blk_frozen BK156.out 3
        go_wp2
        go_meet
        case rel => exact ⟨_, (true), (by first | rfl | (simp; done) | (simp [*]; done)), H', ⟨by have := HK1.out; have := HK2.out; first | omega | exact Nat.le_refl _⟩, ⟨by (with_reducible repeat (first | apply Kd.R_alloc | apply Kd.R_drewN | apply Kd.R_drew)); exact Kd.R_mono (Kd.R_far (p := ⟨gb156, 3, none⟩) (Kd.R_far (p := ⟨gb156, 2, none⟩) (Kd.R_far (p := ⟨gb156, 1, none⟩) (Kd.R_far (p := ⟨gb156, 0, none⟩) (Kd.R_types HO_9.out BK156.out (by decide)) (fun _ hk => hk.2) (.int .i64 ((rd_T63 l3 x40_2).f0))) (fun _ hk => hk.2) (.int .i64 ((rd_T63 l3 x40_2).f1))) (fun _ hk => hk.2) (.int .i64 ((rd_T63 l3 x40_2).f2.f0))) (fun _ hk => hk.2) (.int .i64 ((rd_T63 l3 x40_2).f2.f1))) (fun _ hk => trivial)⟩, ⟨by (with_reducible repeat (first | refine blk_drewN ?_ _ | refine blk_drew ?_ | refine blk_alloc ?_ _)); refine blk_far ?_ NB147_156.out _; (with_reducible repeat (first | refine blk_drewN ?_ _ | refine blk_drew ?_ | refine blk_alloc ?_ _)); refine blk_far ?_ NB147_156.out _; (with_reducible repeat (first | refine blk_drewN ?_ _ | refine blk_drew ?_ | refine blk_alloc ?_ _)); refine blk_far ?_ NB147_156.out _; (with_reducible repeat (first | refine blk_drewN ?_ _ | refine blk_drew ?_ | refine blk_alloc ?_ _)); refine blk_far ?_ NB147_156.out _; (with_reducible repeat (first | refine blk_drewN ?_ _ | refine blk_drew ?_ | refine blk_alloc ?_ _)); exact BK147.out⟩, ⟨by (with_reducible repeat (first | refine blk_drewN ?_ _ | refine blk_drew ?_ | refine blk_alloc ?_ _)); refine blk_put (cs := #[.int .i64 ((rd_T63 l3 x40_2).f0), .int .i64 ((rd_T63 l3 x40_2).f1), .int .i64 ((rd_T63 l3 x40_2).f2.f0), .int .i64 0]) ?_ 3 _ rfl; (with_reducible repeat (first | refine blk_drewN ?_ _ | refine blk_drew ?_ | refine blk_alloc ?_ _)); refine blk_put (cs := #[.int .i64 ((rd_T63 l3 x40_2).f0), .int .i64 ((rd_T63 l3 x40_2).f1), .int .i64 0, .int .i64 0]) ?_ 2 _ rfl; (with_reducible repeat (first | refine blk_drewN ?_ _ | refine blk_drew ?_ | refine blk_alloc ?_ _)); refine blk_put (cs := #[.int .i64 ((rd_T63 l3 x40_2).f0), .int .i64 0, .int .i64 0, .int .i64 0]) ?_ 1 _ rfl; (with_reducible repeat (first | refine blk_drewN ?_ _ | refine blk_drew ?_ | refine blk_alloc ?_ _)); refine blk_put (cs := #[.int .i64 0, .int .i64 0, .int .i64 0, .int .i64 0]) ?_ 0 _ rfl; (with_reducible repeat (first | refine blk_drewN ?_ _ | refine blk_drew ?_ | refine blk_alloc ?_ _)); exact BK156.out⟩, ⟨ahx⟩⟩
      ·rw [if_neg c23] at H
       have c23b0 : decide (((rd_T63 l3 x40_2).f0) < 0) = false := decide_eq_false c23
       clear c23; (first | rw [c23b0] | (simp only [i64_w, i32_w]; rw [c23b0]) | skip)
       by_cases c26 : ((rd_T63 l3 x40_2).f0) ≥ (l0_6.length : Int)
       ·rw [if_pos c26] at H
        have c26b0 : decide ((l0_6.length : Int) ≤ ((rd_T63 l3 x40_2).f0)) = true := decide_eq_true c26
        clear c26
        as_aux_lemma =>
         have H' := Aside0.mk H; clear H; have hnb27 := NB156_147.out; have hnc27 := NB147_156.out; have hcz28_0 : w20.cell? ⟨gb156, 0, none⟩ = some (.int .i64 0) := (blk_cell BK156.out 0).trans rfl
         have hcz28_1 : w20.cell? ⟨gb156, 1, none⟩ = some (.int .i64 0) := (blk_cell BK156.out 1).trans rfl
         have hcz28_2 : w20.cell? ⟨gb156, 2, none⟩ = some (.int .i64 0) := (blk_cell BK156.out 2).trans rfl
         have hcz28_3 : w20.cell? ⟨gb156, 3, none⟩ = some (.int .i64 0) := (blk_cell BK156.out 3).trans rfl
         have hfz28_0 := blk_frozen BK156.out 0
         have hfz28_1 := blk_frozen BK156.out 1
         have hfz28_2 := blk_frozen BK156.out 2
         have hfz28_3 := blk_frozen BK156.out 3
         have hcz29_0 : w20.cell? ⟨gb147, 0, none⟩ = some (.string a0_0) := (blk_cell BK147.out 0).trans rfl
         have hcz29_1 : w20.cell? ⟨gb147, 1, none⟩ = some (.slice A0_1 l0_1.length c0_1) := (blk_cell BK147.out 1).trans rfl
         have hcz29_2 : w20.cell? ⟨gb147, 2, none⟩ = some (.int .i64 a0_2) := (blk_cell BK147.out 2).trans rfl
         have hcz29_3 : w20.cell? ⟨gb147, 3, none⟩ = some (.slice A0_3 l0_3.length c0_3) := (blk_cell BK147.out 3).trans rfl
         have hcz29_4 : w20.cell? ⟨gb147, 4, none⟩ = some (.slice A0_4 l0_4.length c0_4) := (blk_cell BK147.out 4).trans rfl
         have hcz29_5 : w20.cell? ⟨gb147, 5, none⟩ = some (.slice A0_5 l0_5.length c0_5) := (blk_cell BK147.out 5).trans rfl
         have hcz29_6 : w20.cell? ⟨gb147, 6, none⟩ = some (.slice A0_6 l0_6.length c0_6) := (blk_cell BK147.out 6).trans rfl
         have hcz29_7 : w20.cell? ⟨gb147, 7, none⟩ = some (.slice A0_7 l0_7.length c0_7) := (blk_cell BK147.out 7).trans rfl
         have hcz29_8 : w20.cell? ⟨gb147, 8, none⟩ = some (.slice A0_8 l0_8.length c0_8) := (blk_cell BK147.out 8).trans rfl
         have hcz29_9 : w20.cell? ⟨gb147, 9, none⟩ = some (.slice A0_9 l0_9.length c0_9) := (blk_cell BK147.out 9).trans rfl
         have hcz29_10 : w20.cell? ⟨gb147, 10, none⟩ = some (.int .i64 a0_10) := (blk_cell BK147.out 10).trans rfl
         have hfz29_0 := blk_frozen BK147.out 0
         have hfz29_1 := blk_frozen BK147.out 1
         have hfz29_2 := blk_frozen BK147.out 2
         have hfz29_3 := blk_frozen BK147.out 3
         have hfz29_4 := blk_frozen BK147.out 4
         have hfz29_5 := blk_frozen BK147.out 5
         have hfz29_6 := blk_frozen BK147.out 6
         have hfz29_7 := blk_frozen BK147.out 7
         have hfz29_8 := blk_frozen BK147.out 8
         have hfz29_9 := blk_frozen BK147.out 9
         have hfz29_10 := blk_frozen BK147.out 10
         go_wp2
         go_meet
         case rel => exact ⟨_, (true), (by first | rfl | (simp; done) | (simp [*]; done)), H', ⟨by have := HK1.out; have := HK2.out; first | omega | exact Nat.le_refl _⟩, ⟨by (with_reducible repeat (first | apply Kd.R_alloc | apply Kd.R_drewN | apply Kd.R_drew)); exact Kd.R_mono (Kd.R_far (p := ⟨gb156, 3, none⟩) (Kd.R_far (p := ⟨gb156, 2, none⟩) (Kd.R_far (p := ⟨gb156, 1, none⟩) (Kd.R_far (p := ⟨gb156, 0, none⟩) (Kd.R_types HO_9.out BK156.out (by decide)) (fun _ hk => hk.2) (.int .i64 ((rd_T63 l3 x40_2).f0))) (fun _ hk => hk.2) (.int .i64 ((rd_T63 l3 x40_2).f1))) (fun _ hk => hk.2) (.int .i64 ((rd_T63 l3 x40_2).f2.f0))) (fun _ hk => hk.2) (.int .i64 ((rd_T63 l3 x40_2).f2.f1))) (fun _ hk => trivial)⟩, ⟨by (with_reducible repeat (first | refine blk_drewN ?_ _ | refine blk_drew ?_ | refine blk_alloc ?_ _)); refine blk_far ?_ NB147_156.out _; (with_reducible repeat (first | refine blk_drewN ?_ _ | refine blk_drew ?_ | refine blk_alloc ?_ _)); refine blk_far ?_ NB147_156.out _; (with_reducible repeat (first | refine blk_drewN ?_ _ | refine blk_drew ?_ | refine blk_alloc ?_ _)); refine blk_far ?_ NB147_156.out _; (with_reducible repeat (first | refine blk_drewN ?_ _ | refine blk_drew ?_ | refine blk_alloc ?_ _)); refine blk_far ?_ NB147_156.out _; (with_reducible repeat (first | refine blk_drewN ?_ _ | refine blk_drew ?_ | refine blk_alloc ?_ _)); exact BK147.out⟩, ⟨by (with_reducible repeat (first | refine blk_drewN ?_ _ | refine blk_drew ?_ | refine blk_alloc ?_ _)); refine blk_put (cs := #[.int .i64 ((rd_T63 l3 x40_2).f0), .int .i64 ((rd_T63 l3 x40_2).f1), .int .i64 ((rd_T63 l3 x40_2).f2.f0), .int .i64 0]) ?_ 3 _ rfl; (with_reducible repeat (first | refine blk_drewN ?_ _ | refine blk_drew ?_ | refine blk_alloc ?_ _)); refine blk_put (cs := #[.int .i64 ((rd_T63 l3 x40_2).f0), .int .i64 ((rd_T63 l3 x40_2).f1), .int .i64 0, .int .i64 0]) ?_ 2 _ rfl; (with_reducible repeat (first | refine blk_drewN ?_ _ | refine blk_drew ?_ | refine blk_alloc ?_ _)); refine blk_put (cs := #[.int .i64 ((rd_T63 l3 x40_2).f0), .int .i64 0, .int .i64 0, .int .i64 0]) ?_ 1 _ rfl; (with_reducible repeat (first | refine blk_drewN ?_ _ | refine blk_drew ?_ | refine blk_alloc ?_ _)); refine blk_put (cs := #[.int .i64 0, .int .i64 0, .int .i64 0, .int .i64 0]) ?_ 0 _ rfl; (with_reducible repeat (first | refine blk_drewN ?_ _ | refine blk_drew ?_ | refine blk_alloc ?_ _)); exact BK156.out⟩, ⟨ahx⟩⟩
       rw [if_neg c26] at H
       have c26b0 : decide ((l0_6.length : Int) ≤ ((rd_T63 l3 x40_2).f0)) = false := decide_eq_false c26
       clear c26
       by_cases c30 : 0 ≤ ((rd_T63 l3 x40_2).f0)
       rotate_left
       ·rw [if_neg c30] at H
        exact absurd H (by simp)
       rw [if_pos c30] at H
       have c30b0 : decide (0 ≤ ((rd_T63 l3 x40_2).f0)) = true := decide_eq_true c30
       clear c30
       by_cases c31 : ((rd_T63 l3 x40_2).f0) < (l0_6.length : Int)
       rotate_left
       ·rw [if_neg c31] at H
        exact absurd H (by simp)
       rw [if_pos c31] at H
       have c31b0 : decide (((rd_T63 l3 x40_2).f0) < (l0_6.length : Int)) = true := decide_eq_true c31
       clear c31
       as_aux_lemma =>
        have H' := Aside0.mk H; clear H; have hnb32 := NB156_147.out; have hnc32 := NB147_156.out; have hcz33_0 : w20.cell? ⟨gb156, 0, none⟩ = some (.int .i64 0) := (blk_cell BK156.out 0).trans rfl
        have hcz33_1 : w20.cell? ⟨gb156, 1, none⟩ = some (.int .i64 0) := (blk_cell BK156.out 1).trans rfl
        have hcz33_2 : w20.cell? ⟨gb156, 2, none⟩ = some (.int .i64 0) := (blk_cell BK156.out 2).trans rfl
        have hcz33_3 : w20.cell? ⟨gb156, 3, none⟩ = some (.int .i64 0) := (blk_cell BK156.out 3).trans rfl
        have hfz33_0 := blk_frozen BK156.out 0
        have hfz33_1 := blk_frozen BK156.out 1
        have hfz33_2 := blk_frozen BK156.out 2
        have hfz33_3 := blk_frozen BK156.out 3
        have hcz34_0 : w20.cell? ⟨gb147, 0, none⟩ = some (.string a0_0) := (blk_cell BK147.out 0).trans rfl
        have hcz34_1 : w20.cell? ⟨gb147, 1, none⟩ = some (.slice A0_1 l0_1.length c0_1) := (blk_cell BK147.out 1).trans rfl
        have hcz34_2 : w20.cell? ⟨gb147, 2, none⟩ = some (.int .i64 a0_2) := (blk_cell BK147.out 2).trans rfl
        have hcz34_3 : w20.cell? ⟨gb147, 3, none⟩ = some (.slice A0_3 l0_3.length c0_3) := (blk_cell BK147.out 3).trans rfl
        have hcz34_4 : w20.cell? ⟨gb147, 4, none⟩ = some (.slice A0_4 l0_4.length c0_4) := (blk_cell BK147.out 4).trans rfl
        have hcz34_5 : w20.cell? ⟨gb147, 5, none⟩ = some (.slice A0_5 l0_5.length c0_5) := (blk_cell BK147.out 5).trans rfl
        have hcz34_6 : w20.cell? ⟨gb147, 6, none⟩ = some (.slice A0_6 l0_6.length c0_6) := (blk_cell BK147.out 6).trans rfl
        have hcz34_7 : w20.cell? ⟨gb147, 7, none⟩ = some (.slice A0_7 l0_7.length c0_7) := (blk_cell BK147.out 7).trans rfl
        have hcz34_8 : w20.cell? ⟨gb147, 8, none⟩ = some (.slice A0_8 l0_8.length c0_8) := (blk_cell BK147.out 8).trans rfl
        have hcz34_9 : w20.cell? ⟨gb147, 9, none⟩ = some (.slice A0_9 l0_9.length c0_9) := (blk_cell BK147.out 9).trans rfl
        have hcz34_10 : w20.cell? ⟨gb147, 10, none⟩ = some (.int .i64 a0_10) := (blk_cell BK147.out 10).trans rfl
        have hfz34_0 := blk_frozen BK147.out 0
        have hfz34_1 := blk_frozen BK147.out 1
        have hfz34_2 := blk_frozen BK147.out 2
        have hfz34_3 := blk_frozen BK147.out 3
        have hfz34_4 := blk_frozen BK147.out 4
        have hfz34_5 := blk_frozen BK147.out 5
        have hfz34_6 := blk_frozen BK147.out 6
        have hfz34_7 := blk_frozen BK147.out 7
        have hfz34_8 := blk_frozen BK147.out 8
        have hfz34_9 := blk_frozen BK147.out 9
        have hfz34_10 := blk_frozen BK147.out 10
        have p157 : 0 ≤ (((rd_T63 l3 x40_2).f0) : Int) := of_decide_eq_true (by first | (with_reducible assumption) | assumption)
        have q157 : ((rd_T63 l3 x40_2).f0) < (l0_6.length : Int) := of_decide_eq_true (by first | (with_reducible assumption) | assumption)
        obtain ⟨ad157, e157, hx157_0, hx157_1, hx157_2, hx157_3, hx157_4⟩ := at_T67 HR0_6.out ((rd_T63 l3 x40_2).f0) p157 q157
        cases e157
        have hn157_0 : ad157.block ≠ gb156 := Nat.ne_of_lt (Nat.lt_of_lt_of_le (by have := World.block_lt_of_cell? _ _ hx157_0; first | rwa [add_block] at this | exact this) GW156.out)
        have hn157_1 : ad157.block ≠ gb156 := Nat.ne_of_lt (Nat.lt_of_lt_of_le (by have := World.block_lt_of_cell? _ _ hx157_0; first | rwa [add_block] at this | exact this) GW156.out)
        have hn157_2 : ad157.block ≠ gb156 := Nat.ne_of_lt (Nat.lt_of_lt_of_le (by have := World.block_lt_of_cell? _ _ hx157_0; first | rwa [add_block] at this | exact this) GW156.out)
        have hn157_3 : ad157.block ≠ gb156 := Nat.ne_of_lt (Nat.lt_of_lt_of_le (by have := World.block_lt_of_cell? _ _ hx157_0; first | rwa [add_block] at this | exact this) GW156.out)
        replace hx157_0 := (HB.out.cell (World.block_lt_of_cell? w _ hx157_0)).trans hx157_0
        replace hx157_1 := (HB.out.cell (World.block_lt_of_cell? w _ hx157_1)).trans hx157_1
        replace hx157_2 := (HB.out.cell (World.block_lt_of_cell? w _ hx157_2)).trans hx157_2
        replace hx157_3 := (HB.out.cell (World.block_lt_of_cell? w _ hx157_3)).trans hx157_3
        replace hx157_4 := (HB.out.cell (World.block_lt_of_cell? w _ hx157_4)).trans hx157_4
        replace hx157_0 := (cell_far (p := ⟨gb156, 0, none⟩) (by first | (rw [add_block]; exact hn157_0) | (show (Addr.add _ _).block ≠ _; rw [add_block]; exact hn157_0) | exact hn157_0) (.int .i64 ((rd_T63 l3 x40_2).f0))).trans hx157_0
        replace hx157_1 := (cell_far (p := ⟨gb156, 0, none⟩) (by first | (rw [add_block]; exact hn157_0) | (show (Addr.add _ _).block ≠ _; rw [add_block]; exact hn157_0) | exact hn157_0) (.int .i64 ((rd_T63 l3 x40_2).f0))).trans hx157_1
        replace hx157_2 := (cell_far (p := ⟨gb156, 0, none⟩) (by first | (rw [add_block]; exact hn157_0) | (show (Addr.add _ _).block ≠ _; rw [add_block]; exact hn157_0) | exact hn157_0) (.int .i64 ((rd_T63 l3 x40_2).f0))).trans hx157_2
        replace hx157_3 := (cell_far (p := ⟨gb156, 0, none⟩) (by first | (rw [add_block]; exact hn157_0) | (show (Addr.add _ _).block ≠ _; rw [add_block]; exact hn157_0) | exact hn157_0) (.int .i64 ((rd_T63 l3 x40_2).f0))).trans hx157_3
        replace hx157_4 := (cell_far (p := ⟨gb156, 0, none⟩) (by first | (rw [add_block]; exact hn157_0) | (show (Addr.add _ _).block ≠ _; rw [add_block]; exact hn157_0) | exact hn157_0) (.int .i64 ((rd_T63 l3 x40_2).f0))).trans hx157_4
        replace hx157_0 := (cell_far (p := ⟨gb156, 1, none⟩) (by first | (rw [add_block]; exact hn157_1) | (show (Addr.add _ _).block ≠ _; rw [add_block]; exact hn157_1) | exact hn157_1) (.int .i64 ((rd_T63 l3 x40_2).f1))).trans hx157_0
        replace hx157_1 := (cell_far (p := ⟨gb156, 1, none⟩) (by first | (rw [add_block]; exact hn157_1) | (show (Addr.add _ _).block ≠ _; rw [add_block]; exact hn157_1) | exact hn157_1) (.int .i64 ((rd_T63 l3 x40_2).f1))).trans hx157_1
        replace hx157_2 := (cell_far (p := ⟨gb156, 1, none⟩) (by first | (rw [add_block]; exact hn157_1) | (show (Addr.add _ _).block ≠ _; rw [add_block]; exact hn157_1) | exact hn157_1) (.int .i64 ((rd_T63 l3 x40_2).f1))).trans hx157_2
        replace hx157_3 := (cell_far (p := ⟨gb156, 1, none⟩) (by first | (rw [add_block]; exact hn157_1) | (show (Addr.add _ _).block ≠ _; rw [add_block]; exact hn157_1) | exact hn157_1) (.int .i64 ((rd_T63 l3 x40_2).f1))).trans hx157_3
        replace hx157_4 := (cell_far (p := ⟨gb156, 1, none⟩) (by first | (rw [add_block]; exact hn157_1) | (show (Addr.add _ _).block ≠ _; rw [add_block]; exact hn157_1) | exact hn157_1) (.int .i64 ((rd_T63 l3 x40_2).f1))).trans hx157_4
        replace hx157_0 := (cell_far (p := ⟨gb156, 2, none⟩) (by first | (rw [add_block]; exact hn157_2) | (show (Addr.add _ _).block ≠ _; rw [add_block]; exact hn157_2) | exact hn157_2) (.int .i64 ((rd_T63 l3 x40_2).f2.f0))).trans hx157_0
        replace hx157_1 := (cell_far (p := ⟨gb156, 2, none⟩) (by first | (rw [add_block]; exact hn157_2) | (show (Addr.add _ _).block ≠ _; rw [add_block]; exact hn157_2) | exact hn157_2) (.int .i64 ((rd_T63 l3 x40_2).f2.f0))).trans hx157_1
        replace hx157_2 := (cell_far (p := ⟨gb156, 2, none⟩) (by first | (rw [add_block]; exact hn157_2) | (show (Addr.add _ _).block ≠ _; rw [add_block]; exact hn157_2) | exact hn157_2) (.int .i64 ((rd_T63 l3 x40_2).f2.f0))).trans hx157_2
        replace hx157_3 := (cell_far (p := ⟨gb156, 2, none⟩) (by first | (rw [add_block]; exact hn157_2) | (show (Addr.add _ _).block ≠ _; rw [add_block]; exact hn157_2) | exact hn157_2) (.int .i64 ((rd_T63 l3 x40_2).f2.f0))).trans hx157_3
        replace hx157_4 := (cell_far (p := ⟨gb156, 2, none⟩) (by first | (rw [add_block]; exact hn157_2) | (show (Addr.add _ _).block ≠ _; rw [add_block]; exact hn157_2) | exact hn157_2) (.int .i64 ((rd_T63 l3 x40_2).f2.f0))).trans hx157_4
        replace hx157_0 := (cell_far (p := ⟨gb156, 3, none⟩) (by first | (rw [add_block]; exact hn157_3) | (show (Addr.add _ _).block ≠ _; rw [add_block]; exact hn157_3) | exact hn157_3) (.int .i64 ((rd_T63 l3 x40_2).f2.f1))).trans hx157_0
        replace hx157_1 := (cell_far (p := ⟨gb156, 3, none⟩) (by first | (rw [add_block]; exact hn157_3) | (show (Addr.add _ _).block ≠ _; rw [add_block]; exact hn157_3) | exact hn157_3) (.int .i64 ((rd_T63 l3 x40_2).f2.f1))).trans hx157_1
        replace hx157_2 := (cell_far (p := ⟨gb156, 3, none⟩) (by first | (rw [add_block]; exact hn157_3) | (show (Addr.add _ _).block ≠ _; rw [add_block]; exact hn157_3) | exact hn157_3) (.int .i64 ((rd_T63 l3 x40_2).f2.f1))).trans hx157_2
        replace hx157_3 := (cell_far (p := ⟨gb156, 3, none⟩) (by first | (rw [add_block]; exact hn157_3) | (show (Addr.add _ _).block ≠ _; rw [add_block]; exact hn157_3) | exact hn157_3) (.int .i64 ((rd_T63 l3 x40_2).f2.f1))).trans hx157_3
        replace hx157_4 := (cell_far (p := ⟨gb156, 3, none⟩) (by first | (rw [add_block]; exact hn157_3) | (show (Addr.add _ _).block ≠ _; rw [add_block]; exact hn157_3) | exact hn157_3) (.int .i64 ((rd_T63 l3 x40_2).f2.f1))).trans hx157_4
        clear hn157_0; clear hn157_1; clear hn157_2; clear hn157_3; replace p157 := eq_true p157
        replace q157 := eq_true q157
        go_wp2
        go_meet
        case rel => exact ⟨_, ((((rd_T67 l0_6 ((rd_T63 l3 x40_2).f0)).f1) != 1)), (by first | rfl | (simp; done) | (simp [*]; done)), H', ⟨by have := HK1.out; have := HK2.out; first | omega | exact Nat.le_refl _⟩, ⟨by (with_reducible repeat (first | apply Kd.R_alloc | apply Kd.R_drewN | apply Kd.R_drew)); exact Kd.R_mono (Kd.R_far (p := ⟨gb156, 3, none⟩) (Kd.R_far (p := ⟨gb156, 2, none⟩) (Kd.R_far (p := ⟨gb156, 1, none⟩) (Kd.R_far (p := ⟨gb156, 0, none⟩) (Kd.R_types HO_9.out BK156.out (by decide)) (fun _ hk => hk.2) (.int .i64 ((rd_T63 l3 x40_2).f0))) (fun _ hk => hk.2) (.int .i64 ((rd_T63 l3 x40_2).f1))) (fun _ hk => hk.2) (.int .i64 ((rd_T63 l3 x40_2).f2.f0))) (fun _ hk => hk.2) (.int .i64 ((rd_T63 l3 x40_2).f2.f1))) (fun _ hk => trivial)⟩, ⟨by (with_reducible repeat (first | refine blk_drewN ?_ _ | refine blk_drew ?_ | refine blk_alloc ?_ _)); refine blk_far ?_ NB147_156.out _; (with_reducible repeat (first | refine blk_drewN ?_ _ | refine blk_drew ?_ | refine blk_alloc ?_ _)); refine blk_far ?_ NB147_156.out _; (with_reducible repeat (first | refine blk_drewN ?_ _ | refine blk_drew ?_ | refine blk_alloc ?_ _)); refine blk_far ?_ NB147_156.out _; (with_reducible repeat (first | refine blk_drewN ?_ _ | refine blk_drew ?_ | refine blk_alloc ?_ _)); refine blk_far ?_ NB147_156.out _; (with_reducible repeat (first | refine blk_drewN ?_ _ | refine blk_drew ?_ | refine blk_alloc ?_ _)); exact BK147.out⟩, ⟨by (with_reducible repeat (first | refine blk_drewN ?_ _ | refine blk_drew ?_ | refine blk_alloc ?_ _)); refine blk_put (cs := #[.int .i64 ((rd_T63 l3 x40_2).f0), .int .i64 ((rd_T63 l3 x40_2).f1), .int .i64 ((rd_T63 l3 x40_2).f2.f0), .int .i64 0]) ?_ 3 _ rfl; (with_reducible repeat (first | refine blk_drewN ?_ _ | refine blk_drew ?_ | refine blk_alloc ?_ _)); refine blk_put (cs := #[.int .i64 ((rd_T63 l3 x40_2).f0), .int .i64 ((rd_T63 l3 x40_2).f1), .int .i64 0, .int .i64 0]) ?_ 2 _ rfl; (with_reducible repeat (first | refine blk_drewN ?_ _ | refine blk_drew ?_ | refine blk_alloc ?_ _)); refine blk_put (cs := #[.int .i64 ((rd_T63 l3 x40_2).f0), .int .i64 0, .int .i64 0, .int .i64 0]) ?_ 1 _ rfl; (with_reducible repeat (first | refine blk_drewN ?_ _ | refine blk_drew ?_ | refine blk_alloc ?_ _)); refine blk_put (cs := #[.int .i64 0, .int .i64 0, .int .i64 0, .int .i64 0]) ?_ 0 _ rfl; (with_reducible repeat (first | refine blk_drewN ?_ _ | refine blk_drew ?_ | refine blk_alloc ?_ _)); exact BK156.out⟩, ⟨ahx⟩⟩
     case rest =>
      clear HC19; try clear c1
      try clear p1
      try clear q1
      try clear hx1
      try clear c2
      try clear p2
      try clear c3
      try clear p6
      try clear c8
      try clear c8b0
      try clear c10
      try clear c10b0
      try clear c11
      try clear c11b0
      try clear c13
      try clear p14
      try clear q14
      try clear hx14
      try clear p15
      try clear q15
      try clear hx15
      try clear c16
      try clear c16b0
      try clear c17
      try clear c17b0
      try clear c18
      try clear c18b0
      try clear c21
      try clear c23
      try clear c23b0
      try clear c24
      try clear c26
      try clear c26b0
      try clear c27
      try clear c30
      try clear c30b0
      try clear c31
      try clear c31b0
      try clear c32
      try clear hcz22_0
      try clear hcz22_1
      try clear hcz22_2
      try clear hcz22_3
      try clear hcz25_0
      try clear hcz25_1
      try clear hcz25_2
      try clear hcz25_3
      try clear hcz28_0
      try clear hcz28_1
      try clear hcz28_2
      try clear hcz28_3
      try clear hcz29_0
      try clear hcz29_1
      try clear hcz29_10
      try clear hcz29_2
      try clear hcz29_3
      try clear hcz29_4
      try clear hcz29_5
      try clear hcz29_6
      try clear hcz29_7
      try clear hcz29_8
      try clear hcz29_9
      try clear hcz33_0
      try clear hcz33_1
      try clear hcz33_2
      try clear hcz33_3
      try clear hcz34_0
      try clear hcz34_1
      try clear hcz34_10
      try clear hcz34_2
      try clear hcz34_3
      try clear hcz34_4
      try clear hcz34_5
      try clear hcz34_6
      try clear hcz34_7
      try clear hcz34_8
      try clear hcz34_9
      try clear hcz7_0
      try clear hcz7_1
      try clear hcz7_10
      try clear hcz7_2
      try clear hcz7_3
      try clear hcz7_4
      try clear hcz7_5
      try clear hcz7_6
      try clear hcz7_7
      try clear hcz7_8
      try clear hcz7_9
      try clear hfz22_0
      try clear hfz22_1
      try clear hfz22_2
      try clear hfz22_3
      try clear hfz25_0
      try clear hfz25_1
      try clear hfz25_2
      try clear hfz25_3
      try clear hfz28_0
      try clear hfz28_1
      try clear hfz28_2
      try clear hfz28_3
      try clear hfz29_0
      try clear hfz29_1
      try clear hfz29_10
      try clear hfz29_2
      try clear hfz29_3
      try clear hfz29_4
      try clear hfz29_5
      try clear hfz29_6
      try clear hfz29_7
      try clear hfz29_8
      try clear hfz29_9
      try clear hfz33_0
      try clear hfz33_1
      try clear hfz33_2
      try clear hfz33_3
      try clear hfz34_0
      try clear hfz34_1
      try clear hfz34_10
      try clear hfz34_2
      try clear hfz34_3
      try clear hfz34_4
      try clear hfz34_5
      try clear hfz34_6
      try clear hfz34_7
      try clear hfz34_8
      try clear hfz34_9
      try clear hfz7_0
      try clear hfz7_1
      try clear hfz7_10
      try clear hfz7_2
      try clear hfz7_3
      try clear hfz7_4
      try clear hfz7_5
      try clear hfz7_6
      try clear hfz7_7
      try clear hfz7_8
      try clear hfz7_9
      try clear hx149_0
      try clear hx155_0
      try clear hx155_1
      try clear hx155_2
      try clear hx155_3
      try clear hx157_0
      try clear hx157_1
      try clear hx157_2
      try clear hx157_3
      try clear hx157_4
      try clear p1
      try clear p14
      try clear p149
      try clear p155
      try clear p157
      try clear p2
      try clear p6
      try clear q1
      try clear q14
      try clear q149
      try clear q155
      try clear q157
      obtain ⟨kq, x64_18, rfl, HA, HJ18, HO_9, BK147, BK156, HB⟩ := hcut
      cases kq with
      | zero => exact absurd HA.out (by simp [rain_Cells.j3])
      | succ kj18 =>
       have H := HA.out; clear HA; simp only [rain_Cells.j3] at H
       by_cases c35 : x64_18 = true
       ·subst c35; have H1 : (rain_Cells.l1 kj18 x9_2 l3 (l3.length : Int) (wrap64 (x40_2 + 1)) a0_0 l0_1 a0_2 l0_3 l0_4 l0_5 l0_6 l0_7 l0_8 l0_9 a0_10) = some r := by rw [if_pos rfl] at H; exact H
        clear H; have H := H1; clear H1
        as_aux_lemma =>
         have H' := Aside0.mk H; clear H; go_wp2
         go_roundg kj18
         case measure => have := HK1.out; have := HK2.out; have := HJ18.out; omega
         case rel => exact ⟨(x9_2), (wrap64 (x40_2 + 1)), (by first | rfl | (simp; done) | (simp [*]; done)), H', ⟨by have := HK1.out; have := HK2.out; have := HJ18.out; omega⟩, ⟨by (with_reducible repeat (first | apply Kd.R_alloc | apply Kd.R_drewN | apply Kd.R_drew)); exact HO_9.out⟩, ⟨by (with_reducible repeat (first | refine blk_drewN ?_ _ | refine blk_drew ?_ | refine blk_alloc ?_ _)); exact BK147.out⟩, ⟨ahx⟩⟩
       replace c35 := Bool.eq_false_iff.mpr c35
       subst c35; have H1 : (if 0 ≤ ((rd_T63 l3 x40_2).f0) then (if ((rd_T63 l3 x40_2).f0) < (l0_6.length : Int) then (if ((rd_T67 l0_6 ((rd_T63 l3 x40_2).f0)).f2) < 0 then (rain_Cells.j4 kj18 x9_2 ((rd_T67 l0_6 ((rd_T63 l3 x40_2).f0)).f2) l3 (l3.length : Int) x40_2 true a0_0 l0_1 a0_2 l0_3 l0_4 l0_5 l0_6 l0_7 l0_8 l0_9 a0_10 ((rd_T63 l3 x40_2).f0) ((rd_T63 l3 x40_2).f1) ((rd_T63 l3 x40_2).f2.f0) ((rd_T63 l3 x40_2).f2.f1)) else (if ((rd_T67 l0_6 ((rd_T63 l3 x40_2).f0)).f2) ≥ (x9_2.length : Int) then (rain_Cells.j4 kj18 x9_2 ((rd_T67 l0_6 ((rd_T63 l3 x40_2).f0)).f2) l3 (l3.length : Int) x40_2 true a0_0 l0_1 a0_2 l0_3 l0_4 l0_5 l0_6 l0_7 l0_8 l0_9 a0_10 ((rd_T63 l3 x40_2).f0) ((rd_T63 l3 x40_2).f1) ((rd_T63 l3 x40_2).f2.f0) ((rd_T63 l3 x40_2).f2.f1)) else ((span_Right.f ((rd_T63 l3 x40_2).f2.f0) ((rd_T63 l3 x40_2).f2.f1)).bind fun t159 => (rain_Cells.j4 kj18 x9_2 ((rd_T67 l0_6 ((rd_T63 l3 x40_2).f0)).f2) l3 (l3.length : Int) x40_2 (!t159) a0_0 l0_1 a0_2 l0_3 l0_4 l0_5 l0_6 l0_7 l0_8 l0_9 a0_10 ((rd_T63 l3 x40_2).f0) ((rd_T63 l3 x40_2).f1) ((rd_T63 l3 x40_2).f2.f0) ((rd_T63 l3 x40_2).f2.f1))))) else (none)) else (none)) = some r := by rw [if_neg (show ¬ (false = true) by decide)] at H; exact H
       clear H; have H := H1; clear H1
       by_cases c36 : 0 ≤ ((rd_T63 l3 x40_2).f0)
       rotate_left
       ·rw [if_neg c36] at H
        exact absurd H (by simp)
       rw [if_pos c36] at H
       have c36b0 : decide (0 ≤ ((rd_T63 l3 x40_2).f0)) = true := decide_eq_true c36
       clear c36
       by_cases c37 : ((rd_T63 l3 x40_2).f0) < (l0_6.length : Int)
       rotate_left
       ·rw [if_neg c37] at H
        exact absurd H (by simp)
       rw [if_pos c37] at H
       have c37b0 : decide (((rd_T63 l3 x40_2).f0) < (l0_6.length : Int)) = true := decide_eq_true c37
       clear c37; have HC38 := Aside0.mk H
       clear H; have hnb39 := NB147_156.out; have hnc39 := NB156_147.out; have hcz40_0 : wc.cell? ⟨gb147, 0, none⟩ = some (.string a0_0) := (blk_cell BK147.out 0).trans rfl
       have hcz40_1 : wc.cell? ⟨gb147, 1, none⟩ = some (.slice A0_1 l0_1.length c0_1) := (blk_cell BK147.out 1).trans rfl
       have hcz40_2 : wc.cell? ⟨gb147, 2, none⟩ = some (.int .i64 a0_2) := (blk_cell BK147.out 2).trans rfl
       have hcz40_3 : wc.cell? ⟨gb147, 3, none⟩ = some (.slice A0_3 l0_3.length c0_3) := (blk_cell BK147.out 3).trans rfl
       have hcz40_4 : wc.cell? ⟨gb147, 4, none⟩ = some (.slice A0_4 l0_4.length c0_4) := (blk_cell BK147.out 4).trans rfl
       have hcz40_5 : wc.cell? ⟨gb147, 5, none⟩ = some (.slice A0_5 l0_5.length c0_5) := (blk_cell BK147.out 5).trans rfl
       have hcz40_6 : wc.cell? ⟨gb147, 6, none⟩ = some (.slice A0_6 l0_6.length c0_6) := (blk_cell BK147.out 6).trans rfl
       have hcz40_7 : wc.cell? ⟨gb147, 7, none⟩ = some (.slice A0_7 l0_7.length c0_7) := (blk_cell BK147.out 7).trans rfl
       have hcz40_8 : wc.cell? ⟨gb147, 8, none⟩ = some (.slice A0_8 l0_8.length c0_8) := (blk_cell BK147.out 8).trans rfl
       have hcz40_9 : wc.cell? ⟨gb147, 9, none⟩ = some (.slice A0_9 l0_9.length c0_9) := (blk_cell BK147.out 9).trans rfl
       have hcz40_10 : wc.cell? ⟨gb147, 10, none⟩ = some (.int .i64 a0_10) := (blk_cell BK147.out 10).trans rfl
       have hfz40_0 := blk_frozen BK147.out 0
       have hfz40_1 := blk_frozen BK147.out 1
       have hfz40_2 := blk_frozen BK147.out 2
       have hfz40_3 := blk_frozen BK147.out 3
       have hfz40_4 := blk_frozen BK147.out 4
       have hfz40_5 := blk_frozen BK147.out 5
       have hfz40_6 := blk_frozen BK147.out 6
       have hfz40_7 := blk_frozen BK147.out 7
       have hfz40_8 := blk_frozen BK147.out 8
       have hfz40_9 := blk_frozen BK147.out 9
       have hfz40_10 := blk_frozen BK147.out 10
       have hcz41_0 : wc.cell? ⟨gb156, 0, none⟩ = some (.int .i64 ((rd_T63 l3 x40_2).f0)) := (blk_cell BK156.out 0).trans rfl
       have hcz41_1 : wc.cell? ⟨gb156, 1, none⟩ = some (.int .i64 ((rd_T63 l3 x40_2).f1)) := (blk_cell BK156.out 1).trans rfl
       have hcz41_2 : wc.cell? ⟨gb156, 2, none⟩ = some (.int .i64 ((rd_T63 l3 x40_2).f2.f0)) := (blk_cell BK156.out 2).trans rfl
       have hcz41_3 : wc.cell? ⟨gb156, 3, none⟩ = some (.int .i64 ((rd_T63 l3 x40_2).f2.f1)) := (blk_cell BK156.out 3).trans rfl
       have hfz41_0 := blk_frozen BK156.out 0
       have hfz41_1 := blk_frozen BK156.out 1
       have hfz41_2 := blk_frozen BK156.out 2
       have hfz41_3 := blk_frozen BK156.out 3
       have p158 : 0 ≤ (((rd_T63 l3 x40_2).f0) : Int) := of_decide_eq_true (by first | (with_reducible assumption) | assumption)
       have q158 : ((rd_T63 l3 x40_2).f0) < (l0_6.length : Int) := of_decide_eq_true (by first | (with_reducible assumption) | assumption)
       obtain ⟨ad158, e158, hx158_0, hx158_1, hx158_2, hx158_3, hx158_4⟩ := at_T67 HR0_6.out ((rd_T63 l3 x40_2).f0) p158 q158
       cases e158
       replace hx158_0 := (HB.out.cell (World.block_lt_of_cell? w _ hx158_0)).trans hx158_0
       replace hx158_1 := (HB.out.cell (World.block_lt_of_cell? w _ hx158_1)).trans hx158_1
       replace hx158_2 := (HB.out.cell (World.block_lt_of_cell? w _ hx158_2)).trans hx158_2
       replace hx158_3 := (HB.out.cell (World.block_lt_of_cell? w _ hx158_3)).trans hx158_3
       replace hx158_4 := (HB.out.cell (World.block_lt_of_cell? w _ hx158_4)).trans hx158_4
       replace p158 := eq_true p158
       replace q158 := eq_true q158
       go_upto_region 15 with (fail)
       go_cut [85] (fun v85 wc => ∃ (kq : Nat) (x85_37 : Bool), v85 = .bool x85_37 ∧ Aside0 (rain_Cells.j4 kq x9_2 ((rd_T67 l0_6 ((rd_T63 l3 x40_2).f0)).f2) l3 (l3.length : Int) x40_2 x85_37 a0_0 l0_1 a0_2 l0_3 l0_4 l0_5 l0_6 l0_7 l0_8 l0_9 a0_10 ((rd_T63 l3 x40_2).f0) ((rd_T63 l3 x40_2).f1) ((rd_T63 l3 x40_2).f2.f0) ((rd_T63 l3 x40_2).f2.f1) = some r) ∧ Aside0 (kq ≤ kj18) ∧ Aside0 (Kd.R k26 26 wc w.heap.size (fun _ => True) u9 x9_2) ∧ Aside0 (wc.heap[gb147]? = some (.cells #[.string a0_0, (.slice A0_1 l0_1.length c0_1), .int .i64 a0_2, (.slice A0_3 l0_3.length c0_3), (.slice A0_4 l0_4.length c0_4), (.slice A0_5 l0_5.length c0_5), (.slice (some ad158) l0_6.length c0_6), (.slice A0_7 l0_7.length c0_7), (.slice A0_8 l0_8.length c0_8), (.slice A0_9 l0_9.length c0_9), .int .i64 a0_10] 41 (0, 0))) ∧ Aside0 (wc.heap[gb156]? = some (.cells #[.int .i64 ((rd_T63 l3 x40_2).f0), .int .i64 ((rd_T63 l3 x40_2).f1), .int .i64 ((rd_T63 l3 x40_2).f2.f0), .int .i64 ((rd_T63 l3 x40_2).f2.f1)] 63 (0, 0))) ∧ Aside0 (Below w.heap.size w wc))
       case first =>
        have H := HC38.out; clear HC38
        by_cases c42 : ((rd_T67 l0_6 ((rd_T63 l3 x40_2).f0)).f2) < 0
        ·rw [if_pos c42] at H
         have c42b0 : decide (((rd_T67 l0_6 ((rd_T63 l3 x40_2).f0)).f2) < 0) = true := decide_eq_true c42
         clear c42; (first | rw [c42b0] | (simp only [i64_w, i32_w]; rw [c42b0]) | skip)
         as_aux_lemma =>
          have H' := Aside0.mk H; clear H; go_wp2
          go_meet
          case rel => exact ⟨_, (true), (by first | rfl | (simp; done) | (simp [*]; done)), H', ⟨by have := HK1.out; have := HK2.out; have := HJ18.out; first | omega | exact Nat.le_refl _⟩, ⟨by (with_reducible repeat (first | apply Kd.R_alloc | apply Kd.R_drewN | apply Kd.R_drew)); exact HO_9.out⟩, ⟨by (with_reducible repeat (first | refine blk_drewN ?_ _ | refine blk_drew ?_ | refine blk_alloc ?_ _)); exact BK147.out⟩, ⟨by (with_reducible repeat (first | refine blk_drewN ?_ _ | refine blk_drew ?_ | refine blk_alloc ?_ _)); exact BK156.out⟩, ⟨ahx⟩⟩
        ·rw [if_neg c42] at H
         have c42b0 : decide (((rd_T67 l0_6 ((rd_T63 l3 x40_2).f0)).f2) < 0) = false := decide_eq_false c42
         clear c42; (first | rw [c42b0] | (simp only [i64_w, i32_w]; rw [c42b0]) | skip)
         by_cases c43 : ((rd_T67 l0_6 ((rd_T63 l3 x40_2).f0)).f2) ≥ (x9_2.length : Int)
         ·rw [if_pos c43] at H
          have c43b0 : decide ((x9_2.length : Int) ≤ ((rd_T67 l0_6 ((rd_T63 l3 x40_2).f0)).f2)) = true := decide_eq_true c43
          clear c43
          as_aux_lemma =>
           have H' := Aside0.mk H; clear H; obtain ⟨Ao44, co44, eo44⟩ := Kd.R_slice HO_9.out
           subst eo44; go_wp2
           go_meet
           case rel => exact ⟨_, (true), (by first | rfl | (simp; done) | (simp [*]; done)), H', ⟨by have := HK1.out; have := HK2.out; have := HJ18.out; first | omega | exact Nat.le_refl _⟩, ⟨by (with_reducible repeat (first | apply Kd.R_alloc | apply Kd.R_drewN | apply Kd.R_drew)); exact HO_9.out⟩, ⟨by (with_reducible repeat (first | refine blk_drewN ?_ _ | refine blk_drew ?_ | refine blk_alloc ?_ _)); exact BK147.out⟩, ⟨by (with_reducible repeat (first | refine blk_drewN ?_ _ | refine blk_drew ?_ | refine blk_alloc ?_ _)); exact BK156.out⟩, ⟨ahx⟩⟩
         rw [if_neg c43] at H
         have c43b0 : decide ((x9_2.length : Int) ≤ ((rd_T67 l0_6 ((rd_T63 l3 x40_2).f0)).f2)) = false := decide_eq_false c43
         clear c43; replace H := Option.bind_eq_some_iff.mp H; obtain ⟨t159, A450, H⟩ := H; replace H : (rain_Cells.j4 kj18 x9_2 ((rd_T67 l0_6 ((rd_T63 l3 x40_2).f0)).f2) l3 (l3.length : Int) x40_2 (!t159) a0_0 l0_1 a0_2 l0_3 l0_4 l0_5 l0_6 l0_7 l0_8 l0_9 a0_10 ((rd_T63 l3 x40_2).f0) ((rd_T63 l3 x40_2).f1) ((rd_T63 l3 x40_2).f2.f0) ((rd_T63 l3 x40_2).f2.f1)) = some r := H
         have A45 := Aside0.mk A450
         clear A450
         as_aux_lemma =>
          have H' := Aside0.mk H; clear H; obtain ⟨Ao46, co46, eo46⟩ := Kd.R_slice HO_9.out
          subst eo46; have hnb47 := NB156_147.out; have hnc47 := NB147_156.out; have hcz48_0 : wc.cell? ⟨gb156, 0, none⟩ = some (.int .i64 ((rd_T63 l3 x40_2).f0)) := (blk_cell BK156.out 0).trans rfl
          have hcz48_1 : wc.cell? ⟨gb156, 1, none⟩ = some (.int .i64 ((rd_T63 l3 x40_2).f1)) := (blk_cell BK156.out 1).trans rfl
          have hcz48_2 : wc.cell? ⟨gb156, 2, none⟩ = some (.int .i64 ((rd_T63 l3 x40_2).f2.f0)) := (blk_cell BK156.out 2).trans rfl
          have hcz48_3 : wc.cell? ⟨gb156, 3, none⟩ = some (.int .i64 ((rd_T63 l3 x40_2).f2.f1)) := (blk_cell BK156.out 3).trans rfl
          have hfz48_0 := blk_frozen BK156.out 0
          have hfz48_1 := blk_frozen BK156.out 1
          have hfz48_2 := blk_frozen BK156.out 2
          have hfz48_3 := blk_frozen BK156.out 3
          go_wp2_with (first | (go_at_call 9; (with_reducible refine (span_Right.calls ((rd_T63 l3 x40_2).f2.f0) ((rd_T63 l3 x40_2).f2.f1) t159 _ A45.out).mono ?_); rintro e w49 ⟨rfl, hb⟩; have n0_ := Aside0.mk (Kd.R_below (by (with_reducible repeat (first | apply Kd.R_alloc | apply Kd.R_drewN | apply Kd.R_drew)); exact HO_9.out) hb); have n1_ := Aside0.mk (blk_below (g := gb147) (o := .cells #[.string a0_0, .slice A0_1 l0_1.length c0_1, .int .i64 a0_2, .slice A0_3 l0_3.length c0_3, .slice A0_4 l0_4.length c0_4, .slice A0_5 l0_5.length c0_5, .slice (some ad158) l0_6.length c0_6, .slice A0_7 l0_7.length c0_7, .slice A0_8 l0_8.length c0_8, .slice A0_9 l0_9.length c0_9, .int .i64 a0_10] 41 (0, 0)) abx hb); have n2_ := Aside0.mk (blk_below (g := gb156) (o := .cells #[.int .i64 ((rd_T63 l3 x40_2).f0), .int .i64 ((rd_T63 l3 x40_2).f1), .int .i64 ((rd_T63 l3 x40_2).f2.f0), .int .i64 ((rd_T63 l3 x40_2).f2.f1)] 63 (0, 0)) abx hb); have n3_ := Aside0.mk (below_step ahx hb); clear HO_9; clear BK147; clear BK156; clear HB; have HO_9 := n0_; have BK147 := n1_; have BK156 := n2_; have HB := n3_; clear n0_ n1_ n2_ n3_; (try clear hb); (try clear hb2); (try clear hk); (try clear hi)))
          go_meet
          case rel => exact ⟨_, (!t159), (by first | rfl | (simp; done) | (simp [*]; done)), H', ⟨by have := HK1.out; have := HK2.out; have := HJ18.out; first | omega | exact Nat.le_refl _⟩, ⟨by (with_reducible repeat (first | apply Kd.R_alloc | apply Kd.R_drewN | apply Kd.R_drew)); exact HO_9.out⟩, ⟨by (with_reducible repeat (first | refine blk_drewN ?_ _ | refine blk_drew ?_ | refine blk_alloc ?_ _)); exact BK147.out⟩, ⟨by (with_reducible repeat (first | refine blk_drewN ?_ _ | refine blk_drew ?_ | refine blk_alloc ?_ _)); exact BK156.out⟩, ⟨ahx⟩⟩
       case rest =>
        clear HC38; try clear c1
        try clear p1
        try clear q1
        try clear hx1
        try clear c2
        try clear p2
        try clear c3
        try clear c4
        try clear p6
        try clear c8
        try clear c8b0
        try clear c10
        try clear c10b0
        try clear c11
        try clear c11b0
        try clear c13
        try clear p14
        try clear q14
        try clear hx14
        try clear p15
        try clear q15
        try clear hx15
        try clear c16
        try clear c16b0
        try clear c17
        try clear c17b0
        try clear c18
        try clear c18b0
        try clear c21
        try clear c23
        try clear c23b0
        try clear c24
        try clear c26
        try clear c26b0
        try clear c27
        try clear c30
        try clear c30b0
        try clear c31
        try clear c31b0
        try clear c32
        try clear c35
        try clear c36
        try clear c36b0
        try clear c37
        try clear c37b0
        try clear c39
        try clear c42
        try clear c42b0
        try clear c43
        try clear c43b0
        try clear c47
        try clear hcz22_0
        try clear hcz22_1
        try clear hcz22_2
        try clear hcz22_3
        try clear hcz25_0
        try clear hcz25_1
        try clear hcz25_2
        try clear hcz25_3
        try clear hcz28_0
        try clear hcz28_1
        try clear hcz28_2
        try clear hcz28_3
        try clear hcz29_0
        try clear hcz29_1
        try clear hcz29_10
        try clear hcz29_2
        try clear hcz29_3
        try clear hcz29_4
        try clear hcz29_5
        try clear hcz29_6
        try clear hcz29_7
        try clear hcz29_8
        try clear hcz29_9
        try clear hcz33_0
        try clear hcz33_1
        try clear hcz33_2
        try clear hcz33_3
        try clear hcz34_0
        try clear hcz34_1
        try clear hcz34_10
        try clear hcz34_2
        try clear hcz34_3
        try clear hcz34_4
        try clear hcz34_5
        try clear hcz34_6
        try clear hcz34_7
        try clear hcz34_8
        try clear hcz34_9
        try clear hcz40_0
        try clear hcz40_1
        try clear hcz40_10
        try clear hcz40_2
        try clear hcz40_3
        try clear hcz40_4
        try clear hcz40_5
        try clear hcz40_6
        try clear hcz40_7
        try clear hcz40_8
        try clear hcz40_9
        try clear hcz41_0
        try clear hcz41_1
        try clear hcz41_2
        try clear hcz41_3
        try clear hcz48_0
        try clear hcz48_1
        try clear hcz48_2
        try clear hcz48_3
        try clear hcz7_0
        try clear hcz7_1
        try clear hcz7_10
        try clear hcz7_2
        try clear hcz7_3
        try clear hcz7_4
        try clear hcz7_5
        try clear hcz7_6
        try clear hcz7_7
        try clear hcz7_8
        try clear hcz7_9
        try clear hfz22_0
        try clear hfz22_1
        try clear hfz22_2
        try clear hfz22_3
        try clear hfz25_0
        try clear hfz25_1
        try clear hfz25_2
        try clear hfz25_3
        try clear hfz28_0
        try clear hfz28_1
        try clear hfz28_2
        try clear hfz28_3
        try clear hfz29_0
        try clear hfz29_1
        try clear hfz29_10
        try clear hfz29_2
        try clear hfz29_3
        try clear hfz29_4
        try clear hfz29_5
        try clear hfz29_6
        try clear hfz29_7
        try clear hfz29_8
        try clear hfz29_9
        try clear hfz33_0
        try clear hfz33_1
        try clear hfz33_2
        try clear hfz33_3
        try clear hfz34_0
        try clear hfz34_1
        try clear hfz34_10
        try clear hfz34_2
        try clear hfz34_3
        try clear hfz34_4
        try clear hfz34_5
        try clear hfz34_6
        try clear hfz34_7
        try clear hfz34_8
        try clear hfz34_9
        try clear hfz40_0
        try clear hfz40_1
        try clear hfz40_10
        try clear hfz40_2
        try clear hfz40_3
        try clear hfz40_4
        try clear hfz40_5
        try clear hfz40_6
        try clear hfz40_7
        try clear hfz40_8
        try clear hfz40_9
        try clear hfz41_0
        try clear hfz41_1
        try clear hfz41_2
        try clear hfz41_3
        try clear hfz48_0
        try clear hfz48_1
        try clear hfz48_2
        try clear hfz48_3
        try clear hfz7_0
        try clear hfz7_1
        try clear hfz7_10
        try clear hfz7_2
        try clear hfz7_3
        try clear hfz7_4
        try clear hfz7_5
        try clear hfz7_6
        try clear hfz7_7
        try clear hfz7_8
        try clear hfz7_9
        try clear hx149_0
        try clear hx155_0
        try clear hx155_1
        try clear hx155_2
        try clear hx155_3
        try clear hx157_0
        try clear hx157_1
        try clear hx157_2
        try clear hx157_3
        try clear hx157_4
        try clear hx158_0
        try clear hx158_1
        try clear hx158_2
        try clear hx158_3
        try clear hx158_4
        try clear p1
        try clear p14
        try clear p149
        try clear p15
        try clear p155
        try clear p157
        try clear p158
        try clear p2
        try clear p6
        try clear q1
        try clear q14
        try clear q149
        try clear q15
        try clear q155
        try clear q157
        try clear q158
        obtain ⟨kq, x85_37, rfl, HA, HJ37, HO_9, BK147, BK156, HB⟩ := hcut
        cases kq with
        | zero => exact absurd HA.out (by simp [rain_Cells.j4])
        | succ kj37 =>
         have H := HA.out; clear HA; simp only [rain_Cells.j4] at H
         by_cases c50 : x85_37 = true
         ·subst c50; have H1 : (rain_Cells.l1 kj37 x9_2 l3 (l3.length : Int) (wrap64 (x40_2 + 1)) a0_0 l0_1 a0_2 l0_3 l0_4 l0_5 l0_6 l0_7 l0_8 l0_9 a0_10) = some r := by rw [if_pos rfl] at H; exact H
          clear H; have H := H1; clear H1
          as_aux_lemma =>
           have H' := Aside0.mk H; clear H; go_wp2
           go_roundg kj37
           case measure => have := HK1.out; have := HK2.out; have := HJ18.out; have := HJ37.out; omega
           case rel => exact ⟨(x9_2), (wrap64 (x40_2 + 1)), (by first | rfl | (simp; done) | (simp [*]; done)), H', ⟨by have := HK1.out; have := HK2.out; have := HJ18.out; have := HJ37.out; omega⟩, ⟨by (with_reducible repeat (first | apply Kd.R_alloc | apply Kd.R_drewN | apply Kd.R_drew)); exact HO_9.out⟩, ⟨by (with_reducible repeat (first | refine blk_drewN ?_ _ | refine blk_drew ?_ | refine blk_alloc ?_ _)); exact BK147.out⟩, ⟨ahx⟩⟩
         replace c50 := Bool.eq_false_iff.mpr c50
         subst c50; have H1 : (if 0 ≤ ((rd_T67 l0_6 ((rd_T63 l3 x40_2).f0)).f2) then (if ((rd_T67 l0_6 ((rd_T63 l3 x40_2).f0)).f2) < (x9_2.length : Int) then ((span_Meet.f ((rd_T26 x9_2 ((rd_T67 l0_6 ((rd_T63 l3 x40_2).f0)).f2)).f0) ((rd_T26 x9_2 ((rd_T67 l0_6 ((rd_T63 l3 x40_2).f0)).f2)).f1) ((rd_T63 l3 x40_2).f2.f0) ((rd_T63 l3 x40_2).f2.f1)).bind fun bt161 => (if bt161.2.2 = true then (rain_Cells.l1 kj37 (x9_2.set (((rd_T67 l0_6 ((rd_T63 l3 x40_2).f0)).f2) : Int).toNat (⟨bt161.1, bt161.2.1⟩ : S26)) l3 (l3.length : Int) (wrap64 (x40_2 + 1)) a0_0 l0_1 a0_2 l0_3 l0_4 l0_5 l0_6 l0_7 l0_8 l0_9 a0_10) else (rain_Cells.l1 kj37 x9_2 l3 (l3.length : Int) (wrap64 (x40_2 + 1)) a0_0 l0_1 a0_2 l0_3 l0_4 l0_5 l0_6 l0_7 l0_8 l0_9 a0_10))) else (none)) else (none)) = some r := by rw [if_neg (show ¬ (false = true) by decide)] at H; exact H
         clear H; have H := H1; clear H1
         by_cases c51 : 0 ≤ ((rd_T67 l0_6 ((rd_T63 l3 x40_2).f0)).f2)
         rotate_left
         ·rw [if_neg c51] at H
          exact absurd H (by simp)
         rw [if_pos c51] at H
         have c51b0 : decide (0 ≤ ((rd_T67 l0_6 ((rd_T63 l3 x40_2).f0)).f2)) = true := decide_eq_true c51
         clear c51
         by_cases c52 : ((rd_T67 l0_6 ((rd_T63 l3 x40_2).f0)).f2) < (x9_2.length : Int)
         rotate_left
         ·rw [if_neg c52] at H
          exact absurd H (by simp)
         rw [if_pos c52] at H
         have c52b0 : decide (((rd_T67 l0_6 ((rd_T63 l3 x40_2).f0)).f2) < (x9_2.length : Int)) = true := decide_eq_true c52
         clear c52; replace H := Option.bind_eq_some_iff.mp H; obtain ⟨⟨t161, t162, t163⟩, A530, H⟩ := H
         replace H : (if t163 = true then (rain_Cells.l1 kj37 (x9_2.set (((rd_T67 l0_6 ((rd_T63 l3 x40_2).f0)).f2) : Int).toNat (⟨t161, t162⟩ : S26)) l3 (l3.length : Int) (wrap64 (x40_2 + 1)) a0_0 l0_1 a0_2 l0_3 l0_4 l0_5 l0_6 l0_7 l0_8 l0_9 a0_10) else (rain_Cells.l1 kj37 x9_2 l3 (l3.length : Int) (wrap64 (x40_2 + 1)) a0_0 l0_1 a0_2 l0_3 l0_4 l0_5 l0_6 l0_7 l0_8 l0_9 a0_10)) = some r := H
         have A53 := Aside0.mk A530
         clear A530
         by_cases c54 : t163 = true
         rotate_left
         ·replace c54 := Bool.eq_false_iff.mpr c54
          subst c54; have H1 : (rain_Cells.l1 kj37 x9_2 l3 (l3.length : Int) (wrap64 (x40_2 + 1)) a0_0 l0_1 a0_2 l0_3 l0_4 l0_5 l0_6 l0_7 l0_8 l0_9 a0_10) = some r := by rw [if_neg (show ¬ (false = true) by decide)] at H; exact H
          clear H; have H := H1; clear H1
          as_aux_lemma =>
           have H' := Aside0.mk H; clear H; try go_wp2
           have n0_ := Aside0.mk (Kd.R_drew HO_9.out); have n1_ := Aside0.mk (blk_drew BK147.out); have n2_ := Aside0.mk (blk_drew BK156.out); have n3_ := Aside0.mk (below_drew1 HB.out); clear HO_9; clear BK147; clear BK156; clear HB; have HO_9 := n0_; have BK147 := n1_; have BK156 := n2_; have HB := n3_; clear n0_ n1_ n2_ n3_; obtain ⟨Ao70, co70, eo70⟩ := Kd.R_slice HO_9.out
           (first | subst eo70 | (injection eo70 with f1_ f2_ f3_; have f4_ := f1_.symm; have f5_ := f3_.symm; clear f1_ f2_ f3_; subst f4_; subst f5_)); have p160 : 0 ≤ (((rd_T67 l0_6 ((rd_T63 l3 x40_2).f0)).f2) : Int) := of_decide_eq_true (by first | (with_reducible assumption) | assumption)
           have q160 : ((rd_T67 l0_6 ((rd_T63 l3 x40_2).f0)).f2) < (x9_2.length : Int) := of_decide_eq_true (by first | (with_reducible assumption) | assumption)
           obtain ⟨ad160, e160, hx160_0, hx160_1⟩ := at_T26 (Kd.R_reads' HO_9.out).2.2 ((rd_T67 l0_6 ((rd_T63 l3 x40_2).f0)).f2) p160 q160
           cases e160
           replace p160 := eq_true p160
           replace q160 := eq_true q160
           refine start_ (n := 13) (S := fun w' => w'.cell? ⟨gb156, 0, none⟩ = some (.int .i64 ((rd_T63 l3 x40_2).f0)) ∧ w'.cell? ⟨gb156, 1, none⟩ = some (.int .i64 ((rd_T63 l3 x40_2).f1)) ∧ w'.cell? ⟨gb156, 2, none⟩ = some (.int .i64 ((rd_T63 l3 x40_2).f2.f0)) ∧ w'.cell? ⟨gb156, 3, none⟩ = some (.int .i64 ((rd_T63 l3 x40_2).f2.f1)) ∧ w'.cell? (ad160.add ((((rd_T67 l0_6 ((rd_T63 l3 x40_2).f0)).f2)).toNat * 2)) = some (.int .i64 ((rd_T26 x9_2 ((rd_T67 l0_6 ((rd_T63 l3 x40_2).f0)).f2)).f0)) ∧ w'.cell? ⟨(ad160.add ((((rd_T67 l0_6 ((rd_T63 l3 x40_2).f0)).f2)).toNat * 2)).block, (ad160.add ((((rd_T67 l0_6 ((rd_T63 l3 x40_2).f0)).f2)).toNat * 2)).off + 1, none⟩ = some (.int .i64 ((rd_T26 x9_2 ((rd_T67 l0_6 ((rd_T63 l3 x40_2).f0)).f2)).f1))) (ds := []) #[O,O,O,O,O,O,O,O,O,O,O,O,O] (by kernel_rfl) rfl rfl ⟨(blk_cell BK156.out 0).trans rfl, (blk_cell BK156.out 1).trans rfl, (blk_cell BK156.out 2).trans rfl, (blk_cell BK156.out 3).trans rfl, hx160_0, hx160_1⟩ (fun hHeld => ?_); refine with_tabW rain_Cells.tab16 rain_Cells.bits16 (fun HT_ HW_ => ?_)
           generalize wc.drew = w69 at HO_9 BK147 BK156 HB hx160_0 hx160_1 hHeld ⊢
           as_aux_lemma =>
           refine pure_ (i := 0) (N := some 87) (v := ?_) (a' := ?_) #[Z,O,O,O,O,O,O,O,O,O,O,O,O] rfl rfl (any_of HT_.out (by kernel_rfl)) (fun _ _ _ h => h) (Or.inl ⟨by rfl, ?_⟩) ?_ ?_; rotate_left
           ·intro w'; go_simp; with_reducible rfl
           rotate_left
           ·simp only [Act.put, zA, zB, zC, i64_w, i32_w]; rfl
           as_aux_lemma =>
           refine pure_ (i := 1) (N := some 88) (v := ?_) (a' := ?_) #[Z,Z,O,O,O,O,O,O,O,O,O,O,O] rfl rfl (any_of HT_.out (by kernel_rfl)) (fun _ _ _ h => h) (Or.inl ⟨by rfl, ?_⟩) ?_ ?_; rotate_left
           ·intro w'; go_simp; with_reducible rfl
           rotate_left
           ·simp only [Act.put, zA, zB, zC, i64_w, i32_w]; rfl
           as_aux_lemma =>
           refine pure_ (i := 2) (N := some 89) (v := ?_) (a' := ?_) #[Z,Z,Z,O,O,O,O,O,O,O,O,O,O] rfl rfl (any_of HT_.out (by kernel_rfl)) (fun _ _ _ h => h) (Or.inl ⟨by rfl, ?_⟩) ?_ ?_; rotate_left
           ·intro w'; go_simp; with_reducible rfl
           rotate_left
           ·simp only [Act.put, zA, zB, zC, i64_w, i32_w]; rfl
           as_aux_lemma =>
           refine pure_ (i := 4) (N := some 91) (v := ?_) (a' := ?_) #[Z,Z,Z,O,Z,O,O,O,O,O,O,O,O] rfl rfl (any_of HT_.out (by kernel_rfl)) (fun _ _ _ h => h) (Or.inl ⟨by rfl, ?_⟩) ?_ ?_; rotate_left
           ·intro w'; go_simp; with_reducible rfl
           rotate_left
           ·simp only [Act.put, zA, zB, zC, i64_w, i32_w]; rfl
           as_aux_lemma =>
           refine take_ (i := 3) (N := some 90) (v := ?_) (a' := ?_) #[Z,Z,Z,Z,Z,O,O,O,O,O,O,O,O] rfl rfl (take_ofW HT_.out HW_.out (by kernel_rfl)) (fun _ _ _ h => h) (Or.inl ⟨by rfl, ?_⟩) hHeld ?_ ?_; rotate_left
           ·rintro w' ⟨s0, s1, s2, s3, s4, s5⟩
            go_simp; with_reducible rfl
           rotate_left
           ·simp only [Act.put, zA, zB, zC, i64_w, i32_w]; rfl
           as_aux_lemma =>
           refine take_ (i := 5) (N := some 92) (v := ?_) (a' := ?_) #[Z,Z,Z,Z,Z,Z,O,O,O,O,O,O,O] rfl rfl (take_ofW HT_.out HW_.out (by kernel_rfl)) (fun _ _ _ h => h) (Or.inl ⟨by rfl, ?_⟩) hHeld ?_ ?_; rotate_left
           ·rintro w' ⟨s0, s1, s2, s3, s4, s5⟩
            go_simp; with_reducible rfl
           rotate_left
           ·simp only [Act.put, zA, zB, zC, i64_w, i32_w]; rfl
           refine join_ (σ := Nat) 2 #[Z,Z,Z,Z,Z,Z,Z,Z,Z,Z,Z,O,O] (fun s_ => [(93, .tuple #[.agg #[.int .i64 t161, .int .i64 t162], .bool false]), (15, .pointer (some ⟨s_, 0, none⟩)), (86, .tuple #[.agg #[.int .i64 t161, .int .i64 t162], .bool false]), (94, .agg #[.int .i64 t161, .int .i64 t162]), (95, .bool false)]) (fun s_ w' => (w'.cell? ⟨gb156, 0, none⟩ = some (.int .i64 ((rd_T63 l3 x40_2).f0)) ∧ w'.cell? ⟨gb156, 1, none⟩ = some (.int .i64 ((rd_T63 l3 x40_2).f1)) ∧ w'.cell? ⟨gb156, 2, none⟩ = some (.int .i64 ((rd_T63 l3 x40_2).f2.f0)) ∧ w'.cell? ⟨gb156, 3, none⟩ = some (.int .i64 ((rd_T63 l3 x40_2).f2.f1)) ∧ w'.cell? (ad160.add ((((rd_T67 l0_6 ((rd_T63 l3 x40_2).f0)).f2)).toNat * 2)) = some (.int .i64 ((rd_T26 x9_2 ((rd_T67 l0_6 ((rd_T63 l3 x40_2).f0)).f2)).f0)) ∧ w'.cell? ⟨(ad160.add ((((rd_T67 l0_6 ((rd_T63 l3 x40_2).f0)).f2)).toNat * 2)).block, (ad160.add ((((rd_T67 l0_6 ((rd_T63 l3 x40_2).f0)).f2)).toNat * 2)).off + 1, none⟩ = some (.int .i64 ((rd_T26 x9_2 ((rd_T67 l0_6 ((rd_T63 l3 x40_2).f0)).f2)).f1))) ∧ (Kd.R k26 26 w' w.heap.size (fun k_ => k_ ≠ s_) (.slice (some ad160) x9_2.length co70) x9_2) ∧ (w'.heap[gb147]? = some (.cells #[.string a0_0, .slice A0_1 l0_1.length c0_1, .int .i64 a0_2, .slice A0_3 l0_3.length c0_3, .slice A0_4 l0_4.length c0_4, .slice A0_5 l0_5.length c0_5, .slice (some ad158) l0_6.length c0_6, .slice A0_7 l0_7.length c0_7, .slice A0_8 l0_8.length c0_8, .slice A0_9 l0_9.length c0_9, .int .i64 a0_10] 41 (0, 0))) ∧ (w'.heap[gb156]? = some (.cells #[.int .i64 ((rd_T63 l3 x40_2).f0), .int .i64 ((rd_T63 l3 x40_2).f1), .int .i64 ((rd_T63 l3 x40_2).f2.f0), .int .i64 ((rd_T63 l3 x40_2).f2.f1)] 63 (0, 0))) ∧ (w'.heap[s_]? = some (.cells #[.int .i64 0, .int .i64 0] 26 (0, 0))) ∧ (w.heap.size ≤ s_) ∧ (w.heap.size ≤ s_) ∧ (gb147 ≠ s_) ∧ (s_ ≠ gb147) ∧ (gb156 ≠ s_) ∧ (s_ ≠ gb156) ∧ (Below w.heap.size w w')) ?_ ?_
           rotate_left
           ·intro hCont; refine two_ (i := 6) (j := 10) (Ni := some 93) (Nj := some 15) #[Z,Z,Z,Z,Z,Z,Z,O,O,O,O,O,O] #[Z,Z,Z,Z,Z,Z,O,O,O,O,Z,O,O] rfl rfl rfl rfl (two_of HT_.out (by kernel_rfl)) (by decide) (by decide) (fun K hK => ?_) (fun K hK => ?_)
            ·skip
             refine goes_ Try.func33 (by kernel_rfl) rfl #[.agg #[.int .i64 ((rd_T26 x9_2 ((rd_T67 l0_6 ((rd_T63 l3 x40_2).f0)).f2)).f0), .int .i64 ((rd_T26 x9_2 ((rd_T67 l0_6 ((rd_T63 l3 x40_2).f0)).f2)).f1)], .agg #[.int .i64 ((rd_T63 l3 x40_2).f2.f0), .int .i64 ((rd_T63 l3 x40_2).f2.f1)]] (by rfl) rfl rfl (by (try simp only [List.map_toArray, List.map_cons, List.map_nil]); first | done | rfl | (simp only [List.length_drop, List.length_take]; rfl)) ?_; with_reducible refine (span_Meet.calls ((rd_T26 x9_2 ((rd_T67 l0_6 ((rd_T63 l3 x40_2).f0)).f2)).f0) ((rd_T26 x9_2 ((rd_T67 l0_6 ((rd_T63 l3 x40_2).f0)).f2)).f1) ((rd_T63 l3 x40_2).f2.f0) ((rd_T63 l3 x40_2).f2.f1) t161 t162 false _ A53.out).mono ?_
             rintro e w71 ⟨rfl, hb⟩
             have HS4_ := (hb.cell (World.block_lt_of_cell? _ _ (hHeld.2.2.2.2.1))).trans (hHeld.2.2.2.2.1)
             have HS5_ := (hb.cell (World.block_lt_of_cell? _ _ (hHeld.2.2.2.2.2))).trans (hHeld.2.2.2.2.2)
             refine ⟨_, rfl, ?_⟩
             have n0_ := Aside0.mk (Kd.R_below (by (with_reducible repeat (first | apply Kd.R_alloc | apply Kd.R_drewN | apply Kd.R_drew)); exact HO_9.out) hb); have n1_ := Aside0.mk (blk_below (g := gb147) (o := .cells #[.string a0_0, .slice A0_1 l0_1.length c0_1, .int .i64 a0_2, .slice A0_3 l0_3.length c0_3, .slice A0_4 l0_4.length c0_4, .slice A0_5 l0_5.length c0_5, .slice (some ad158) l0_6.length c0_6, .slice A0_7 l0_7.length c0_7, .slice A0_8 l0_8.length c0_8, .slice A0_9 l0_9.length c0_9, .int .i64 a0_10] 41 (0, 0)) abx hb); have n2_ := Aside0.mk (blk_below (g := gb156) (o := .cells #[.int .i64 ((rd_T63 l3 x40_2).f0), .int .i64 ((rd_T63 l3 x40_2).f1), .int .i64 ((rd_T63 l3 x40_2).f2.f0), .int .i64 ((rd_T63 l3 x40_2).f2.f1)] 63 (0, 0)) abx hb); have n3_ := Aside0.mk (below_step ahx hb); clear HO_9; clear BK147; clear BK156; clear HB; have HO_9 := n0_; have BK147 := n1_; have BK156 := n2_; have HB := n3_; clear n0_ n1_ n2_ n3_; (try clear hb); (try clear hb2); (try clear hk); (try clear hi); refine hK.out _ _ ⟨(blk_cell BK156.out 0).trans rfl, (blk_cell BK156.out 1).trans rfl, (blk_cell BK156.out 2).trans rfl, (blk_cell BK156.out 3).trans rfl, HS4_, HS5_⟩ (fun hHeld => ?_)
             clear hK K
             as_aux_lemma =>
             refine norm_ (a' := ?_) ?_ ?_; rotate_left
             ·show Act.put _ (some 93) _ = _; simp only [Act.put, zA, zB, zC, i64_w, i32_w]; rfl
             as_aux_lemma =>
             refine pure_ (i := 7) (N := some 86) (v := ?_) (a' := ?_) #[Z,Z,Z,Z,Z,Z,Z,Z,O,O,O,O,O] rfl rfl (any_of HT_.out (by kernel_rfl)) (fun _ _ _ h => h) (Or.inl ⟨by rfl, ?_⟩) ?_ ?_; rotate_left
             ·intro w'; go_simp; with_reducible rfl
             rotate_left
             ·simp only [Act.put, zA, zB, zC, i64_w, i32_w]; rfl
             as_aux_lemma =>
             refine pure_ (i := 8) (N := some 94) (v := ?_) (a' := ?_) #[Z,Z,Z,Z,Z,Z,Z,Z,Z,O,O,O,O] rfl rfl (any_of HT_.out (by kernel_rfl)) (fun _ _ _ h => h) (Or.inl ⟨by rfl, ?_⟩) ?_ ?_; rotate_left
             ·intro w'; go_simp; with_reducible rfl
             rotate_left
             ·simp only [Act.put, zA, zB, zC, i64_w, i32_w]; rfl
             as_aux_lemma =>
             refine pure_ (i := 9) (N := some 95) (v := ?_) (a' := ?_) #[Z,Z,Z,Z,Z,Z,Z,Z,Z,Z,O,O,O] rfl rfl (any_of HT_.out (by kernel_rfl)) (fun _ _ _ h => h) (Or.inl ⟨by rfl, ?_⟩) ?_ ?_; rotate_left
             ·intro w'; go_simp; with_reducible rfl
             rotate_left
             ·simp only [Act.put, zA, zB, zC, i64_w, i32_w]; rfl
             as_aux_lemma =>
             refine one_ (i := 10) (N := some 15) #[Z,Z,Z,Z,Z,Z,Z,Z,Z,Z,Z,O,O] rfl rfl (one_of HT_.out (by kernel_rfl)) (by decide) (fun K hK => ?_)
             refine box_step ?hg (N := 15) ?hd (cs := #[.int .i64 0, .int .i64 0]) (t := 26) ?hr ?_; (case hd => rfl); (case hg => rfl); (case hr => first | (go_simp; done) | (go_simp; rfl))
             intro gb164 hg w72 hbox hb; have HS4_ := (hb.cell (World.block_lt_of_cell? _ _ (hHeld.2.2.2.2.1))).trans (hHeld.2.2.2.2.1)
             have HS5_ := (hb.cell (World.block_lt_of_cell? _ _ (hHeld.2.2.2.2.2))).trans (hHeld.2.2.2.2.2)
             have n0_ := Aside0.mk (Kd.R_below (Kd.R_elderB (by (with_reducible repeat (first | apply Kd.R_alloc | apply Kd.R_drewN | apply Kd.R_drew)); exact HO_9.out) gb164 (Nat.le_of_eq hg.symm)) hb); have n1_ := Aside0.mk (blk_below (g := gb147) (o := .cells #[.string a0_0, .slice A0_1 l0_1.length c0_1, .int .i64 a0_2, .slice A0_3 l0_3.length c0_3, .slice A0_4 l0_4.length c0_4, .slice A0_5 l0_5.length c0_5, .slice (some ad158) l0_6.length c0_6, .slice A0_7 l0_7.length c0_7, .slice A0_8 l0_8.length c0_8, .slice A0_9 l0_9.length c0_9, .int .i64 a0_10] 41 (0, 0)) abx hb); have n2_ := Aside0.mk (blk_below (g := gb156) (o := .cells #[.int .i64 ((rd_T63 l3 x40_2).f0), .int .i64 ((rd_T63 l3 x40_2).f1), .int .i64 ((rd_T63 l3 x40_2).f2.f0), .int .i64 ((rd_T63 l3 x40_2).f2.f1)] 63 (0, 0)) abx hb); have n3_ := Aside0.mk (below_step ahx hb); have n4_ := Aside0.mk (hbox); have n5_ := Aside0.mk ((by rw [hg]; exact (below_size ahx) : w.heap.size ≤ gb164)); have n6_ := Aside0.mk ((by rw [hg]; exact (below_size ahx) : w.heap.size ≤ gb164)); have n7_ := Aside0.mk ((by rw [hg]; exact Nat.ne_of_lt (blk_lt (g := gb147) (o := .cells #[.string a0_0, .slice A0_1 l0_1.length c0_1, .int .i64 a0_2, .slice A0_3 l0_3.length c0_3, .slice A0_4 l0_4.length c0_4, .slice A0_5 l0_5.length c0_5, .slice (some ad158) l0_6.length c0_6, .slice A0_7 l0_7.length c0_7, .slice A0_8 l0_8.length c0_8, .slice A0_9 l0_9.length c0_9, .int .i64 a0_10] 41 (0, 0)) abx) : gb147 ≠ gb164)); have n8_ := Aside0.mk ((by rw [hg]; exact Nat.ne_of_gt (blk_lt (g := gb147) (o := .cells #[.string a0_0, .slice A0_1 l0_1.length c0_1, .int .i64 a0_2, .slice A0_3 l0_3.length c0_3, .slice A0_4 l0_4.length c0_4, .slice A0_5 l0_5.length c0_5, .slice (some ad158) l0_6.length c0_6, .slice A0_7 l0_7.length c0_7, .slice A0_8 l0_8.length c0_8, .slice A0_9 l0_9.length c0_9, .int .i64 a0_10] 41 (0, 0)) abx) : gb164 ≠ gb147)); have n9_ := Aside0.mk ((by rw [hg]; exact Nat.ne_of_lt (blk_lt (g := gb156) (o := .cells #[.int .i64 ((rd_T63 l3 x40_2).f0), .int .i64 ((rd_T63 l3 x40_2).f1), .int .i64 ((rd_T63 l3 x40_2).f2.f0), .int .i64 ((rd_T63 l3 x40_2).f2.f1)] 63 (0, 0)) abx) : gb156 ≠ gb164)); have n10_ := Aside0.mk ((by rw [hg]; exact Nat.ne_of_gt (blk_lt (g := gb156) (o := .cells #[.int .i64 ((rd_T63 l3 x40_2).f0), .int .i64 ((rd_T63 l3 x40_2).f1), .int .i64 ((rd_T63 l3 x40_2).f2.f0), .int .i64 ((rd_T63 l3 x40_2).f2.f1)] 63 (0, 0)) abx) : gb164 ≠ gb156)); clear HO_9; clear BK147; clear BK156; clear HB; have HO_9 := n0_; have BK147 := n1_; have BK156 := n2_; have HB := n3_; have BK164 := n4_; have GW164 := n5_; have GE164 := n6_; have NB147_164 := n7_; have NB164_147 := n8_; have NB156_164 := n9_; have NB164_156 := n10_; clear n0_ n1_ n2_ n3_ n4_ n5_ n6_ n7_ n8_ n9_ n10_; clear hb hbox hg; refine hK.out _ _ ⟨(blk_cell BK156.out 0).trans rfl, (blk_cell BK156.out 1).trans rfl, (blk_cell BK156.out 2).trans rfl, (blk_cell BK156.out 3).trans rfl, HS4_, HS5_⟩ (fun hHeld => ?_)
             clear hK K
             as_aux_lemma =>
             refine norm_ (a' := ?_) ?_ ?_; rotate_left
             ·show Act.put _ (some 15) _ = _; simp only [Act.put, zA, zB, zC, i64_w, i32_w]; rfl
             exact norm_ (by simp only [putAll, Act.put, zA, zB, zC]) (hCont (gb164) _ ⟨hHeld, (by (with_reducible repeat (first | apply Kd.R_alloc | apply Kd.R_drewN | apply Kd.R_drew)); exact Kd.R_mono HO_9.out (fun _ hk => hk.2)), abx, abx, abx, GW164.out, GE164.out, NB147_164.out, NB164_147.out, NB156_164.out, NB164_156.out, ahx⟩)
            ·skip
             refine box_step ?hg (N := 15) ?hd (cs := #[.int .i64 0, .int .i64 0]) (t := 26) ?hr ?_; (case hd => rfl); (case hg => rfl); (case hr => first | (go_simp; done) | (go_simp; rfl))
             intro gb164 hg w71 hbox hb; have HS4_ := (hb.cell (World.block_lt_of_cell? _ _ (hHeld.2.2.2.2.1))).trans (hHeld.2.2.2.2.1)
             have HS5_ := (hb.cell (World.block_lt_of_cell? _ _ (hHeld.2.2.2.2.2))).trans (hHeld.2.2.2.2.2)
             have n0_ := Aside0.mk (Kd.R_below (Kd.R_elderB (by (with_reducible repeat (first | apply Kd.R_alloc | apply Kd.R_drewN | apply Kd.R_drew)); exact HO_9.out) gb164 (Nat.le_of_eq hg.symm)) hb); have n1_ := Aside0.mk (blk_below (g := gb147) (o := .cells #[.string a0_0, .slice A0_1 l0_1.length c0_1, .int .i64 a0_2, .slice A0_3 l0_3.length c0_3, .slice A0_4 l0_4.length c0_4, .slice A0_5 l0_5.length c0_5, .slice (some ad158) l0_6.length c0_6, .slice A0_7 l0_7.length c0_7, .slice A0_8 l0_8.length c0_8, .slice A0_9 l0_9.length c0_9, .int .i64 a0_10] 41 (0, 0)) abx hb); have n2_ := Aside0.mk (blk_below (g := gb156) (o := .cells #[.int .i64 ((rd_T63 l3 x40_2).f0), .int .i64 ((rd_T63 l3 x40_2).f1), .int .i64 ((rd_T63 l3 x40_2).f2.f0), .int .i64 ((rd_T63 l3 x40_2).f2.f1)] 63 (0, 0)) abx hb); have n3_ := Aside0.mk (below_step ahx hb); have n4_ := Aside0.mk (hbox); have n5_ := Aside0.mk ((by rw [hg]; exact (below_size ahx) : w.heap.size ≤ gb164)); have n6_ := Aside0.mk ((by rw [hg]; exact (below_size ahx) : w.heap.size ≤ gb164)); have n7_ := Aside0.mk ((by rw [hg]; exact Nat.ne_of_lt (blk_lt (g := gb147) (o := .cells #[.string a0_0, .slice A0_1 l0_1.length c0_1, .int .i64 a0_2, .slice A0_3 l0_3.length c0_3, .slice A0_4 l0_4.length c0_4, .slice A0_5 l0_5.length c0_5, .slice (some ad158) l0_6.length c0_6, .slice A0_7 l0_7.length c0_7, .slice A0_8 l0_8.length c0_8, .slice A0_9 l0_9.length c0_9, .int .i64 a0_10] 41 (0, 0)) abx) : gb147 ≠ gb164)); have n8_ := Aside0.mk ((by rw [hg]; exact Nat.ne_of_gt (blk_lt (g := gb147) (o := .cells #[.string a0_0, .slice A0_1 l0_1.length c0_1, .int .i64 a0_2, .slice A0_3 l0_3.length c0_3, .slice A0_4 l0_4.length c0_4, .slice A0_5 l0_5.length c0_5, .slice (some ad158) l0_6.length c0_6, .slice A0_7 l0_7.length c0_7, .slice A0_8 l0_8.length c0_8, .slice A0_9 l0_9.length c0_9, .int .i64 a0_10] 41 (0, 0)) abx) : gb164 ≠ gb147)); have n9_ := Aside0.mk ((by rw [hg]; exact Nat.ne_of_lt (blk_lt (g := gb156) (o := .cells #[.int .i64 ((rd_T63 l3 x40_2).f0), .int .i64 ((rd_T63 l3 x40_2).f1), .int .i64 ((rd_T63 l3 x40_2).f2.f0), .int .i64 ((rd_T63 l3 x40_2).f2.f1)] 63 (0, 0)) abx) : gb156 ≠ gb164)); have n10_ := Aside0.mk ((by rw [hg]; exact Nat.ne_of_gt (blk_lt (g := gb156) (o := .cells #[.int .i64 ((rd_T63 l3 x40_2).f0), .int .i64 ((rd_T63 l3 x40_2).f1), .int .i64 ((rd_T63 l3 x40_2).f2.f0), .int .i64 ((rd_T63 l3 x40_2).f2.f1)] 63 (0, 0)) abx) : gb164 ≠ gb156)); clear HO_9; clear BK147; clear BK156; clear HB; have HO_9 := n0_; have BK147 := n1_; have BK156 := n2_; have HB := n3_; have BK164 := n4_; have GW164 := n5_; have GE164 := n6_; have NB147_164 := n7_; have NB164_147 := n8_; have NB156_164 := n9_; have NB164_156 := n10_; clear n0_ n1_ n2_ n3_ n4_ n5_ n6_ n7_ n8_ n9_ n10_; clear hb hbox hg; refine hK.out _ _ ⟨(blk_cell BK156.out 0).trans rfl, (blk_cell BK156.out 1).trans rfl, (blk_cell BK156.out 2).trans rfl, (blk_cell BK156.out 3).trans rfl, HS4_, HS5_⟩ (fun hHeld => ?_)
             clear hK K
             as_aux_lemma =>
             refine norm_ (a' := ?_) ?_ ?_; rotate_left
             ·show Act.put _ (some 15) _ = _; simp only [Act.put, zA, zB, zC, i64_w, i32_w]; rfl
             as_aux_lemma =>
             refine one_ (i := 6) (N := some 93) #[Z,Z,Z,Z,Z,Z,Z,O,O,O,Z,O,O] rfl rfl (one_of HT_.out (by kernel_rfl)) (by decide) (fun K hK => ?_)
             refine goes_ Try.func33 (by kernel_rfl) rfl #[.agg #[.int .i64 ((rd_T26 x9_2 ((rd_T67 l0_6 ((rd_T63 l3 x40_2).f0)).f2)).f0), .int .i64 ((rd_T26 x9_2 ((rd_T67 l0_6 ((rd_T63 l3 x40_2).f0)).f2)).f1)], .agg #[.int .i64 ((rd_T63 l3 x40_2).f2.f0), .int .i64 ((rd_T63 l3 x40_2).f2.f1)]] (by rfl) rfl rfl (by (try simp only [List.map_toArray, List.map_cons, List.map_nil]); first | done | rfl | (simp only [List.length_drop, List.length_take]; rfl)) ?_; with_reducible refine (span_Meet.calls ((rd_T26 x9_2 ((rd_T67 l0_6 ((rd_T63 l3 x40_2).f0)).f2)).f0) ((rd_T26 x9_2 ((rd_T67 l0_6 ((rd_T63 l3 x40_2).f0)).f2)).f1) ((rd_T63 l3 x40_2).f2.f0) ((rd_T63 l3 x40_2).f2.f1) t161 t162 false _ A53.out).mono ?_
             rintro e w72 ⟨rfl, hb⟩
             have HS4_ := (hb.cell (World.block_lt_of_cell? _ _ (hHeld.2.2.2.2.1))).trans (hHeld.2.2.2.2.1)
             have HS5_ := (hb.cell (World.block_lt_of_cell? _ _ (hHeld.2.2.2.2.2))).trans (hHeld.2.2.2.2.2)
             refine ⟨_, rfl, ?_⟩
             have n0_ := Aside0.mk (Kd.R_below (by (with_reducible repeat (first | apply Kd.R_alloc | apply Kd.R_drewN | apply Kd.R_drew)); exact HO_9.out) hb); have n1_ := Aside0.mk (blk_below (g := gb147) (o := .cells #[.string a0_0, .slice A0_1 l0_1.length c0_1, .int .i64 a0_2, .slice A0_3 l0_3.length c0_3, .slice A0_4 l0_4.length c0_4, .slice A0_5 l0_5.length c0_5, .slice (some ad158) l0_6.length c0_6, .slice A0_7 l0_7.length c0_7, .slice A0_8 l0_8.length c0_8, .slice A0_9 l0_9.length c0_9, .int .i64 a0_10] 41 (0, 0)) abx hb); have n2_ := Aside0.mk (blk_below (g := gb156) (o := .cells #[.int .i64 ((rd_T63 l3 x40_2).f0), .int .i64 ((rd_T63 l3 x40_2).f1), .int .i64 ((rd_T63 l3 x40_2).f2.f0), .int .i64 ((rd_T63 l3 x40_2).f2.f1)] 63 (0, 0)) abx hb); have n3_ := Aside0.mk (blk_below (g := gb164) (o := .cells #[.int .i64 0, .int .i64 0] 26 (0, 0)) abx hb); have n4_ := Aside0.mk (below_step ahx hb); clear HO_9; clear BK147; clear BK156; clear BK164; clear HB; have HO_9 := n0_; have BK147 := n1_; have BK156 := n2_; have BK164 := n3_; have HB := n4_; clear n0_ n1_ n2_ n3_ n4_; (try clear hb); (try clear hb2); (try clear hk); (try clear hi); refine hK.out _ _ ⟨(blk_cell BK156.out 0).trans rfl, (blk_cell BK156.out 1).trans rfl, (blk_cell BK156.out 2).trans rfl, (blk_cell BK156.out 3).trans rfl, HS4_, HS5_⟩ (fun hHeld => ?_)
             clear hK K
             as_aux_lemma =>
             refine norm_ (a' := ?_) ?_ ?_; rotate_left
             ·show Act.put _ (some 93) _ = _; simp only [Act.put, zA, zB, zC, i64_w, i32_w]; rfl
             as_aux_lemma =>
             refine pure_ (i := 7) (N := some 86) (v := ?_) (a' := ?_) #[Z,Z,Z,Z,Z,Z,Z,Z,O,O,Z,O,O] rfl rfl (any_of HT_.out (by kernel_rfl)) (fun _ _ _ h => h) (Or.inl ⟨by rfl, ?_⟩) ?_ ?_; rotate_left
             ·intro w'; go_simp; with_reducible rfl
             rotate_left
             ·simp only [Act.put, zA, zB, zC, i64_w, i32_w]; rfl
             as_aux_lemma =>
             refine pure_ (i := 8) (N := some 94) (v := ?_) (a' := ?_) #[Z,Z,Z,Z,Z,Z,Z,Z,Z,O,Z,O,O] rfl rfl (any_of HT_.out (by kernel_rfl)) (fun _ _ _ h => h) (Or.inl ⟨by rfl, ?_⟩) ?_ ?_; rotate_left
             ·intro w'; go_simp; with_reducible rfl
             rotate_left
             ·simp only [Act.put, zA, zB, zC, i64_w, i32_w]; rfl
             as_aux_lemma =>
             refine pure_ (i := 9) (N := some 95) (v := ?_) (a' := ?_) #[Z,Z,Z,Z,Z,Z,Z,Z,Z,Z,Z,O,O] rfl rfl (any_of HT_.out (by kernel_rfl)) (fun _ _ _ h => h) (Or.inl ⟨by rfl, ?_⟩) ?_ ?_; rotate_left
             ·intro w'; go_simp; with_reducible rfl
             rotate_left
             ·simp only [Act.put, zA, zB, zC, i64_w, i32_w]; rfl
             exact norm_ (by simp only [putAll, Act.put, zA, zB, zC]) (hCont (gb164) _ ⟨hHeld, (by (with_reducible repeat (first | apply Kd.R_alloc | apply Kd.R_drewN | apply Kd.R_drew)); exact Kd.R_mono HO_9.out (fun _ hk => hk.2)), abx, abx, abx, GW164.out, GE164.out, NB147_164.out, NB164_147.out, NB156_164.out, NB164_156.out, ahx⟩)
           rintro gb164 w73 ⟨hS_, h0_, h1_, h2_, h3_, h4_, h5_, h6_, h7_, h8_, h9_, h10_⟩
           have n0_ : Aside0 (Kd.R k26 26 w73 w.heap.size (fun k_ => k_ ≠ gb164) (.slice (some ad160) x9_2.length co70) x9_2) := ⟨h0_⟩
           have n1_ : Aside0 (w73.heap[gb147]? = some (.cells #[.string a0_0, .slice A0_1 l0_1.length c0_1, .int .i64 a0_2, .slice A0_3 l0_3.length c0_3, .slice A0_4 l0_4.length c0_4, .slice A0_5 l0_5.length c0_5, .slice (some ad158) l0_6.length c0_6, .slice A0_7 l0_7.length c0_7, .slice A0_8 l0_8.length c0_8, .slice A0_9 l0_9.length c0_9, .int .i64 a0_10] 41 (0, 0))) := ⟨h1_⟩
           have n2_ : Aside0 (w73.heap[gb156]? = some (.cells #[.int .i64 ((rd_T63 l3 x40_2).f0), .int .i64 ((rd_T63 l3 x40_2).f1), .int .i64 ((rd_T63 l3 x40_2).f2.f0), .int .i64 ((rd_T63 l3 x40_2).f2.f1)] 63 (0, 0))) := ⟨h2_⟩
           have n3_ : Aside0 (w73.heap[gb164]? = some (.cells #[.int .i64 0, .int .i64 0] 26 (0, 0))) := ⟨h3_⟩
           have n4_ : Aside0 (w.heap.size ≤ gb164) := ⟨h4_⟩
           have n5_ : Aside0 (w.heap.size ≤ gb164) := ⟨h5_⟩
           have n6_ : Aside0 (gb147 ≠ gb164) := ⟨h6_⟩
           have n7_ : Aside0 (gb164 ≠ gb147) := ⟨h7_⟩
           have n8_ : Aside0 (gb156 ≠ gb164) := ⟨h8_⟩
           have n9_ : Aside0 (gb164 ≠ gb156) := ⟨h9_⟩
           have n10_ : Aside0 (Below w.heap.size w w73) := ⟨h10_⟩
           clear HO_9; clear BK147; clear BK156; clear HB; clear h0_ h1_ h2_ h3_ h4_ h5_ h6_ h7_ h8_ h9_ h10_; have HO_9 := n0_; have BK147 := n1_; have BK156 := n2_; have BK164 := n3_; have GW164 := n4_; have GE164 := n5_; have NB147_164 := n6_; have NB164_147 := n7_; have NB156_164 := n8_; have NB164_156 := n9_; have HB := n10_; clear n0_ n1_ n2_ n3_ n4_ n5_ n6_ n7_ n8_ n9_ n10_; have hHeld : w73.cell? ⟨gb156, 0, none⟩ = some (.int .i64 ((rd_T63 l3 x40_2).f0)) ∧ w73.cell? ⟨gb156, 1, none⟩ = some (.int .i64 ((rd_T63 l3 x40_2).f1)) ∧ w73.cell? ⟨gb156, 2, none⟩ = some (.int .i64 ((rd_T63 l3 x40_2).f2.f0)) ∧ w73.cell? ⟨gb156, 3, none⟩ = some (.int .i64 ((rd_T63 l3 x40_2).f2.f1)) ∧ w73.cell? (ad160.add ((((rd_T67 l0_6 ((rd_T63 l3 x40_2).f0)).f2)).toNat * 2)) = some (.int .i64 ((rd_T26 x9_2 ((rd_T67 l0_6 ((rd_T63 l3 x40_2).f0)).f2)).f0)) ∧ w73.cell? ⟨(ad160.add ((((rd_T67 l0_6 ((rd_T63 l3 x40_2).f0)).f2)).toNat * 2)).block, (ad160.add ((((rd_T67 l0_6 ((rd_T63 l3 x40_2).f0)).f2)).toNat * 2)).off + 1, none⟩ = some (.int .i64 ((rd_T26 x9_2 ((rd_T67 l0_6 ((rd_T63 l3 x40_2).f0)).f2)).f1)) := hS_
           as_aux_lemma =>
           refine norm_ (a' := ?_) ?_ ?_; rotate_left
           ·simp only [putAll, Act.put, zA, zB, zC]; rfl
           as_aux_lemma =>
           refine one_ (i := 11) (N := none) #[Z,Z,Z,Z,Z,Z,Z,Z,Z,Z,Z,Z,O] rfl rfl (one_of HT_.out (by kernel_rfl)) (by decide) (fun K hK => ?_)
           have hs74 : w73.cell? ⟨gb164, 0, none⟩ = some (.int .i64 0) := (blk_cell BK164.out 0).trans rfl
           have hfs74 := blk_frozen BK164.out 0
           have hns74_0 := NB147_164.out; have hns74_1 := NB156_164.out; have hms74_0 := NB164_147.out; have hms74_1 := NB164_156.out; have hs75 : w73.cell? ⟨gb164, 1, none⟩ = some (.int .i64 0) := (blk_cell BK164.out 1).trans rfl
           have hfs75 := blk_frozen BK164.out 1
           have hns75_0 := NB147_164.out; have hns75_1 := NB156_164.out; have hms75_0 := NB164_147.out; have hms75_1 := NB164_156.out; refine skip_ (w1 := ?_) (by rfl) rfl ?_ ?_
           rotate_left
           ·go_simp; rfl
           refine hK.out _ _ ⟨((cell_far (p := ⟨gb164, _, none⟩) NB156_164.out _).trans (((cell_far (p := ⟨gb164, _, none⟩) NB156_164.out _).trans (hHeld.1)))), ((cell_far (p := ⟨gb164, _, none⟩) NB156_164.out _).trans (((cell_far (p := ⟨gb164, _, none⟩) NB156_164.out _).trans (hHeld.2.1)))), ((cell_far (p := ⟨gb164, _, none⟩) NB156_164.out _).trans (((cell_far (p := ⟨gb164, _, none⟩) NB156_164.out _).trans (hHeld.2.2.1)))), ((cell_far (p := ⟨gb164, _, none⟩) NB156_164.out _).trans (((cell_far (p := ⟨gb164, _, none⟩) NB156_164.out _).trans (hHeld.2.2.2.1)))), ((cell_far (p := ⟨gb164, _, none⟩) (by first | exact Kd.own_blk (Kd.R_away HO_9.out (fun _ hk => hk)) | (rw [add_block]; exact Kd.own_blk (Kd.R_away HO_9.out (fun _ hk => hk))) | (show (Addr.add _ _).block ≠ _; rw [add_block]; exact Kd.own_blk (Kd.R_away HO_9.out (fun _ hk => hk))) | (dsimp only; exact Kd.own_blk (Kd.R_away HO_9.out (fun _ hk => hk)))) _).trans (((cell_far (p := ⟨gb164, _, none⟩) (by first | exact Kd.own_blk (Kd.R_away HO_9.out (fun _ hk => hk)) | (rw [add_block]; exact Kd.own_blk (Kd.R_away HO_9.out (fun _ hk => hk))) | (show (Addr.add _ _).block ≠ _; rw [add_block]; exact Kd.own_blk (Kd.R_away HO_9.out (fun _ hk => hk))) | (dsimp only; exact Kd.own_blk (Kd.R_away HO_9.out (fun _ hk => hk)))) _).trans (hHeld.2.2.2.2.1)))), ((cell_far (p := ⟨gb164, _, none⟩) (by first | exact Kd.own_blk (Kd.R_away HO_9.out (fun _ hk => hk)) | (rw [add_block]; exact Kd.own_blk (Kd.R_away HO_9.out (fun _ hk => hk))) | (show (Addr.add _ _).block ≠ _; rw [add_block]; exact Kd.own_blk (Kd.R_away HO_9.out (fun _ hk => hk))) | (dsimp only; exact Kd.own_blk (Kd.R_away HO_9.out (fun _ hk => hk)))) _).trans (((cell_far (p := ⟨gb164, _, none⟩) (by first | exact Kd.own_blk (Kd.R_away HO_9.out (fun _ hk => hk)) | (rw [add_block]; exact Kd.own_blk (Kd.R_away HO_9.out (fun _ hk => hk))) | (show (Addr.add _ _).block ≠ _; rw [add_block]; exact Kd.own_blk (Kd.R_away HO_9.out (fun _ hk => hk))) | (dsimp only; exact Kd.own_blk (Kd.R_away HO_9.out (fun _ hk => hk)))) _).trans (hHeld.2.2.2.2.2))))⟩ (fun hHeld => ?_)
           clear hK K
           as_aux_lemma =>
           refine pure_ (i := 12) (N := some 16) (v := ?_) (a' := ?_) #[Z,Z,Z,Z,Z,Z,Z,Z,Z,Z,Z,Z,Z] rfl rfl (any_of HT_.out (by kernel_rfl)) (fun _ _ _ h => h) (Or.inl ⟨by rfl, ?_⟩) ?_ ?_; rotate_left
           ·intro w'; go_simp; with_reducible rfl
           rotate_left
           ·simp only [Act.put, zA, zB, zC, i64_w, i32_w]; rfl
           refine done_ (done_of HT_.out (by kernel_rfl)) ?_
           try go_wp2
           go_roundg kj37
           case measure => have := HK1.out; have := HK2.out; have := HJ18.out; have := HJ37.out; omega
           case rel => exact ⟨(x9_2), (wrap64 (x40_2 + 1)), (by first | rfl | (simp; done) | (simp [*]; done)), H', ⟨by have := HK1.out; have := HK2.out; have := HJ18.out; have := HJ37.out; omega⟩, ⟨by (with_reducible repeat (first | apply Kd.R_alloc | apply Kd.R_drewN | apply Kd.R_drew)); exact Kd.R_mono (Kd.R_far (p := ⟨gb164, 1, none⟩) (Kd.R_far (p := ⟨gb164, 0, none⟩) (Kd.R_mono HO_9.out (fun k_ hk => (⟨hk, hk⟩ : _ ∧ k_ ≠ gb164))) (fun _ hk => hk.2) (.int .i64 t161)) (fun _ hk => hk.2) (.int .i64 t162)) (fun _ hk => trivial)⟩, ⟨by (with_reducible repeat (first | refine blk_drewN ?_ _ | refine blk_drew ?_ | refine blk_alloc ?_ _)); refine blk_far ?_ NB147_164.out _; (with_reducible repeat (first | refine blk_drewN ?_ _ | refine blk_drew ?_ | refine blk_alloc ?_ _)); refine blk_far ?_ NB147_164.out _; (with_reducible repeat (first | refine blk_drewN ?_ _ | refine blk_drew ?_ | refine blk_alloc ?_ _)); exact BK147.out⟩, ⟨ahx⟩⟩
         subst c54; have H1 : (rain_Cells.l1 kj37 (x9_2.set (((rd_T67 l0_6 ((rd_T63 l3 x40_2).f0)).f2) : Int).toNat (⟨t161, t162⟩ : S26)) l3 (l3.length : Int) (wrap64 (x40_2 + 1)) a0_0 l0_1 a0_2 l0_3 l0_4 l0_5 l0_6 l0_7 l0_8 l0_9 a0_10) = some r := by rw [if_pos rfl] at H; exact H
         clear H; have H := H1; clear H1; obtain ⟨y165, hy165⟩ : ∃ y_ : List (S26), y_ = (x9_2.set (((rd_T67 l0_6 ((rd_T63 l3 x40_2).f0)).f2) : Int).toNat (⟨t161, t162⟩ : S26)) := ⟨_, rfl⟩
         replace H : (rain_Cells.l1 kj37 y165 l3 (l3.length : Int) (wrap64 (x40_2 + 1)) a0_0 l0_1 a0_2 l0_3 l0_4 l0_5 l0_6 l0_7 l0_8 l0_9 a0_10) = some r := by first | (rw [hy165]; with_reducible exact H) | (have H2_ := (Option.bind_some _ _).symm.trans H; rw [hy165]; with_reducible exact H2_) | (have H2_ := (Option.bind_some _ _).symm.trans H; with_reducible exact H2_) | with_reducible exact H | (rw [hy165]; exact H) | exact H
         have Ny165 := Aside0.mk hy165
         clear hy165
         as_aux_lemma =>
          have H' := Aside0.mk H; clear H; try go_wp2
          have n0_ := Aside0.mk (Kd.R_drew HO_9.out); have n1_ := Aside0.mk (blk_drew BK147.out); have n2_ := Aside0.mk (blk_drew BK156.out); have n3_ := Aside0.mk (below_drew1 HB.out); clear HO_9; clear BK147; clear BK156; clear HB; have HO_9 := n0_; have BK147 := n1_; have BK156 := n2_; have HB := n3_; clear n0_ n1_ n2_ n3_; obtain ⟨Ao57, co57, eo57⟩ := Kd.R_slice HO_9.out
          (first | subst eo57 | (injection eo57 with f1_ f2_ f3_; have f4_ := f1_.symm; have f5_ := f3_.symm; clear f1_ f2_ f3_; subst f4_; subst f5_)); have p160 : 0 ≤ (((rd_T67 l0_6 ((rd_T63 l3 x40_2).f0)).f2) : Int) := of_decide_eq_true (by first | (with_reducible assumption) | assumption)
          have q160 : ((rd_T67 l0_6 ((rd_T63 l3 x40_2).f0)).f2) < (x9_2.length : Int) := of_decide_eq_true (by first | (with_reducible assumption) | assumption)
          obtain ⟨ad160, e160, hx160_0, hx160_1⟩ := at_T26 (Kd.R_reads' HO_9.out).2.2 ((rd_T67 l0_6 ((rd_T63 l3 x40_2).f0)).f2) p160 q160
          cases e160
          replace p160 := eq_true p160
          replace q160 := eq_true q160
          refine start_ (n := 13) (S := fun w' => w'.cell? ⟨gb156, 0, none⟩ = some (.int .i64 ((rd_T63 l3 x40_2).f0)) ∧ w'.cell? ⟨gb156, 1, none⟩ = some (.int .i64 ((rd_T63 l3 x40_2).f1)) ∧ w'.cell? ⟨gb156, 2, none⟩ = some (.int .i64 ((rd_T63 l3 x40_2).f2.f0)) ∧ w'.cell? ⟨gb156, 3, none⟩ = some (.int .i64 ((rd_T63 l3 x40_2).f2.f1)) ∧ w'.cell? (ad160.add ((((rd_T67 l0_6 ((rd_T63 l3 x40_2).f0)).f2)).toNat * 2)) = some (.int .i64 ((rd_T26 x9_2 ((rd_T67 l0_6 ((rd_T63 l3 x40_2).f0)).f2)).f0)) ∧ w'.cell? ⟨(ad160.add ((((rd_T67 l0_6 ((rd_T63 l3 x40_2).f0)).f2)).toNat * 2)).block, (ad160.add ((((rd_T67 l0_6 ((rd_T63 l3 x40_2).f0)).f2)).toNat * 2)).off + 1, none⟩ = some (.int .i64 ((rd_T26 x9_2 ((rd_T67 l0_6 ((rd_T63 l3 x40_2).f0)).f2)).f1))) (ds := []) #[O,O,O,O,O,O,O,O,O,O,O,O,O] (by kernel_rfl) rfl rfl ⟨(blk_cell BK156.out 0).trans rfl, (blk_cell BK156.out 1).trans rfl, (blk_cell BK156.out 2).trans rfl, (blk_cell BK156.out 3).trans rfl, hx160_0, hx160_1⟩ (fun hHeld => ?_); refine with_tabW rain_Cells.tab16 rain_Cells.bits16 (fun HT_ HW_ => ?_)
          generalize wc.drew = w56 at HO_9 BK147 BK156 HB hx160_0 hx160_1 hHeld ⊢
          as_aux_lemma =>
          refine pure_ (i := 0) (N := some 87) (v := ?_) (a' := ?_) #[Z,O,O,O,O,O,O,O,O,O,O,O,O] rfl rfl (any_of HT_.out (by kernel_rfl)) (fun _ _ _ h => h) (Or.inl ⟨by rfl, ?_⟩) ?_ ?_; rotate_left
          ·intro w'; go_simp; with_reducible rfl
          rotate_left
          ·simp only [Act.put, zA, zB, zC, i64_w, i32_w]; rfl
          as_aux_lemma =>
          refine pure_ (i := 1) (N := some 88) (v := ?_) (a' := ?_) #[Z,Z,O,O,O,O,O,O,O,O,O,O,O] rfl rfl (any_of HT_.out (by kernel_rfl)) (fun _ _ _ h => h) (Or.inl ⟨by rfl, ?_⟩) ?_ ?_; rotate_left
          ·intro w'; go_simp; with_reducible rfl
          rotate_left
          ·simp only [Act.put, zA, zB, zC, i64_w, i32_w]; rfl
          as_aux_lemma =>
          refine pure_ (i := 2) (N := some 89) (v := ?_) (a' := ?_) #[Z,Z,Z,O,O,O,O,O,O,O,O,O,O] rfl rfl (any_of HT_.out (by kernel_rfl)) (fun _ _ _ h => h) (Or.inl ⟨by rfl, ?_⟩) ?_ ?_; rotate_left
          ·intro w'; go_simp; with_reducible rfl
          rotate_left
          ·simp only [Act.put, zA, zB, zC, i64_w, i32_w]; rfl
          as_aux_lemma =>
          refine pure_ (i := 4) (N := some 91) (v := ?_) (a' := ?_) #[Z,Z,Z,O,Z,O,O,O,O,O,O,O,O] rfl rfl (any_of HT_.out (by kernel_rfl)) (fun _ _ _ h => h) (Or.inl ⟨by rfl, ?_⟩) ?_ ?_; rotate_left
          ·intro w'; go_simp; with_reducible rfl
          rotate_left
          ·simp only [Act.put, zA, zB, zC, i64_w, i32_w]; rfl
          as_aux_lemma =>
          refine take_ (i := 3) (N := some 90) (v := ?_) (a' := ?_) #[Z,Z,Z,Z,Z,O,O,O,O,O,O,O,O] rfl rfl (take_ofW HT_.out HW_.out (by kernel_rfl)) (fun _ _ _ h => h) (Or.inl ⟨by rfl, ?_⟩) hHeld ?_ ?_; rotate_left
          ·rintro w' ⟨s0, s1, s2, s3, s4, s5⟩
           go_simp; with_reducible rfl
          rotate_left
          ·simp only [Act.put, zA, zB, zC, i64_w, i32_w]; rfl
          as_aux_lemma =>
          refine take_ (i := 5) (N := some 92) (v := ?_) (a' := ?_) #[Z,Z,Z,Z,Z,Z,O,O,O,O,O,O,O] rfl rfl (take_ofW HT_.out HW_.out (by kernel_rfl)) (fun _ _ _ h => h) (Or.inl ⟨by rfl, ?_⟩) hHeld ?_ ?_; rotate_left
          ·rintro w' ⟨s0, s1, s2, s3, s4, s5⟩
           go_simp; with_reducible rfl
          rotate_left
          ·simp only [Act.put, zA, zB, zC, i64_w, i32_w]; rfl
          refine join_ (σ := Nat) 2 #[Z,Z,Z,Z,Z,Z,Z,Z,Z,Z,Z,O,O] (fun s_ => [(93, .tuple #[.agg #[.int .i64 t161, .int .i64 t162], .bool true]), (15, .pointer (some ⟨s_, 0, none⟩)), (86, .tuple #[.agg #[.int .i64 t161, .int .i64 t162], .bool true]), (94, .agg #[.int .i64 t161, .int .i64 t162]), (95, .bool true)]) (fun s_ w' => (w'.cell? ⟨gb156, 0, none⟩ = some (.int .i64 ((rd_T63 l3 x40_2).f0)) ∧ w'.cell? ⟨gb156, 1, none⟩ = some (.int .i64 ((rd_T63 l3 x40_2).f1)) ∧ w'.cell? ⟨gb156, 2, none⟩ = some (.int .i64 ((rd_T63 l3 x40_2).f2.f0)) ∧ w'.cell? ⟨gb156, 3, none⟩ = some (.int .i64 ((rd_T63 l3 x40_2).f2.f1)) ∧ w'.cell? (ad160.add ((((rd_T67 l0_6 ((rd_T63 l3 x40_2).f0)).f2)).toNat * 2)) = some (.int .i64 ((rd_T26 x9_2 ((rd_T67 l0_6 ((rd_T63 l3 x40_2).f0)).f2)).f0)) ∧ w'.cell? ⟨(ad160.add ((((rd_T67 l0_6 ((rd_T63 l3 x40_2).f0)).f2)).toNat * 2)).block, (ad160.add ((((rd_T67 l0_6 ((rd_T63 l3 x40_2).f0)).f2)).toNat * 2)).off + 1, none⟩ = some (.int .i64 ((rd_T26 x9_2 ((rd_T67 l0_6 ((rd_T63 l3 x40_2).f0)).f2)).f1))) ∧ (Kd.R k26 26 w' w.heap.size (fun k_ => k_ ≠ s_) (.slice (some ad160) x9_2.length co57) x9_2) ∧ (w'.heap[gb147]? = some (.cells #[.string a0_0, .slice A0_1 l0_1.length c0_1, .int .i64 a0_2, .slice A0_3 l0_3.length c0_3, .slice A0_4 l0_4.length c0_4, .slice A0_5 l0_5.length c0_5, .slice (some ad158) l0_6.length c0_6, .slice A0_7 l0_7.length c0_7, .slice A0_8 l0_8.length c0_8, .slice A0_9 l0_9.length c0_9, .int .i64 a0_10] 41 (0, 0))) ∧ (w'.heap[gb156]? = some (.cells #[.int .i64 ((rd_T63 l3 x40_2).f0), .int .i64 ((rd_T63 l3 x40_2).f1), .int .i64 ((rd_T63 l3 x40_2).f2.f0), .int .i64 ((rd_T63 l3 x40_2).f2.f1)] 63 (0, 0))) ∧ (w'.heap[s_]? = some (.cells #[.int .i64 0, .int .i64 0] 26 (0, 0))) ∧ (w.heap.size ≤ s_) ∧ (w.heap.size ≤ s_) ∧ (gb147 ≠ s_) ∧ (s_ ≠ gb147) ∧ (gb156 ≠ s_) ∧ (s_ ≠ gb156) ∧ (Below w.heap.size w w')) ?_ ?_
          rotate_left
          ·intro hCont; refine two_ (i := 6) (j := 10) (Ni := some 93) (Nj := some 15) #[Z,Z,Z,Z,Z,Z,Z,O,O,O,O,O,O] #[Z,Z,Z,Z,Z,Z,O,O,O,O,Z,O,O] rfl rfl rfl rfl (two_of HT_.out (by kernel_rfl)) (by decide) (by decide) (fun K hK => ?_) (fun K hK => ?_)
           ·skip
            refine goes_ Try.func33 (by kernel_rfl) rfl #[.agg #[.int .i64 ((rd_T26 x9_2 ((rd_T67 l0_6 ((rd_T63 l3 x40_2).f0)).f2)).f0), .int .i64 ((rd_T26 x9_2 ((rd_T67 l0_6 ((rd_T63 l3 x40_2).f0)).f2)).f1)], .agg #[.int .i64 ((rd_T63 l3 x40_2).f2.f0), .int .i64 ((rd_T63 l3 x40_2).f2.f1)]] (by rfl) rfl rfl (by (try simp only [List.map_toArray, List.map_cons, List.map_nil]); first | done | rfl | (simp only [List.length_drop, List.length_take]; rfl)) ?_; with_reducible refine (span_Meet.calls ((rd_T26 x9_2 ((rd_T67 l0_6 ((rd_T63 l3 x40_2).f0)).f2)).f0) ((rd_T26 x9_2 ((rd_T67 l0_6 ((rd_T63 l3 x40_2).f0)).f2)).f1) ((rd_T63 l3 x40_2).f2.f0) ((rd_T63 l3 x40_2).f2.f1) t161 t162 true _ A53.out).mono ?_
            rintro e w58 ⟨rfl, hb⟩
            have HS4_ := (hb.cell (World.block_lt_of_cell? _ _ (hHeld.2.2.2.2.1))).trans (hHeld.2.2.2.2.1)
            have HS5_ := (hb.cell (World.block_lt_of_cell? _ _ (hHeld.2.2.2.2.2))).trans (hHeld.2.2.2.2.2)
            refine ⟨_, rfl, ?_⟩
            have n0_ := Aside0.mk (Kd.R_below (by (with_reducible repeat (first | apply Kd.R_alloc | apply Kd.R_drewN | apply Kd.R_drew)); exact HO_9.out) hb); have n1_ := Aside0.mk (blk_below (g := gb147) (o := .cells #[.string a0_0, .slice A0_1 l0_1.length c0_1, .int .i64 a0_2, .slice A0_3 l0_3.length c0_3, .slice A0_4 l0_4.length c0_4, .slice A0_5 l0_5.length c0_5, .slice (some ad158) l0_6.length c0_6, .slice A0_7 l0_7.length c0_7, .slice A0_8 l0_8.length c0_8, .slice A0_9 l0_9.length c0_9, .int .i64 a0_10] 41 (0, 0)) abx hb); have n2_ := Aside0.mk (blk_below (g := gb156) (o := .cells #[.int .i64 ((rd_T63 l3 x40_2).f0), .int .i64 ((rd_T63 l3 x40_2).f1), .int .i64 ((rd_T63 l3 x40_2).f2.f0), .int .i64 ((rd_T63 l3 x40_2).f2.f1)] 63 (0, 0)) abx hb); have n3_ := Aside0.mk (below_step ahx hb); clear HO_9; clear BK147; clear BK156; clear HB; have HO_9 := n0_; have BK147 := n1_; have BK156 := n2_; have HB := n3_; clear n0_ n1_ n2_ n3_; (try clear hb); (try clear hb2); (try clear hk); (try clear hi); refine hK.out _ _ ⟨(blk_cell BK156.out 0).trans rfl, (blk_cell BK156.out 1).trans rfl, (blk_cell BK156.out 2).trans rfl, (blk_cell BK156.out 3).trans rfl, HS4_, HS5_⟩ (fun hHeld => ?_)
            clear hK K
            as_aux_lemma =>
            refine norm_ (a' := ?_) ?_ ?_; rotate_left
            ·show Act.put _ (some 93) _ = _; simp only [Act.put, zA, zB, zC, i64_w, i32_w]; rfl
            as_aux_lemma =>
            refine pure_ (i := 7) (N := some 86) (v := ?_) (a' := ?_) #[Z,Z,Z,Z,Z,Z,Z,Z,O,O,O,O,O] rfl rfl (any_of HT_.out (by kernel_rfl)) (fun _ _ _ h => h) (Or.inl ⟨by rfl, ?_⟩) ?_ ?_; rotate_left
            ·intro w'; go_simp; with_reducible rfl
            rotate_left
            ·simp only [Act.put, zA, zB, zC, i64_w, i32_w]; rfl
            as_aux_lemma =>
            refine pure_ (i := 8) (N := some 94) (v := ?_) (a' := ?_) #[Z,Z,Z,Z,Z,Z,Z,Z,Z,O,O,O,O] rfl rfl (any_of HT_.out (by kernel_rfl)) (fun _ _ _ h => h) (Or.inl ⟨by rfl, ?_⟩) ?_ ?_; rotate_left
            ·intro w'; go_simp; with_reducible rfl
            rotate_left
            ·simp only [Act.put, zA, zB, zC, i64_w, i32_w]; rfl
            as_aux_lemma =>
            refine pure_ (i := 9) (N := some 95) (v := ?_) (a' := ?_) #[Z,Z,Z,Z,Z,Z,Z,Z,Z,Z,O,O,O] rfl rfl (any_of HT_.out (by kernel_rfl)) (fun _ _ _ h => h) (Or.inl ⟨by rfl, ?_⟩) ?_ ?_; rotate_left
            ·intro w'; go_simp; with_reducible rfl
            rotate_left
            ·simp only [Act.put, zA, zB, zC, i64_w, i32_w]; rfl
            as_aux_lemma =>
            refine one_ (i := 10) (N := some 15) #[Z,Z,Z,Z,Z,Z,Z,Z,Z,Z,Z,O,O] rfl rfl (one_of HT_.out (by kernel_rfl)) (by decide) (fun K hK => ?_)
            refine box_step ?hg (N := 15) ?hd (cs := #[.int .i64 0, .int .i64 0]) (t := 26) ?hr ?_; (case hd => rfl); (case hg => rfl); (case hr => first | (go_simp; done) | (go_simp; rfl))
            intro gb164 hg w59 hbox hb; have HS4_ := (hb.cell (World.block_lt_of_cell? _ _ (hHeld.2.2.2.2.1))).trans (hHeld.2.2.2.2.1)
            have HS5_ := (hb.cell (World.block_lt_of_cell? _ _ (hHeld.2.2.2.2.2))).trans (hHeld.2.2.2.2.2)
            have n0_ := Aside0.mk (Kd.R_below (Kd.R_elderB (by (with_reducible repeat (first | apply Kd.R_alloc | apply Kd.R_drewN | apply Kd.R_drew)); exact HO_9.out) gb164 (Nat.le_of_eq hg.symm)) hb); have n1_ := Aside0.mk (blk_below (g := gb147) (o := .cells #[.string a0_0, .slice A0_1 l0_1.length c0_1, .int .i64 a0_2, .slice A0_3 l0_3.length c0_3, .slice A0_4 l0_4.length c0_4, .slice A0_5 l0_5.length c0_5, .slice (some ad158) l0_6.length c0_6, .slice A0_7 l0_7.length c0_7, .slice A0_8 l0_8.length c0_8, .slice A0_9 l0_9.length c0_9, .int .i64 a0_10] 41 (0, 0)) abx hb); have n2_ := Aside0.mk (blk_below (g := gb156) (o := .cells #[.int .i64 ((rd_T63 l3 x40_2).f0), .int .i64 ((rd_T63 l3 x40_2).f1), .int .i64 ((rd_T63 l3 x40_2).f2.f0), .int .i64 ((rd_T63 l3 x40_2).f2.f1)] 63 (0, 0)) abx hb); have n3_ := Aside0.mk (below_step ahx hb); have n4_ := Aside0.mk (hbox); have n5_ := Aside0.mk ((by rw [hg]; exact (below_size ahx) : w.heap.size ≤ gb164)); have n6_ := Aside0.mk ((by rw [hg]; exact (below_size ahx) : w.heap.size ≤ gb164)); have n7_ := Aside0.mk ((by rw [hg]; exact Nat.ne_of_lt (blk_lt (g := gb147) (o := .cells #[.string a0_0, .slice A0_1 l0_1.length c0_1, .int .i64 a0_2, .slice A0_3 l0_3.length c0_3, .slice A0_4 l0_4.length c0_4, .slice A0_5 l0_5.length c0_5, .slice (some ad158) l0_6.length c0_6, .slice A0_7 l0_7.length c0_7, .slice A0_8 l0_8.length c0_8, .slice A0_9 l0_9.length c0_9, .int .i64 a0_10] 41 (0, 0)) abx) : gb147 ≠ gb164)); have n8_ := Aside0.mk ((by rw [hg]; exact Nat.ne_of_gt (blk_lt (g := gb147) (o := .cells #[.string a0_0, .slice A0_1 l0_1.length c0_1, .int .i64 a0_2, .slice A0_3 l0_3.length c0_3, .slice A0_4 l0_4.length c0_4, .slice A0_5 l0_5.length c0_5, .slice (some ad158) l0_6.length c0_6, .slice A0_7 l0_7.length c0_7, .slice A0_8 l0_8.length c0_8, .slice A0_9 l0_9.length c0_9, .int .i64 a0_10] 41 (0, 0)) abx) : gb164 ≠ gb147)); have n9_ := Aside0.mk ((by rw [hg]; exact Nat.ne_of_lt (blk_lt (g := gb156) (o := .cells #[.int .i64 ((rd_T63 l3 x40_2).f0), .int .i64 ((rd_T63 l3 x40_2).f1), .int .i64 ((rd_T63 l3 x40_2).f2.f0), .int .i64 ((rd_T63 l3 x40_2).f2.f1)] 63 (0, 0)) abx) : gb156 ≠ gb164)); have n10_ := Aside0.mk ((by rw [hg]; exact Nat.ne_of_gt (blk_lt (g := gb156) (o := .cells #[.int .i64 ((rd_T63 l3 x40_2).f0), .int .i64 ((rd_T63 l3 x40_2).f1), .int .i64 ((rd_T63 l3 x40_2).f2.f0), .int .i64 ((rd_T63 l3 x40_2).f2.f1)] 63 (0, 0)) abx) : gb164 ≠ gb156)); clear HO_9; clear BK147; clear BK156; clear HB; have HO_9 := n0_; have BK147 := n1_; have BK156 := n2_; have HB := n3_; have BK164 := n4_; have GW164 := n5_; have GE164 := n6_; have NB147_164 := n7_; have NB164_147 := n8_; have NB156_164 := n9_; have NB164_156 := n10_; clear n0_ n1_ n2_ n3_ n4_ n5_ n6_ n7_ n8_ n9_ n10_; clear hb hbox hg; refine hK.out _ _ ⟨(blk_cell BK156.out 0).trans rfl, (blk_cell BK156.out 1).trans rfl, (blk_cell BK156.out 2).trans rfl, (blk_cell BK156.out 3).trans rfl, HS4_, HS5_⟩ (fun hHeld => ?_)
            clear hK K
            as_aux_lemma =>
            refine norm_ (a' := ?_) ?_ ?_; rotate_left
            ·show Act.put _ (some 15) _ = _; simp only [Act.put, zA, zB, zC, i64_w, i32_w]; rfl
            exact norm_ (by simp only [putAll, Act.put, zA, zB, zC]) (hCont (gb164) _ ⟨hHeld, (by (with_reducible repeat (first | apply Kd.R_alloc | apply Kd.R_drewN | apply Kd.R_drew)); exact Kd.R_mono HO_9.out (fun _ hk => hk.2)), abx, abx, abx, GW164.out, GE164.out, NB147_164.out, NB164_147.out, NB156_164.out, NB164_156.out, ahx⟩)
           ·skip
            refine box_step ?hg (N := 15) ?hd (cs := #[.int .i64 0, .int .i64 0]) (t := 26) ?hr ?_; (case hd => rfl); (case hg => rfl); (case hr => first | (go_simp; done) | (go_simp; rfl))
            intro gb164 hg w58 hbox hb; have HS4_ := (hb.cell (World.block_lt_of_cell? _ _ (hHeld.2.2.2.2.1))).trans (hHeld.2.2.2.2.1)
            have HS5_ := (hb.cell (World.block_lt_of_cell? _ _ (hHeld.2.2.2.2.2))).trans (hHeld.2.2.2.2.2)
            have n0_ := Aside0.mk (Kd.R_below (Kd.R_elderB (by (with_reducible repeat (first | apply Kd.R_alloc | apply Kd.R_drewN | apply Kd.R_drew)); exact HO_9.out) gb164 (Nat.le_of_eq hg.symm)) hb); have n1_ := Aside0.mk (blk_below (g := gb147) (o := .cells #[.string a0_0, .slice A0_1 l0_1.length c0_1, .int .i64 a0_2, .slice A0_3 l0_3.length c0_3, .slice A0_4 l0_4.length c0_4, .slice A0_5 l0_5.length c0_5, .slice (some ad158) l0_6.length c0_6, .slice A0_7 l0_7.length c0_7, .slice A0_8 l0_8.length c0_8, .slice A0_9 l0_9.length c0_9, .int .i64 a0_10] 41 (0, 0)) abx hb); have n2_ := Aside0.mk (blk_below (g := gb156) (o := .cells #[.int .i64 ((rd_T63 l3 x40_2).f0), .int .i64 ((rd_T63 l3 x40_2).f1), .int .i64 ((rd_T63 l3 x40_2).f2.f0), .int .i64 ((rd_T63 l3 x40_2).f2.f1)] 63 (0, 0)) abx hb); have n3_ := Aside0.mk (below_step ahx hb); have n4_ := Aside0.mk (hbox); have n5_ := Aside0.mk ((by rw [hg]; exact (below_size ahx) : w.heap.size ≤ gb164)); have n6_ := Aside0.mk ((by rw [hg]; exact (below_size ahx) : w.heap.size ≤ gb164)); have n7_ := Aside0.mk ((by rw [hg]; exact Nat.ne_of_lt (blk_lt (g := gb147) (o := .cells #[.string a0_0, .slice A0_1 l0_1.length c0_1, .int .i64 a0_2, .slice A0_3 l0_3.length c0_3, .slice A0_4 l0_4.length c0_4, .slice A0_5 l0_5.length c0_5, .slice (some ad158) l0_6.length c0_6, .slice A0_7 l0_7.length c0_7, .slice A0_8 l0_8.length c0_8, .slice A0_9 l0_9.length c0_9, .int .i64 a0_10] 41 (0, 0)) abx) : gb147 ≠ gb164)); have n8_ := Aside0.mk ((by rw [hg]; exact Nat.ne_of_gt (blk_lt (g := gb147) (o := .cells #[.string a0_0, .slice A0_1 l0_1.length c0_1, .int .i64 a0_2, .slice A0_3 l0_3.length c0_3, .slice A0_4 l0_4.length c0_4, .slice A0_5 l0_5.length c0_5, .slice (some ad158) l0_6.length c0_6, .slice A0_7 l0_7.length c0_7, .slice A0_8 l0_8.length c0_8, .slice A0_9 l0_9.length c0_9, .int .i64 a0_10] 41 (0, 0)) abx) : gb164 ≠ gb147)); have n9_ := Aside0.mk ((by rw [hg]; exact Nat.ne_of_lt (blk_lt (g := gb156) (o := .cells #[.int .i64 ((rd_T63 l3 x40_2).f0), .int .i64 ((rd_T63 l3 x40_2).f1), .int .i64 ((rd_T63 l3 x40_2).f2.f0), .int .i64 ((rd_T63 l3 x40_2).f2.f1)] 63 (0, 0)) abx) : gb156 ≠ gb164)); have n10_ := Aside0.mk ((by rw [hg]; exact Nat.ne_of_gt (blk_lt (g := gb156) (o := .cells #[.int .i64 ((rd_T63 l3 x40_2).f0), .int .i64 ((rd_T63 l3 x40_2).f1), .int .i64 ((rd_T63 l3 x40_2).f2.f0), .int .i64 ((rd_T63 l3 x40_2).f2.f1)] 63 (0, 0)) abx) : gb164 ≠ gb156)); clear HO_9; clear BK147; clear BK156; clear HB; have HO_9 := n0_; have BK147 := n1_; have BK156 := n2_; have HB := n3_; have BK164 := n4_; have GW164 := n5_; have GE164 := n6_; have NB147_164 := n7_; have NB164_147 := n8_; have NB156_164 := n9_; have NB164_156 := n10_; clear n0_ n1_ n2_ n3_ n4_ n5_ n6_ n7_ n8_ n9_ n10_; clear hb hbox hg; refine hK.out _ _ ⟨(blk_cell BK156.out 0).trans rfl, (blk_cell BK156.out 1).trans rfl, (blk_cell BK156.out 2).trans rfl, (blk_cell BK156.out 3).trans rfl, HS4_, HS5_⟩ (fun hHeld => ?_)
            clear hK K
            as_aux_lemma =>
            refine norm_ (a' := ?_) ?_ ?_; rotate_left
            ·show Act.put _ (some 15) _ = _; simp only [Act.put, zA, zB, zC, i64_w, i32_w]; rfl
            as_aux_lemma =>
            refine one_ (i := 6) (N := some 93) #[Z,Z,Z,Z,Z,Z,Z,O,O,O,Z,O,O] rfl rfl (one_of HT_.out (by kernel_rfl)) (by decide) (fun K hK => ?_)
            refine goes_ Try.func33 (by kernel_rfl) rfl #[.agg #[.int .i64 ((rd_T26 x9_2 ((rd_T67 l0_6 ((rd_T63 l3 x40_2).f0)).f2)).f0), .int .i64 ((rd_T26 x9_2 ((rd_T67 l0_6 ((rd_T63 l3 x40_2).f0)).f2)).f1)], .agg #[.int .i64 ((rd_T63 l3 x40_2).f2.f0), .int .i64 ((rd_T63 l3 x40_2).f2.f1)]] (by rfl) rfl rfl (by (try simp only [List.map_toArray, List.map_cons, List.map_nil]); first | done | rfl | (simp only [List.length_drop, List.length_take]; rfl)) ?_; with_reducible refine (span_Meet.calls ((rd_T26 x9_2 ((rd_T67 l0_6 ((rd_T63 l3 x40_2).f0)).f2)).f0) ((rd_T26 x9_2 ((rd_T67 l0_6 ((rd_T63 l3 x40_2).f0)).f2)).f1) ((rd_T63 l3 x40_2).f2.f0) ((rd_T63 l3 x40_2).f2.f1) t161 t162 true _ A53.out).mono ?_
            rintro e w59 ⟨rfl, hb⟩
            have HS4_ := (hb.cell (World.block_lt_of_cell? _ _ (hHeld.2.2.2.2.1))).trans (hHeld.2.2.2.2.1)
            have HS5_ := (hb.cell (World.block_lt_of_cell? _ _ (hHeld.2.2.2.2.2))).trans (hHeld.2.2.2.2.2)
            refine ⟨_, rfl, ?_⟩
            have n0_ := Aside0.mk (Kd.R_below (by (with_reducible repeat (first | apply Kd.R_alloc | apply Kd.R_drewN | apply Kd.R_drew)); exact HO_9.out) hb); have n1_ := Aside0.mk (blk_below (g := gb147) (o := .cells #[.string a0_0, .slice A0_1 l0_1.length c0_1, .int .i64 a0_2, .slice A0_3 l0_3.length c0_3, .slice A0_4 l0_4.length c0_4, .slice A0_5 l0_5.length c0_5, .slice (some ad158) l0_6.length c0_6, .slice A0_7 l0_7.length c0_7, .slice A0_8 l0_8.length c0_8, .slice A0_9 l0_9.length c0_9, .int .i64 a0_10] 41 (0, 0)) abx hb); have n2_ := Aside0.mk (blk_below (g := gb156) (o := .cells #[.int .i64 ((rd_T63 l3 x40_2).f0), .int .i64 ((rd_T63 l3 x40_2).f1), .int .i64 ((rd_T63 l3 x40_2).f2.f0), .int .i64 ((rd_T63 l3 x40_2).f2.f1)] 63 (0, 0)) abx hb); have n3_ := Aside0.mk (blk_below (g := gb164) (o := .cells #[.int .i64 0, .int .i64 0] 26 (0, 0)) abx hb); have n4_ := Aside0.mk (below_step ahx hb); clear HO_9; clear BK147; clear BK156; clear BK164; clear HB; have HO_9 := n0_; have BK147 := n1_; have BK156 := n2_; have BK164 := n3_; have HB := n4_; clear n0_ n1_ n2_ n3_ n4_; (try clear hb); (try clear hb2); (try clear hk); (try clear hi); refine hK.out _ _ ⟨(blk_cell BK156.out 0).trans rfl, (blk_cell BK156.out 1).trans rfl, (blk_cell BK156.out 2).trans rfl, (blk_cell BK156.out 3).trans rfl, HS4_, HS5_⟩ (fun hHeld => ?_)
            clear hK K
            as_aux_lemma =>
            refine norm_ (a' := ?_) ?_ ?_; rotate_left
            ·show Act.put _ (some 93) _ = _; simp only [Act.put, zA, zB, zC, i64_w, i32_w]; rfl
            as_aux_lemma =>
            refine pure_ (i := 7) (N := some 86) (v := ?_) (a' := ?_) #[Z,Z,Z,Z,Z,Z,Z,Z,O,O,Z,O,O] rfl rfl (any_of HT_.out (by kernel_rfl)) (fun _ _ _ h => h) (Or.inl ⟨by rfl, ?_⟩) ?_ ?_; rotate_left
            ·intro w'; go_simp; with_reducible rfl
            rotate_left
            ·simp only [Act.put, zA, zB, zC, i64_w, i32_w]; rfl
            as_aux_lemma =>
            refine pure_ (i := 8) (N := some 94) (v := ?_) (a' := ?_) #[Z,Z,Z,Z,Z,Z,Z,Z,Z,O,Z,O,O] rfl rfl (any_of HT_.out (by kernel_rfl)) (fun _ _ _ h => h) (Or.inl ⟨by rfl, ?_⟩) ?_ ?_; rotate_left
            ·intro w'; go_simp; with_reducible rfl
            rotate_left
            ·simp only [Act.put, zA, zB, zC, i64_w, i32_w]; rfl
            as_aux_lemma =>
            refine pure_ (i := 9) (N := some 95) (v := ?_) (a' := ?_) #[Z,Z,Z,Z,Z,Z,Z,Z,Z,Z,Z,O,O] rfl rfl (any_of HT_.out (by kernel_rfl)) (fun _ _ _ h => h) (Or.inl ⟨by rfl, ?_⟩) ?_ ?_; rotate_left
            ·intro w'; go_simp; with_reducible rfl
            rotate_left
            ·simp only [Act.put, zA, zB, zC, i64_w, i32_w]; rfl
            exact norm_ (by simp only [putAll, Act.put, zA, zB, zC]) (hCont (gb164) _ ⟨hHeld, (by (with_reducible repeat (first | apply Kd.R_alloc | apply Kd.R_drewN | apply Kd.R_drew)); exact Kd.R_mono HO_9.out (fun _ hk => hk.2)), abx, abx, abx, GW164.out, GE164.out, NB147_164.out, NB164_147.out, NB156_164.out, NB164_156.out, ahx⟩)
          rintro gb164 w60 ⟨hS_, h0_, h1_, h2_, h3_, h4_, h5_, h6_, h7_, h8_, h9_, h10_⟩
          have n0_ : Aside0 (Kd.R k26 26 w60 w.heap.size (fun k_ => k_ ≠ gb164) (.slice (some ad160) x9_2.length co57) x9_2) := ⟨h0_⟩
          have n1_ : Aside0 (w60.heap[gb147]? = some (.cells #[.string a0_0, .slice A0_1 l0_1.length c0_1, .int .i64 a0_2, .slice A0_3 l0_3.length c0_3, .slice A0_4 l0_4.length c0_4, .slice A0_5 l0_5.length c0_5, .slice (some ad158) l0_6.length c0_6, .slice A0_7 l0_7.length c0_7, .slice A0_8 l0_8.length c0_8, .slice A0_9 l0_9.length c0_9, .int .i64 a0_10] 41 (0, 0))) := ⟨h1_⟩
          have n2_ : Aside0 (w60.heap[gb156]? = some (.cells #[.int .i64 ((rd_T63 l3 x40_2).f0), .int .i64 ((rd_T63 l3 x40_2).f1), .int .i64 ((rd_T63 l3 x40_2).f2.f0), .int .i64 ((rd_T63 l3 x40_2).f2.f1)] 63 (0, 0))) := ⟨h2_⟩
          have n3_ : Aside0 (w60.heap[gb164]? = some (.cells #[.int .i64 0, .int .i64 0] 26 (0, 0))) := ⟨h3_⟩
          have n4_ : Aside0 (w.heap.size ≤ gb164) := ⟨h4_⟩
          have n5_ : Aside0 (w.heap.size ≤ gb164) := ⟨h5_⟩
          have n6_ : Aside0 (gb147 ≠ gb164) := ⟨h6_⟩
          have n7_ : Aside0 (gb164 ≠ gb147) := ⟨h7_⟩
          have n8_ : Aside0 (gb156 ≠ gb164) := ⟨h8_⟩
          have n9_ : Aside0 (gb164 ≠ gb156) := ⟨h9_⟩
          have n10_ : Aside0 (Below w.heap.size w w60) := ⟨h10_⟩
          clear HO_9; clear BK147; clear BK156; clear HB; clear h0_ h1_ h2_ h3_ h4_ h5_ h6_ h7_ h8_ h9_ h10_; have HO_9 := n0_; have BK147 := n1_; have BK156 := n2_; have BK164 := n3_; have GW164 := n4_; have GE164 := n5_; have NB147_164 := n6_; have NB164_147 := n7_; have NB156_164 := n8_; have NB164_156 := n9_; have HB := n10_; clear n0_ n1_ n2_ n3_ n4_ n5_ n6_ n7_ n8_ n9_ n10_; have hHeld : w60.cell? ⟨gb156, 0, none⟩ = some (.int .i64 ((rd_T63 l3 x40_2).f0)) ∧ w60.cell? ⟨gb156, 1, none⟩ = some (.int .i64 ((rd_T63 l3 x40_2).f1)) ∧ w60.cell? ⟨gb156, 2, none⟩ = some (.int .i64 ((rd_T63 l3 x40_2).f2.f0)) ∧ w60.cell? ⟨gb156, 3, none⟩ = some (.int .i64 ((rd_T63 l3 x40_2).f2.f1)) ∧ w60.cell? (ad160.add ((((rd_T67 l0_6 ((rd_T63 l3 x40_2).f0)).f2)).toNat * 2)) = some (.int .i64 ((rd_T26 x9_2 ((rd_T67 l0_6 ((rd_T63 l3 x40_2).f0)).f2)).f0)) ∧ w60.cell? ⟨(ad160.add ((((rd_T67 l0_6 ((rd_T63 l3 x40_2).f0)).f2)).toNat * 2)).block, (ad160.add ((((rd_T67 l0_6 ((rd_T63 l3 x40_2).f0)).f2)).toNat * 2)).off + 1, none⟩ = some (.int .i64 ((rd_T26 x9_2 ((rd_T67 l0_6 ((rd_T63 l3 x40_2).f0)).f2)).f1)) := hS_
          as_aux_lemma =>
          refine norm_ (a' := ?_) ?_ ?_; rotate_left
          ·simp only [putAll, Act.put, zA, zB, zC]; rfl
          as_aux_lemma =>
          refine one_ (i := 11) (N := none) #[Z,Z,Z,Z,Z,Z,Z,Z,Z,Z,Z,Z,O] rfl rfl (one_of HT_.out (by kernel_rfl)) (by decide) (fun K hK => ?_)
          have hs61 : w60.cell? ⟨gb164, 0, none⟩ = some (.int .i64 0) := (blk_cell BK164.out 0).trans rfl
          have hfs61 := blk_frozen BK164.out 0
          have hns61_0 := NB147_164.out; have hns61_1 := NB156_164.out; have hms61_0 := NB164_147.out; have hms61_1 := NB164_156.out; have hs62 : w60.cell? ⟨gb164, 1, none⟩ = some (.int .i64 0) := (blk_cell BK164.out 1).trans rfl
          have hfs62 := blk_frozen BK164.out 1
          have hns62_0 := NB147_164.out; have hns62_1 := NB156_164.out; have hms62_0 := NB164_147.out; have hms62_1 := NB164_156.out; refine skip_ (w1 := ?_) (by rfl) rfl ?_ ?_
          rotate_left
          ·go_simp; rfl
          refine hK.out _ _ ⟨((cell_far (p := ⟨gb164, _, none⟩) NB156_164.out _).trans (((cell_far (p := ⟨gb164, _, none⟩) NB156_164.out _).trans (hHeld.1)))), ((cell_far (p := ⟨gb164, _, none⟩) NB156_164.out _).trans (((cell_far (p := ⟨gb164, _, none⟩) NB156_164.out _).trans (hHeld.2.1)))), ((cell_far (p := ⟨gb164, _, none⟩) NB156_164.out _).trans (((cell_far (p := ⟨gb164, _, none⟩) NB156_164.out _).trans (hHeld.2.2.1)))), ((cell_far (p := ⟨gb164, _, none⟩) NB156_164.out _).trans (((cell_far (p := ⟨gb164, _, none⟩) NB156_164.out _).trans (hHeld.2.2.2.1)))), ((cell_far (p := ⟨gb164, _, none⟩) (by first | exact Kd.own_blk (Kd.R_away HO_9.out (fun _ hk => hk)) | (rw [add_block]; exact Kd.own_blk (Kd.R_away HO_9.out (fun _ hk => hk))) | (show (Addr.add _ _).block ≠ _; rw [add_block]; exact Kd.own_blk (Kd.R_away HO_9.out (fun _ hk => hk))) | (dsimp only; exact Kd.own_blk (Kd.R_away HO_9.out (fun _ hk => hk)))) _).trans (((cell_far (p := ⟨gb164, _, none⟩) (by first | exact Kd.own_blk (Kd.R_away HO_9.out (fun _ hk => hk)) | (rw [add_block]; exact Kd.own_blk (Kd.R_away HO_9.out (fun _ hk => hk))) | (show (Addr.add _ _).block ≠ _; rw [add_block]; exact Kd.own_blk (Kd.R_away HO_9.out (fun _ hk => hk))) | (dsimp only; exact Kd.own_blk (Kd.R_away HO_9.out (fun _ hk => hk)))) _).trans (hHeld.2.2.2.2.1)))), ((cell_far (p := ⟨gb164, _, none⟩) (by first | exact Kd.own_blk (Kd.R_away HO_9.out (fun _ hk => hk)) | (rw [add_block]; exact Kd.own_blk (Kd.R_away HO_9.out (fun _ hk => hk))) | (show (Addr.add _ _).block ≠ _; rw [add_block]; exact Kd.own_blk (Kd.R_away HO_9.out (fun _ hk => hk))) | (dsimp only; exact Kd.own_blk (Kd.R_away HO_9.out (fun _ hk => hk)))) _).trans (((cell_far (p := ⟨gb164, _, none⟩) (by first | exact Kd.own_blk (Kd.R_away HO_9.out (fun _ hk => hk)) | (rw [add_block]; exact Kd.own_blk (Kd.R_away HO_9.out (fun _ hk => hk))) | (show (Addr.add _ _).block ≠ _; rw [add_block]; exact Kd.own_blk (Kd.R_away HO_9.out (fun _ hk => hk))) | (dsimp only; exact Kd.own_blk (Kd.R_away HO_9.out (fun _ hk => hk)))) _).trans (hHeld.2.2.2.2.2))))⟩ (fun hHeld => ?_)
          clear hK K
          as_aux_lemma =>
          refine pure_ (i := 12) (N := some 16) (v := ?_) (a' := ?_) #[Z,Z,Z,Z,Z,Z,Z,Z,Z,Z,Z,Z,Z] rfl rfl (any_of HT_.out (by kernel_rfl)) (fun _ _ _ h => h) (Or.inl ⟨by rfl, ?_⟩) ?_ ?_; rotate_left
          ·intro w'; go_simp; with_reducible rfl
          rotate_left
          ·simp only [Act.put, zA, zB, zC, i64_w, i32_w]; rfl
          refine done_ (done_of HT_.out (by kernel_rfl)) ?_
          have n0_ : Aside0 (Kd.R k26 26 ((w60.setCell ⟨gb164, 0, none⟩ (.int .i64 t161)).setCell ⟨gb164, 1, none⟩ (.int .i64 t162)) w.heap.size (fun k_ => k_ ≠ gb164) (.slice (some ad160) x9_2.length co57) x9_2) := ⟨by (with_reducible repeat (first | apply Kd.R_alloc | apply Kd.R_drewN | apply Kd.R_drew)); exact Kd.R_mono (Kd.R_far (p := ⟨gb164, 1, none⟩) (Kd.R_far (p := ⟨gb164, 0, none⟩) (Kd.R_mono HO_9.out (fun k_ hk => (⟨hk, hk⟩ : _ ∧ k_ ≠ gb164))) (fun _ hk => hk.2) (.int .i64 t161)) (fun _ hk => hk.2) (.int .i64 t162)) (fun _ hk => hk.1)⟩
          have n1_ : Aside0 (((w60.setCell ⟨gb164, 0, none⟩ (.int .i64 t161)).setCell ⟨gb164, 1, none⟩ (.int .i64 t162)).heap[gb147]? = some (.cells #[.string a0_0, .slice A0_1 l0_1.length c0_1, .int .i64 a0_2, .slice A0_3 l0_3.length c0_3, .slice A0_4 l0_4.length c0_4, .slice A0_5 l0_5.length c0_5, .slice (some ad158) l0_6.length c0_6, .slice A0_7 l0_7.length c0_7, .slice A0_8 l0_8.length c0_8, .slice A0_9 l0_9.length c0_9, .int .i64 a0_10] 41 (0, 0))) := ⟨by (with_reducible repeat (first | refine blk_drewN ?_ _ | refine blk_drew ?_ | refine blk_alloc ?_ _)); refine blk_far ?_ NB147_164.out _; (with_reducible repeat (first | refine blk_drewN ?_ _ | refine blk_drew ?_ | refine blk_alloc ?_ _)); refine blk_far ?_ NB147_164.out _; (with_reducible repeat (first | refine blk_drewN ?_ _ | refine blk_drew ?_ | refine blk_alloc ?_ _)); exact BK147.out⟩
          have n2_ : Aside0 (((w60.setCell ⟨gb164, 0, none⟩ (.int .i64 t161)).setCell ⟨gb164, 1, none⟩ (.int .i64 t162)).heap[gb156]? = some (.cells #[.int .i64 ((rd_T63 l3 x40_2).f0), .int .i64 ((rd_T63 l3 x40_2).f1), .int .i64 ((rd_T63 l3 x40_2).f2.f0), .int .i64 ((rd_T63 l3 x40_2).f2.f1)] 63 (0, 0))) := ⟨by (with_reducible repeat (first | refine blk_drewN ?_ _ | refine blk_drew ?_ | refine blk_alloc ?_ _)); refine blk_far ?_ NB156_164.out _; (with_reducible repeat (first | refine blk_drewN ?_ _ | refine blk_drew ?_ | refine blk_alloc ?_ _)); refine blk_far ?_ NB156_164.out _; (with_reducible repeat (first | refine blk_drewN ?_ _ | refine blk_drew ?_ | refine blk_alloc ?_ _)); exact BK156.out⟩
          have n3_ : Aside0 (((w60.setCell ⟨gb164, 0, none⟩ (.int .i64 t161)).setCell ⟨gb164, 1, none⟩ (.int .i64 t162)).heap[gb164]? = some (.cells #[.int .i64 t161, .int .i64 t162] 26 (0, 0))) := ⟨by (with_reducible repeat (first | refine blk_drewN ?_ _ | refine blk_drew ?_ | refine blk_alloc ?_ _)); refine blk_put (cs := #[.int .i64 t161, .int .i64 0]) ?_ 1 _ rfl; (with_reducible repeat (first | refine blk_drewN ?_ _ | refine blk_drew ?_ | refine blk_alloc ?_ _)); refine blk_put (cs := #[.int .i64 0, .int .i64 0]) ?_ 0 _ rfl; (with_reducible repeat (first | refine blk_drewN ?_ _ | refine blk_drew ?_ | refine blk_alloc ?_ _)); exact BK164.out⟩
          have n4_ : Aside0 (Below w.heap.size w ((w60.setCell ⟨gb164, 0, none⟩ (.int .i64 t161)).setCell ⟨gb164, 1, none⟩ (.int .i64 t162))) := ⟨ahx⟩
          (try clear HO_9); (try clear BK147); (try clear BK156); (try clear BK164); (try clear HB); generalize ((w60.setCell ⟨gb164, 0, none⟩ (.int .i64 t161)).setCell ⟨gb164, 1, none⟩ (.int .i64 t162)) = w63 at n0_ n1_ n2_ n3_ n4_ ⊢
          have HO_9 := n0_; have BK147 := n1_; have BK156 := n2_; have BK164 := n3_; have HB := n4_; clear n0_ n1_ n2_ n3_ n4_; have hnb64 := NB164_147.out; have hnc64 := NB147_164.out; have hnb65 := NB164_156.out; have hnc65 := NB156_164.out; have hcz66_0 : w63.cell? ⟨gb164, 0, none⟩ = some (.int .i64 t161) := (blk_cell BK164.out 0).trans rfl
          have hcz66_1 : w63.cell? ⟨gb164, 1, none⟩ = some (.int .i64 t162) := (blk_cell BK164.out 1).trans rfl
          have hfz66_0 := blk_frozen BK164.out 0
          have hfz66_1 := blk_frozen BK164.out 1
          have p55 : 0 ≤ (((rd_T67 l0_6 ((rd_T63 l3 x40_2).f0)).f2) : Int) := of_decide_eq_true (by first | (with_reducible assumption) | assumption)
          have q55 : (((rd_T67 l0_6 ((rd_T63 l3 x40_2).f0)).f2) : Int) < ((x9_2.length : Int) : Int) := of_decide_eq_true (by first | (with_reducible assumption) | assumption)
          obtain ⟨go55, co55, eo55, gb55, gl55, cl55, HG55⟩ := Kd.R_form HO_9.out (by omega)
          (first | cases eo55 | (injection eo55 with ea_ en_ ec_; (first | subst ea_ | (injection ea_ with ea_; subst ea_)); subst ec_; clear en_)); have GB55 := Aside0.mk gb55
          have GG55 := Aside0.mk HG55
          clear gb55 gl55 HG55; (first | simp only [add_plain] at hx160_0 | skip); (first | simp only [add_plain] at hx160_1 | skip); obtain ⟨ce55, hcl55, hM55, hcc55, hfr55⟩ := Kd.R_elem HO_9.out z26 (((rd_T67 l0_6 ((rd_T63 l3 x40_2).f0)).f2) : Int) p55 q55
          obtain rfl := k26_openM hM55
          have hx55_0 : w63.cell? ⟨go55, (((rd_T67 l0_6 ((rd_T63 l3 x40_2).f0)).f2) : Int).toNat * 2, none⟩ = some (.int .i64 ((rd_T26 x9_2 ((rd_T67 l0_6 ((rd_T63 l3 x40_2).f0)).f2)).f0)) := hcc55 0 _ rfl
          have hx55_1 : w63.cell? ⟨go55, (((rd_T67 l0_6 ((rd_T63 l3 x40_2).f0)).f2) : Int).toNat * 2 + 1, none⟩ = some (.int .i64 ((rd_T26 x9_2 ((rd_T67 l0_6 ((rd_T63 l3 x40_2).f0)).f2)).f1)) := hcc55 1 _ rfl
          have hf55_0 : w63.frozen? ⟨go55, (((rd_T67 l0_6 ((rd_T63 l3 x40_2).f0)).f2) : Int).toNat * 2, none⟩ = false := hfr55 0
          have hf55_1 : w63.frozen? ⟨go55, (((rd_T67 l0_6 ((rd_T63 l3 x40_2).f0)).f2) : Int).toNat * 2 + 1, none⟩ = false := hfr55 1
          clear hcl55 hcc55 hfr55 hM55; replace p55 := eq_true p55
          replace q55 := eq_true q55
          have HX67 := Aside0.mk (show Kd.R k26 26 w63 w.heap.size (fun k_ => k_ ≠ gb164) (.slice (some ⟨go55, 0, none⟩) x9_2.length co57) x9_2 from (by (with_reducible repeat (first | apply Kd.R_alloc | apply Kd.R_drewN | apply Kd.R_drew)); exact HO_9.out))
          obtain ⟨ce67, hcl67, hM67, hcc67, hfr67⟩ := Kd.R_elem HX67.out z26 (((rd_T67 l0_6 ((rd_T63 l3 x40_2).f0)).f2) : Int) (of_decide_eq_true (by first | (with_reducible assumption) | assumption)) (by have h_ : (((rd_T67 l0_6 ((rd_T63 l3 x40_2).f0)).f2) : Int) < ((x9_2.length : Int) : Int) := of_decide_eq_true (by first | (with_reducible assumption) | assumption); first | exact h_ | (have e_ := (Kd.R_reads' HO_9.out).1; omega) | simpa using h_)
          obtain rfl := k26_openM hM67
          have HP67 := Kd.R_seg HX67.out (((rd_T67 l0_6 ((rd_T63 l3 x40_2).f0)).f2) : Int) (of_decide_eq_true (by first | (with_reducible assumption) | assumption)) (by have h_ : (((rd_T67 l0_6 ((rd_T63 l3 x40_2).f0)).f2) : Int) < ((x9_2.length : Int) : Int) := of_decide_eq_true (by first | (with_reducible assumption) | assumption); first | exact h_ | (have e_ := (Kd.R_reads' HO_9.out).1; omega) | simpa using h_) (seg := [.int .i64 t161, .int .i64 t162]) (j := 0) hcl67 hcc67 (show 2 ≤ 2 from by decide) (x' := (⟨t161, t162⟩ : S26)) (k26_mkM _ _ _ (⟨t161, t162⟩ : S26) ) (fun _ hk => hk)
          have hx67_0 := hcc67 0 _ rfl
          (try simp only [show (k26).sz = 2 from rfl, Nat.mul_one, Nat.add_zero] at hx67_0); have hf67_0 := hfr67 0
          (try simp only [show (k26).sz = 2 from rfl, Nat.mul_one, Nat.add_zero] at hf67_0); have hx67_1 := hcc67 1 _ rfl
          (try simp only [show (k26).sz = 2 from rfl, Nat.mul_one, Nat.add_zero] at hx67_1); have hf67_1 := hfr67 1
          (try simp only [show (k26).sz = 2 from rfl, Nat.mul_one, Nat.add_zero] at hf67_1); clear hcl67 hcc67 hfr67 hM67; try go_wp2_with (first | ((with_reducible refine gate_store (t := 26) (p := 100) rfl ?_); refine store_event (t := 26) (p := 100) (v := ?vo_w68) (w1 := ((w63.setCell ⟨go55, (((rd_T67 l0_6 ((rd_T63 l3 x40_2).f0)).f2) : Int).toNat * 2, none⟩ (.int .i64 t161)).setCell ⟨go55, (((rd_T67 l0_6 ((rd_T63 l3 x40_2).f0)).f2) : Int).toNat * 2 + 1, none⟩ (.int .i64 t162))) ?hg ?ho ?hn ?hr ?_; (case ho => rfl); (case hg => rfl); (case hn => rfl); (case hr => first | (go_simp; done) | (go_simp; rfl)); intro w68 hw; have hg : w63.grownBy w68 (some go55) := (by rw [hw]; exact HP67.2); have hp_ : Kd.R k26 26 w68 w.heap.size (fun k_ => k_ ≠ gb164) (.slice (some ⟨go55, 0, none⟩) x9_2.length co57) y165 := (by rw [hw, Ny165.out]; exact HP67.1); clear HP67; have n0_ := Aside0.mk (hp_); have n1_ := Aside0.mk (blk_grown (g := gb147) (o := .cells #[.string a0_0, .slice A0_1 l0_1.length c0_1, .int .i64 a0_2, .slice A0_3 l0_3.length c0_3, .slice A0_4 l0_4.length c0_4, .slice A0_5 l0_5.length c0_5, .slice (some ad158) l0_6.length c0_6, .slice A0_7 l0_7.length c0_7, .slice A0_8 l0_8.length c0_8, .slice A0_9 l0_9.length c0_9, .int .i64 a0_10] 41 (0, 0)) abx hg (Kd.R_ne HO_9.out BK147.out (by decide))); have n2_ := Aside0.mk (blk_grown (g := gb156) (o := .cells #[.int .i64 ((rd_T63 l3 x40_2).f0), .int .i64 ((rd_T63 l3 x40_2).f1), .int .i64 ((rd_T63 l3 x40_2).f2.f0), .int .i64 ((rd_T63 l3 x40_2).f2.f1)] 63 (0, 0)) abx hg (Kd.R_ne HO_9.out BK156.out (by decide))); have n3_ := Aside0.mk (blk_grown (g := gb164) (o := .cells #[.int .i64 t161, .int .i64 t162] 26 (0, 0)) abx hg (Kd.R_away HO_9.out (fun _ hk => hk))); have n4_ := Aside0.mk ((by rw [hw]; exact below_set (below_set (HB.out) GB55.out) GB55.out : Below w.heap.size w w68)); clear HO_9; clear BK147; clear BK156; clear BK164; clear HB; have HO_9 := n0_; have BK147 := n1_; have BK156 := n2_; have BK164 := n3_; have HB := n4_; clear n0_ n1_ n2_ n3_ n4_; clear hg hw hp_))
          go_roundg kj37
          case measure => have := HK1.out; have := HK2.out; have := HJ18.out; have := HJ37.out; omega
          case rel => exact ⟨(y165), (wrap64 (x40_2 + 1)), (by first | rfl | (simp; done) | (simp [*]; done)), H', ⟨by have := HK1.out; have := HK2.out; have := HJ18.out; have := HJ37.out; omega⟩, ⟨by (with_reducible repeat (first | apply Kd.R_alloc | apply Kd.R_drewN | apply Kd.R_drew)); exact Kd.R_mono HO_9.out (fun _ hk => trivial)⟩, ⟨by (with_reducible repeat (first | refine blk_drewN ?_ _ | refine blk_drew ?_ | refine blk_alloc ?_ _)); exact BK147.out⟩, ⟨ahx⟩⟩

end Go.Proofs.Ytcdlielgifkemaa.C
