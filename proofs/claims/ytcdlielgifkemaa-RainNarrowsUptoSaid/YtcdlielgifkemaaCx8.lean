-- Written by a program of this session (wip/tools/pp.py) out of the translation; Lean checks it.
import Derived.Test.YtcdlielgifkemaaCx0
import Derived.Test.YtcdlielgifkemaaCx2
namespace Go.Proofs.Ytcdlielgifkemaa.C
open Go.RowKit Go.Proofs.YtcdlielgifkemaaW.PrintWords Go.Proofs.YtcdlielgifkemaaW.PrintLast Go.Proofs.YtcdlielgifkemaaW.PrintMore
open Go.Proofs.Ytcdlielgifkemaa.S
attribute [local go_sem] max2_int min2_int max_two min_two max_three min_three max_four min_four   -- for this text's walks alone
open Bool renaming true → Z, false → O
set_option linter.unusedVariables false
set_option linter.unusedSimpArgs false

/-! ### bourneref26_Sum: function 21 -/
def bourneref26_Sum.l0 : Nat → List (S26) → Int → Int → Int → Option (Int × Int)
 | 0, _, _, _, _ => none
 | k + 1, x0, x4, x226000, x226001 => if x4 < (x0.length : Int) then (if 0 ≤ x4 then ((bourneref09_Add.f x226000 x226001 ((rd_T26 x0 x4).f0) ((rd_T26 x0 x4).f1)).bind fun bt227 => (bourneref26_Sum.l0 k x0 (wrap64 (x4 + 1)) bt227.1 bt227.2)) else (none)) else (some (x226000, x226001))
def bourneref26_Sum.f (k : Nat) (l0 : List (S26)) : Option (Int × Int) := bourneref26_Sum.l0 k l0 0 0 0
set_option maxHeartbeats 8000000 in
set_option maxRecDepth 100000 in
theorem bourneref26_Sum.calls (k : Nat) (A0 : Option Addr) (c0 : Nat) (l0 : List (S26)) (r1 : Int) (r2 : Int) (w : World) (hr0 : Kd.C k26 w A0 l0.length l0) (hc0 : l0.length ≤ c0) (h : bourneref26_Sum.f k l0 = some (r1, r2)) :
  Calls Try.prog 21 #[.slice A0 l0.length c0] w fun e w' => e = .returned (.agg #[.int .i64 r1, .int .i64 r2]) ∧ Below w.heap.size w w' := by
 have hu26 := Try.underlying26; have HR0 := Aside0.mk hr0
 have HC0 := Aside0.mk hc0
 clear hr0 hc0; have HB := Aside0.mk (Below.refl w.heap.size w)
 have H : (bourneref26_Sum.l0 k l0 0 0 0) = some (r1, r2) := h
 clear h; have H' := Aside0.mk H; clear H; go_enter Try.func21, Try.ntmps21
 go_wp2_with (first | ((with_reducible refine gate_dst (N := 2) rfl ?_); refine box_event ?hg (N := 2) ?hd (cs := #[.int .i64 0, .int .i64 0]) (t := 26) ?hr ?_; (case hd => rfl); (case hg => rfl); (case hr => first | (go_simp; done) | (go_simp; rfl)); intro gb224 hg w2 hbox hb; have n0_ := Aside0.mk (below_step ahx hb); have n1_ := Aside0.mk (hbox); have n2_ := Aside0.mk ((by rw [hg]; exact (below_size ahx) : w.heap.size ≤ gb224)); have n3_ := Aside0.mk ((by rw [hg]; exact (below_size ahx) : w.heap.size ≤ gb224)); clear HB; have HB := n0_; have BK224 := n1_; have GW224 := n2_; have GE224 := n3_; clear n0_ n1_ n2_ n3_; clear hb hbox hg) | ((with_reducible refine gate_dst (N := 3) rfl ?_); refine box_event ?hg (N := 3) ?hd (cs := #[.int .i64 0, .int .i64 0]) (t := 26) ?hr ?_; (case hd => rfl); (case hg => rfl); (case hr => first | (go_simp; done) | (go_simp; rfl)); intro gb225 hg w3 hbox hb; have n0_ := Aside0.mk (blk_below (g := gb224) (o := .cells #[.int .i64 0, .int .i64 0] 26 (0, 0)) abx hb); have n1_ := Aside0.mk (below_step ahx hb); have n2_ := Aside0.mk (hbox); have n3_ := Aside0.mk ((by rw [hg]; exact (below_size ahx) : w.heap.size ≤ gb225)); have n4_ := Aside0.mk ((by rw [hg]; exact (below_size ahx) : w.heap.size ≤ gb225)); have n5_ := Aside0.mk ((by rw [hg]; exact Nat.ne_of_lt (blk_lt (g := gb224) (o := .cells #[.int .i64 0, .int .i64 0] 26 (0, 0)) abx) : gb224 ≠ gb225)); have n6_ := Aside0.mk ((by rw [hg]; exact Nat.ne_of_gt (blk_lt (g := gb224) (o := .cells #[.int .i64 0, .int .i64 0] 26 (0, 0)) abx) : gb225 ≠ gb224)); clear BK224; clear HB; have BK224 := n0_; have HB := n1_; have BK225 := n2_; have GW225 := n3_; have GE225 := n4_; have NB224_225 := n5_; have NB225_224 := n6_; clear n0_ n1_ n2_ n3_ n4_ n5_ n6_; clear hb hbox hg))
 go_loopg [4] k (fun kq v4 w' => ∃ (x4_1 : Int) (x226000_1 : Int) (x226001_1 : Int), v4 = .int .i64 x4_1 ∧ Aside0 (bourneref26_Sum.l0 kq l0 x4_1 x226000_1 x226001_1 = some (r1, r2)) ∧ Aside0 (kq ≤ k) ∧ Aside0 (w'.heap[gb224]? = some (.cells #[.int .i64 0, .int .i64 0] 26 (0, 0))) ∧ Aside0 (w'.heap[gb225]? = some (.cells #[.int .i64 x226000_1, .int .i64 x226001_1] 26 (0, 0))) ∧ Aside0 (Below w.heap.size w w'))
 case atStart => exact ⟨(0), (0), (0), (by first | rfl | (simp; done) | (simp [*]; done)), H', ⟨Nat.le_refl _⟩, ⟨by (with_reducible repeat (first | refine blk_drewN ?_ _ | refine blk_drew ?_ | refine blk_alloc ?_ _)); exact BK224.out⟩, ⟨by (with_reducible repeat (first | refine blk_drewN ?_ _ | refine blk_drew ?_ | refine blk_alloc ?_ _)); exact BK225.out⟩, ⟨ahx⟩⟩
 case round =>
  clear H'; try clear c2
  try clear p2
  obtain ⟨x4_1, x226000_1, x226001_1, rfl, HA, HK1, BK224, BK225, HB⟩ := hrel
  cases gk with
  | zero => exact absurd HA.out (by simp [bourneref26_Sum.l0])
  | succ k1 =>
   have H := HA.out; clear HA; simp only [bourneref26_Sum.l0] at H
   by_cases c4 : x4_1 < (l0.length : Int)
   rotate_left
   ·rw [if_neg c4] at H
    have c4b0 : decide (x4_1 < (l0.length : Int)) = false := decide_eq_false c4
    clear c4
    as_aux_lemma =>
     simp only [Option.some.injEq, Prod.mk.injEq] at H
     obtain ⟨rfl, rfl⟩ := H; have hnb11 := NB225_224.out; have hnc11 := NB224_225.out; have hcz12_0 : wr.cell? ⟨gb225, 0, none⟩ = some (.int .i64 x226000_1) := (blk_cell BK225.out 0).trans rfl
     have hcz12_1 : wr.cell? ⟨gb225, 1, none⟩ = some (.int .i64 x226001_1) := (blk_cell BK225.out 1).trans rfl
     have hfz12_0 := blk_frozen BK225.out 0
     have hfz12_1 := blk_frozen BK225.out 1
     have hcz13_0 : wr.cell? ⟨gb224, 0, none⟩ = some (.int .i64 0) := (blk_cell BK224.out 0).trans rfl
     have hcz13_1 : wr.cell? ⟨gb224, 1, none⟩ = some (.int .i64 0) := (blk_cell BK224.out 1).trans rfl
     have hfz13_0 := blk_frozen BK224.out 0
     have hfz13_1 := blk_frozen BK224.out 1
     go_wp2
     refine bodyPost_ret (results_cell_row rfl _ _ gb224 26 #[.int .i64 x226000_1, .int .i64 x226001_1] (0, 0) _ rfl (by (with_reducible repeat (first | refine blk_drewN ?_ _ | refine blk_drew ?_ | refine blk_alloc ?_ _)); refine blk_put (cs := #[.int .i64 x226000_1, .int .i64 0]) ?_ 1 _ rfl; (with_reducible repeat (first | refine blk_drewN ?_ _ | refine blk_drew ?_ | refine blk_alloc ?_ _)); refine blk_put (cs := #[.int .i64 0, .int .i64 0]) ?_ 0 _ rfl; (with_reducible repeat (first | refine blk_drewN ?_ _ | refine blk_drew ?_ | refine blk_alloc ?_ _)); exact BK224.out) Try.underlying26 rfl (by kernel_rfl)) rfl ?_
     exact ⟨by first | rfl | (simp [errW_none, errW_some] <;> rfl) | (simp [*, errW_none, errW_some] <;> rfl), ahx⟩
   rw [if_pos c4] at H
   have c4b0 : decide (x4_1 < (l0.length : Int)) = true := decide_eq_true c4
   clear c4
   by_cases c5 : 0 ≤ x4_1
   rotate_left
   ·rw [if_neg c5] at H
    exact absurd H (by simp)
   rw [if_pos c5] at H
   have c5b0 : decide (0 ≤ x4_1) = true := decide_eq_true c5
   clear c5; replace H := Option.bind_eq_some_iff.mp H; obtain ⟨⟨t227, t228⟩, A60, H⟩ := H
   replace H : (bourneref26_Sum.l0 k1 l0 (wrap64 (x4_1 + 1)) t227 t228) = some (r1, r2) := H
   have A6 := Aside0.mk A60
   clear A60
   as_aux_lemma =>
    have H' := Aside0.mk H; clear H; try go_wp2
    have n0_ := Aside0.mk (blk_drew BK224.out); have n1_ := Aside0.mk (blk_drew BK225.out); have n2_ := Aside0.mk (below_drew1 HB.out); clear BK224; clear BK225; clear HB; have BK224 := n0_; have BK225 := n1_; have HB := n2_; clear n0_ n1_ n2_; have p226 : 0 ≤ (x4_1 : Int) := of_decide_eq_true (by first | (with_reducible assumption) | assumption)
    have q226 : x4_1 < (l0.length : Int) := of_decide_eq_true (by first | (with_reducible assumption) | assumption)
    obtain ⟨ad226, e226, hx226_0, hx226_1⟩ := at_T26 HR0.out x4_1 p226 q226
    have hw226_1 := hx226_1; have hw226_0 := hx226_0
    cases e226
    replace hx226_0 := (HB.out.cell (World.block_lt_of_cell? w _ hx226_0)).trans hx226_0
    replace hx226_1 := (HB.out.cell (World.block_lt_of_cell? w _ hx226_1)).trans hx226_1
    replace p226 := eq_true p226
    replace q226 := eq_true q226
    refine start_ (n := 7) (S := fun w' => w'.cell? ⟨gb225, 0, none⟩ = some (.int .i64 x226000_1) ∧ w'.cell? ⟨gb225, 1, none⟩ = some (.int .i64 x226001_1) ∧ w'.cell? (ad226.add ((x4_1).toNat * 2)) = some (.int .i64 ((rd_T26 l0 x4_1).f0)) ∧ w'.cell? ⟨(ad226.add ((x4_1).toNat * 2)).block, (ad226.add ((x4_1).toNat * 2)).off + 1, none⟩ = some (.int .i64 ((rd_T26 l0 x4_1).f1))) (ds := [6]) #[O,O,O,O,O,O,O] (by kernel_rfl) rfl rfl ⟨(blk_cell BK225.out 0).trans rfl, (blk_cell BK225.out 1).trans rfl, ((HB.out.cell (World.block_lt_of_cell? w _ hw226_0)).trans hw226_0), ((HB.out.cell (World.block_lt_of_cell? w _ hw226_1)).trans hw226_1)⟩ (fun hHeld => ?_)
    generalize wr.drew = w7 at BK224 BK225 HB hx226_0 hx226_1 hHeld ⊢
    as_aux_lemma =>
    refine pure_ (i := 1) (N := some 12) (v := ?_) (a' := ?_) #[O,Z,O,O,O,O,O] rfl rfl (by kernel_rfl) (fun _ _ _ h => h) (Or.inl ⟨by rfl, ?_⟩) ?_ ?_; rotate_left
    ·intro w'; go_simp; with_reducible rfl
    rotate_left
    ·simp only [Act.put, zA, zB, zC, i64_w, i32_w]; rfl
    as_aux_lemma =>
    refine pure_ (i := 2) (N := some 13) (v := ?_) (a' := ?_) #[O,Z,Z,O,O,O,O] rfl rfl (by kernel_rfl) (fun _ _ _ h => h) (Or.inl ⟨by rfl, ?_⟩) ?_ ?_; rotate_left
    ·intro w'; go_simp; with_reducible rfl
    rotate_left
    ·simp only [Act.put, zA, zB, zC, i64_w, i32_w]; rfl
    as_aux_lemma =>
    refine pure_ (i := 3) (N := some 14) (v := ?_) (a' := ?_) #[O,Z,Z,Z,O,O,O] rfl rfl (by kernel_rfl) (fun _ _ _ h => h) (Or.inl ⟨by rfl, ?_⟩) ?_ ?_; rotate_left
    ·intro w'; go_simp; with_reducible rfl
    rotate_left
    ·simp only [Act.put, zA, zB, zC, i64_w, i32_w]; rfl
    as_aux_lemma =>
    refine take_ (i := 0) (N := some 11) (v := ?_) (a' := ?_) #[Z,Z,Z,Z,O,O,O] rfl rfl (by kernel_rfl) (fun _ _ _ h => h) (Or.inl ⟨by rfl, ?_⟩) hHeld ?_ ?_; rotate_left
    ·rintro w' ⟨s0, s1, s2, s3⟩
     go_simp; with_reducible rfl
    rotate_left
    ·simp only [Act.put, zA, zB, zC, i64_w, i32_w]; rfl
    as_aux_lemma =>
    refine take_ (i := 4) (N := some 15) (v := ?_) (a' := ?_) #[Z,Z,Z,Z,Z,O,O] rfl rfl (by kernel_rfl) (fun _ _ _ h => h) (Or.inl ⟨by rfl, ?_⟩) hHeld ?_ ?_; rotate_left
    ·rintro w' ⟨s0, s1, s2, s3⟩
     go_simp; with_reducible rfl
    rotate_left
    ·simp only [Act.put, zA, zB, zC, i64_w, i32_w]; rfl
    as_aux_lemma =>
    refine one_ (i := 5) (N := some 16) #[Z,Z,Z,Z,Z,Z,O] rfl rfl (by kernel_rfl) (by decide) (fun K hK => ?_)
    refine goes_ Try.func37 (by kernel_rfl) rfl #[.agg #[.int .i64 x226000_1, .int .i64 x226001_1], .agg #[.int .i64 ((rd_T26 l0 x4_1).f0), .int .i64 ((rd_T26 l0 x4_1).f1)]] (by rfl) rfl rfl (by (try simp only [List.map_toArray, List.map_cons, List.map_nil]); first | done | rfl | (simp only [List.length_drop, List.length_take]; rfl)) ?_; with_reducible refine (bourneref09_Add.calls x226000_1 x226001_1 ((rd_T26 l0 x4_1).f0) ((rd_T26 l0 x4_1).f1) t227 t228 _ A6.out).mono ?_
    rintro e w8 ⟨rfl, hb⟩
    refine ⟨_, rfl, ?_⟩
    have n0_ := Aside0.mk (blk_below (g := gb224) (o := .cells #[.int .i64 0, .int .i64 0] 26 (0, 0)) abx hb); have n1_ := Aside0.mk (blk_below (g := gb225) (o := .cells #[.int .i64 x226000_1, .int .i64 x226001_1] 26 (0, 0)) abx hb); have n2_ := Aside0.mk (below_step ahx hb); clear BK224; clear BK225; clear HB; have BK224 := n0_; have BK225 := n1_; have HB := n2_; clear n0_ n1_ n2_; (try clear hb); (try clear hb2); (try clear hk); (try clear hi); refine hK.out _ _ ⟨(blk_cell BK225.out 0).trans rfl, (blk_cell BK225.out 1).trans rfl, ((HB.out.cell (World.block_lt_of_cell? w _ hw226_0)).trans hw226_0), ((HB.out.cell (World.block_lt_of_cell? w _ hw226_1)).trans hw226_1)⟩ (fun hHeld => ?_)
    clear hK K
    as_aux_lemma =>
    refine norm_ (a' := ?_) ?_ ?_; rotate_left
    ·show Act.put _ (some 16) _ = _; simp only [Act.put, zA, zB, zC, i64_w, i32_w]; rfl
    refine last_ (i := 6) (N := none) #[Z,Z,Z,Z,Z,Z,Z] rfl rfl (by kernel_rfl) (by decide) (fun K hK => ?_)
    have hs9 : w8.cell? ⟨gb225, 0, none⟩ = some (.int .i64 x226000_1) := (blk_cell BK225.out 0).trans rfl
    have hfs9 := blk_frozen BK225.out 0
    have hns9_0 := NB224_225.out; have hms9_0 := NB225_224.out; have hs10 : w8.cell? ⟨gb225, 1, none⟩ = some (.int .i64 x226001_1) := (blk_cell BK225.out 1).trans rfl
    have hfs10 := blk_frozen BK225.out 1
    have hns10_0 := NB224_225.out; have hms10_0 := NB225_224.out; refine skip_ (w1 := ?_) (by rfl) rfl ?_ ?_
    rotate_left
    ·go_simp; rfl
    refine hK.out _ _ ?_
    clear hK K; refine done_ (by kernel_rfl) ?_
    try go_wp2
    go_roundg k1
    case measure => have := HK1.out; omega
    case rel => exact ⟨(wrap64 (x4_1 + 1)), (t227), (t228), (by first | rfl | (simp; done) | (simp [*]; done)), H', ⟨by have := HK1.out; omega⟩, ⟨by (with_reducible repeat (first | refine blk_drewN ?_ _ | refine blk_drew ?_ | refine blk_alloc ?_ _)); refine blk_far ?_ NB224_225.out _; (with_reducible repeat (first | refine blk_drewN ?_ _ | refine blk_drew ?_ | refine blk_alloc ?_ _)); refine blk_far ?_ NB224_225.out _; (with_reducible repeat (first | refine blk_drewN ?_ _ | refine blk_drew ?_ | refine blk_alloc ?_ _)); exact BK224.out⟩, ⟨by (with_reducible repeat (first | refine blk_drewN ?_ _ | refine blk_drew ?_ | refine blk_alloc ?_ _)); refine blk_put (cs := #[.int .i64 t227, .int .i64 x226001_1]) ?_ 1 _ rfl; (with_reducible repeat (first | refine blk_drewN ?_ _ | refine blk_drew ?_ | refine blk_alloc ?_ _)); refine blk_put (cs := #[.int .i64 x226000_1, .int .i64 x226001_1]) ?_ 0 _ rfl; (with_reducible repeat (first | refine blk_drewN ?_ _ | refine blk_drew ?_ | refine blk_alloc ?_ _)); exact BK225.out⟩, ⟨ahx⟩⟩

/-! ### bournelaw26_few: function 13 -/
mutual
def bournelaw26_few.j0 : Nat → Bool → ByteArray → List ByteArray → Int → List (S47) → List (S104) → List (S106) → List (S67) → List (S108) → List (S110) → List Int → Int → Option (Bool)
 | 0, _, _, _, _, _, _, _, _, _, _, _, _ => none
 | k + 1, x21, x230000, x230001, x230002, x230003, x230004, x230005, x230006, x230007, x230008, x230009, x230010 => if x21 = true then (some false) else (bournelaw26_few.l0 k 0 x230000 x230001 x230002 x230003 x230004 x230005 x230006 x230007 x230008 x230009 x230010)
def bournelaw26_few.l0 : Nat → Int → ByteArray → List ByteArray → Int → List (S47) → List (S104) → List (S106) → List (S67) → List (S108) → List (S110) → List Int → Int → Option (Bool)
 | 0, _, _, _, _, _, _, _, _, _, _, _, _ => none
 | k + 1, x7, x230000, x230001, x230002, x230003, x230004, x230005, x230006, x230007, x230008, x230009, x230010 => if x7 < (x230003.length : Int) then (if 0 ≤ x7 then (if (((rd_T47 x230003 x7).f11).length : Int) > 70 then (some false) else (bournelaw26_few.l0 k (wrap64 (x7 + 1)) x230000 x230001 x230002 x230003 x230004 x230005 x230006 x230007 x230008 x230009 x230010)) else (none)) else (some true)
end
def bournelaw26_few.f (k : Nat) (a0_0 : ByteArray) (l0_1 : List ByteArray) (a0_2 : Int) (l0_3 : List (S47)) (l0_4 : List (S104)) (l0_5 : List (S106)) (l0_6 : List (S67)) (l0_7 : List (S108)) (l0_8 : List (S110)) (l0_9 : List Int) (a0_10 : Int) (l1 : List (S63)) (l2 : List (S26)) : Option (Bool) := if (l0_3.length : Int) > 70 then (bournelaw26_few.j0 k true a0_0 l0_1 a0_2 l0_3 l0_4 l0_5 l0_6 l0_7 l0_8 l0_9 a0_10) else (if (l1.length : Int) > 60 then (bournelaw26_few.j0 k true a0_0 l0_1 a0_2 l0_3 l0_4 l0_5 l0_6 l0_7 l0_8 l0_9 a0_10) else (bournelaw26_few.j0 k (decide ((l2.length : Int) > 100)) a0_0 l0_1 a0_2 l0_3 l0_4 l0_5 l0_6 l0_7 l0_8 l0_9 a0_10))
set_option maxHeartbeats 8000000 in
set_option maxRecDepth 100000 in
theorem bournelaw26_few.calls (k : Nat) (a0_0 : ByteArray) (A0_1 : Option Addr) (c0_1 : Nat) (l0_1 : List ByteArray) (a0_2 : Int) (A0_3 : Option Addr) (c0_3 : Nat) (l0_3 : List (S47)) (A0_4 : Option Addr) (c0_4 : Nat) (l0_4 : List (S104)) (A0_5 : Option Addr) (c0_5 : Nat) (l0_5 : List (S106)) (A0_6 : Option Addr) (c0_6 : Nat) (l0_6 : List (S67)) (A0_7 : Option Addr) (c0_7 : Nat) (l0_7 : List (S108)) (A0_8 : Option Addr) (c0_8 : Nat) (l0_8 : List (S110)) (A0_9 : Option Addr) (c0_9 : Nat) (l0_9 : List Int) (a0_10 : Int) (A1 : Option Addr) (c1 : Nat) (l1 : List (S63)) (A2 : Option Addr) (c2 : Nat) (l2 : List (S26)) (r : Bool) (w : World) (hr0_1 : Kd.C Kd.string w A0_1 l0_1.length l0_1) (hc0_1 : l0_1.length ≤ c0_1) (hr0_3 : Kd.C k47 w A0_3 l0_3.length l0_3) (hc0_3 : l0_3.length ≤ c0_3) (hr0_4 : Kd.C k104 w A0_4 l0_4.length l0_4) (hc0_4 : l0_4.length ≤ c0_4) (hr0_5 : Kd.C k106 w A0_5 l0_5.length l0_5) (hc0_5 : l0_5.length ≤ c0_5) (hr0_6 : Kd.C k67 w A0_6 l0_6.length l0_6) (hc0_6 : l0_6.length ≤ c0_6) (hr0_7 : Kd.C k108 w A0_7 l0_7.length l0_7) (hc0_7 : l0_7.length ≤ c0_7) (hr0_8 : Kd.C k110 w A0_8 l0_8.length l0_8) (hc0_8 : l0_8.length ≤ c0_8) (hr0_9 : Kd.C (Kd.int .i64) w A0_9 l0_9.length l0_9) (hc0_9 : l0_9.length ≤ c0_9) (hr1 : Kd.C k63 w A1 l1.length l1) (hc1 : l1.length ≤ c1) (hr2 : Kd.C k26 w A2 l2.length l2) (hc2 : l2.length ≤ c2) (h : bournelaw26_few.f k a0_0 l0_1 a0_2 l0_3 l0_4 l0_5 l0_6 l0_7 l0_8 l0_9 a0_10 l1 l2 = some r) :
  Calls Try.prog 13 #[.agg #[.string a0_0, .slice A0_1 l0_1.length c0_1, .int .i64 a0_2, .slice A0_3 l0_3.length c0_3, .slice A0_4 l0_4.length c0_4, .slice A0_5 l0_5.length c0_5, .slice A0_6 l0_6.length c0_6, .slice A0_7 l0_7.length c0_7, .slice A0_8 l0_8.length c0_8, .slice A0_9 l0_9.length c0_9, .int .i64 a0_10], .slice A1 l1.length c1, .slice A2 l2.length c2] w fun e w' => e = .returned (.bool r) ∧ Below w.heap.size w w' := by
 have hu41 := Try.underlying41; have HR0_1 := Aside0.mk hr0_1
 have HC0_1 := Aside0.mk hc0_1
 clear hr0_1 hc0_1; have HR0_3 := Aside0.mk hr0_3
 have HC0_3 := Aside0.mk hc0_3
 clear hr0_3 hc0_3; have HR0_4 := Aside0.mk hr0_4
 have HC0_4 := Aside0.mk hc0_4
 clear hr0_4 hc0_4; have HR0_5 := Aside0.mk hr0_5
 have HC0_5 := Aside0.mk hc0_5
 clear hr0_5 hc0_5; have HR0_6 := Aside0.mk hr0_6
 have HC0_6 := Aside0.mk hc0_6
 clear hr0_6 hc0_6; have HR0_7 := Aside0.mk hr0_7
 have HC0_7 := Aside0.mk hc0_7
 clear hr0_7 hc0_7; have HR0_8 := Aside0.mk hr0_8
 have HC0_8 := Aside0.mk hc0_8
 clear hr0_8 hc0_8; have HR0_9 := Aside0.mk hr0_9
 have HC0_9 := Aside0.mk hc0_9
 clear hr0_9 hc0_9; have HR1 := Aside0.mk hr1
 have HC1 := Aside0.mk hc1
 clear hr1 hc1; have HR2 := Aside0.mk hr2
 have HC2 := Aside0.mk hc2
 clear hr2 hc2; have HB := Aside0.mk (Below.refl w.heap.size w)
 have H : (if (l0_3.length : Int) > 70 then (bournelaw26_few.j0 k true a0_0 l0_1 a0_2 l0_3 l0_4 l0_5 l0_6 l0_7 l0_8 l0_9 a0_10) else (if (l1.length : Int) > 60 then (bournelaw26_few.j0 k true a0_0 l0_1 a0_2 l0_3 l0_4 l0_5 l0_6 l0_7 l0_8 l0_9 a0_10) else (bournelaw26_few.j0 k (decide ((l2.length : Int) > 100)) a0_0 l0_1 a0_2 l0_3 l0_4 l0_5 l0_6 l0_7 l0_8 l0_9 a0_10))) = some r := h
 clear h; have HC4 := Aside0.mk H
 clear H; go_enter Try.func13, Try.ntmps13
 go_upto_region 1 with (first | ((with_reducible refine gate_dst (N := 3) rfl ?_); (try (refine gate_guard (by rfl) ?_; dsimp only)); refine box_event ?hg (N := 3) ?hd (cs := #[.string a0_0, .slice A0_1 l0_1.length c0_1, .int .i64 a0_2, .slice A0_3 l0_3.length c0_3, .slice A0_4 l0_4.length c0_4, .slice A0_5 l0_5.length c0_5, .slice A0_6 l0_6.length c0_6, .slice A0_7 l0_7.length c0_7, .slice A0_8 l0_8.length c0_8, .slice A0_9 l0_9.length c0_9, .int .i64 a0_10]) (t := 41) ?hr ?_; (case hd => rfl); (case hg => rfl); (case hr => first | (go_simp; done) | (go_simp; rfl)); intro gb229 hg w5 hbox hb; have n0_ := Aside0.mk (below_step ahx hb); have n1_ := Aside0.mk (hbox); have n2_ := Aside0.mk ((by rw [hg]; exact (below_size ahx) : w.heap.size ≤ gb229)); have n3_ := Aside0.mk ((by rw [hg]; exact (below_size ahx) : w.heap.size ≤ gb229)); clear HB; have HB := n0_; have BK229 := n1_; have GW229 := n2_; have GE229 := n3_; clear n0_ n1_ n2_ n3_; clear hb hbox hg))
 (try simp only [Act.put, zA, zB, zC]); go_cut [21] (fun v21 wc => ∃ (kq : Nat) (x21_3 : Bool), v21 = .bool x21_3 ∧ Aside0 (bournelaw26_few.j0 kq x21_3 a0_0 l0_1 a0_2 l0_3 l0_4 l0_5 l0_6 l0_7 l0_8 l0_9 a0_10 = some r) ∧ Aside0 (kq ≤ k) ∧ Aside0 (wc.heap[gb229]? = some (.cells #[.string a0_0, (.slice A0_1 l0_1.length c0_1), .int .i64 a0_2, (.slice A0_3 l0_3.length c0_3), (.slice A0_4 l0_4.length c0_4), (.slice A0_5 l0_5.length c0_5), (.slice A0_6 l0_6.length c0_6), (.slice A0_7 l0_7.length c0_7), (.slice A0_8 l0_8.length c0_8), (.slice A0_9 l0_9.length c0_9), .int .i64 a0_10] 41 (0, 0))) ∧ Aside0 (Below w.heap.size w wc))
 case first =>
  have H := HC4.out; clear HC4
  by_cases c6 : (l0_3.length : Int) > 70
  ·rw [if_pos c6] at H
   have c6b0 : decide (70 < (l0_3.length : Int)) = true := decide_eq_true c6
   have c6b1 : decide (70 < l0_3.length) = true := decide_eq_true (by omega)
   clear c6; (first | rw [c6b0] | (simp only [i64_w, i32_w]; rw [c6b0]) | skip)
   as_aux_lemma =>
    have H' := Aside0.mk H; clear H; have hcz7_0 : w5.cell? ⟨gb229, 0, none⟩ = some (.string a0_0) := (blk_cell BK229.out 0).trans rfl
    have hcz7_1 : w5.cell? ⟨gb229, 1, none⟩ = some (.slice A0_1 l0_1.length c0_1) := (blk_cell BK229.out 1).trans rfl
    have hcz7_2 : w5.cell? ⟨gb229, 2, none⟩ = some (.int .i64 a0_2) := (blk_cell BK229.out 2).trans rfl
    have hcz7_3 : w5.cell? ⟨gb229, 3, none⟩ = some (.slice A0_3 l0_3.length c0_3) := (blk_cell BK229.out 3).trans rfl
    have hcz7_4 : w5.cell? ⟨gb229, 4, none⟩ = some (.slice A0_4 l0_4.length c0_4) := (blk_cell BK229.out 4).trans rfl
    have hcz7_5 : w5.cell? ⟨gb229, 5, none⟩ = some (.slice A0_5 l0_5.length c0_5) := (blk_cell BK229.out 5).trans rfl
    have hcz7_6 : w5.cell? ⟨gb229, 6, none⟩ = some (.slice A0_6 l0_6.length c0_6) := (blk_cell BK229.out 6).trans rfl
    have hcz7_7 : w5.cell? ⟨gb229, 7, none⟩ = some (.slice A0_7 l0_7.length c0_7) := (blk_cell BK229.out 7).trans rfl
    have hcz7_8 : w5.cell? ⟨gb229, 8, none⟩ = some (.slice A0_8 l0_8.length c0_8) := (blk_cell BK229.out 8).trans rfl
    have hcz7_9 : w5.cell? ⟨gb229, 9, none⟩ = some (.slice A0_9 l0_9.length c0_9) := (blk_cell BK229.out 9).trans rfl
    have hcz7_10 : w5.cell? ⟨gb229, 10, none⟩ = some (.int .i64 a0_10) := (blk_cell BK229.out 10).trans rfl
    have hfz7_0 := blk_frozen BK229.out 0
    have hfz7_1 := blk_frozen BK229.out 1
    have hfz7_2 := blk_frozen BK229.out 2
    have hfz7_3 := blk_frozen BK229.out 3
    have hfz7_4 := blk_frozen BK229.out 4
    have hfz7_5 := blk_frozen BK229.out 5
    have hfz7_6 := blk_frozen BK229.out 6
    have hfz7_7 := blk_frozen BK229.out 7
    have hfz7_8 := blk_frozen BK229.out 8
    have hfz7_9 := blk_frozen BK229.out 9
    have hfz7_10 := blk_frozen BK229.out 10
    go_wp2
    go_meet
    case rel => exact ⟨_, (true), (by first | rfl | (simp; done) | (simp [*]; done)), H', ⟨by first | omega | exact Nat.le_refl _⟩, ⟨by (with_reducible repeat (first | refine blk_drewN ?_ _ | refine blk_drew ?_ | refine blk_alloc ?_ _)); exact BK229.out⟩, ⟨ahx⟩⟩
  ·rw [if_neg c6] at H
   have c6b0 : decide (70 < (l0_3.length : Int)) = false := decide_eq_false c6
   have c6b1 : decide (70 < l0_3.length) = false := decide_eq_false (by omega)
   clear c6; (first | rw [c6b0] | (simp only [i64_w, i32_w]; rw [c6b0]) | skip)
   by_cases c8 : (l1.length : Int) > 60
   ·rw [if_pos c8] at H
    have c8b0 : decide (60 < (l1.length : Int)) = true := decide_eq_true c8
    have c8b1 : decide (60 < l1.length) = true := decide_eq_true (by omega)
    clear c8
    as_aux_lemma =>
     have H' := Aside0.mk H; clear H; have hcz9_0 : w5.cell? ⟨gb229, 0, none⟩ = some (.string a0_0) := (blk_cell BK229.out 0).trans rfl
     have hcz9_1 : w5.cell? ⟨gb229, 1, none⟩ = some (.slice A0_1 l0_1.length c0_1) := (blk_cell BK229.out 1).trans rfl
     have hcz9_2 : w5.cell? ⟨gb229, 2, none⟩ = some (.int .i64 a0_2) := (blk_cell BK229.out 2).trans rfl
     have hcz9_3 : w5.cell? ⟨gb229, 3, none⟩ = some (.slice A0_3 l0_3.length c0_3) := (blk_cell BK229.out 3).trans rfl
     have hcz9_4 : w5.cell? ⟨gb229, 4, none⟩ = some (.slice A0_4 l0_4.length c0_4) := (blk_cell BK229.out 4).trans rfl
     have hcz9_5 : w5.cell? ⟨gb229, 5, none⟩ = some (.slice A0_5 l0_5.length c0_5) := (blk_cell BK229.out 5).trans rfl
     have hcz9_6 : w5.cell? ⟨gb229, 6, none⟩ = some (.slice A0_6 l0_6.length c0_6) := (blk_cell BK229.out 6).trans rfl
     have hcz9_7 : w5.cell? ⟨gb229, 7, none⟩ = some (.slice A0_7 l0_7.length c0_7) := (blk_cell BK229.out 7).trans rfl
     have hcz9_8 : w5.cell? ⟨gb229, 8, none⟩ = some (.slice A0_8 l0_8.length c0_8) := (blk_cell BK229.out 8).trans rfl
     have hcz9_9 : w5.cell? ⟨gb229, 9, none⟩ = some (.slice A0_9 l0_9.length c0_9) := (blk_cell BK229.out 9).trans rfl
     have hcz9_10 : w5.cell? ⟨gb229, 10, none⟩ = some (.int .i64 a0_10) := (blk_cell BK229.out 10).trans rfl
     have hfz9_0 := blk_frozen BK229.out 0
     have hfz9_1 := blk_frozen BK229.out 1
     have hfz9_2 := blk_frozen BK229.out 2
     have hfz9_3 := blk_frozen BK229.out 3
     have hfz9_4 := blk_frozen BK229.out 4
     have hfz9_5 := blk_frozen BK229.out 5
     have hfz9_6 := blk_frozen BK229.out 6
     have hfz9_7 := blk_frozen BK229.out 7
     have hfz9_8 := blk_frozen BK229.out 8
     have hfz9_9 := blk_frozen BK229.out 9
     have hfz9_10 := blk_frozen BK229.out 10
     go_wp2
     go_meet
     case rel => exact ⟨_, (true), (by first | rfl | (simp; done) | (simp [*]; done)), H', ⟨by first | omega | exact Nat.le_refl _⟩, ⟨by (with_reducible repeat (first | refine blk_drewN ?_ _ | refine blk_drew ?_ | refine blk_alloc ?_ _)); exact BK229.out⟩, ⟨ahx⟩⟩
   rw [if_neg c8] at H
   have c8b0 : decide (60 < (l1.length : Int)) = false := decide_eq_false c8
   have c8b1 : decide (60 < l1.length) = false := decide_eq_false (by omega)
   clear c8
   as_aux_lemma =>
    have H' := Aside0.mk H; clear H; have hcz10_0 : w5.cell? ⟨gb229, 0, none⟩ = some (.string a0_0) := (blk_cell BK229.out 0).trans rfl
    have hcz10_1 : w5.cell? ⟨gb229, 1, none⟩ = some (.slice A0_1 l0_1.length c0_1) := (blk_cell BK229.out 1).trans rfl
    have hcz10_2 : w5.cell? ⟨gb229, 2, none⟩ = some (.int .i64 a0_2) := (blk_cell BK229.out 2).trans rfl
    have hcz10_3 : w5.cell? ⟨gb229, 3, none⟩ = some (.slice A0_3 l0_3.length c0_3) := (blk_cell BK229.out 3).trans rfl
    have hcz10_4 : w5.cell? ⟨gb229, 4, none⟩ = some (.slice A0_4 l0_4.length c0_4) := (blk_cell BK229.out 4).trans rfl
    have hcz10_5 : w5.cell? ⟨gb229, 5, none⟩ = some (.slice A0_5 l0_5.length c0_5) := (blk_cell BK229.out 5).trans rfl
    have hcz10_6 : w5.cell? ⟨gb229, 6, none⟩ = some (.slice A0_6 l0_6.length c0_6) := (blk_cell BK229.out 6).trans rfl
    have hcz10_7 : w5.cell? ⟨gb229, 7, none⟩ = some (.slice A0_7 l0_7.length c0_7) := (blk_cell BK229.out 7).trans rfl
    have hcz10_8 : w5.cell? ⟨gb229, 8, none⟩ = some (.slice A0_8 l0_8.length c0_8) := (blk_cell BK229.out 8).trans rfl
    have hcz10_9 : w5.cell? ⟨gb229, 9, none⟩ = some (.slice A0_9 l0_9.length c0_9) := (blk_cell BK229.out 9).trans rfl
    have hcz10_10 : w5.cell? ⟨gb229, 10, none⟩ = some (.int .i64 a0_10) := (blk_cell BK229.out 10).trans rfl
    have hfz10_0 := blk_frozen BK229.out 0
    have hfz10_1 := blk_frozen BK229.out 1
    have hfz10_2 := blk_frozen BK229.out 2
    have hfz10_3 := blk_frozen BK229.out 3
    have hfz10_4 := blk_frozen BK229.out 4
    have hfz10_5 := blk_frozen BK229.out 5
    have hfz10_6 := blk_frozen BK229.out 6
    have hfz10_7 := blk_frozen BK229.out 7
    have hfz10_8 := blk_frozen BK229.out 8
    have hfz10_9 := blk_frozen BK229.out 9
    have hfz10_10 := blk_frozen BK229.out 10
    go_wp2
    go_meet
    case rel => exact ⟨_, (decide ((l2.length : Int) > 100)), (by first | rfl | (simp; done) | (simp [*]; done)), H', ⟨by first | omega | exact Nat.le_refl _⟩, ⟨by (with_reducible repeat (first | refine blk_drewN ?_ _ | refine blk_drew ?_ | refine blk_alloc ?_ _)); exact BK229.out⟩, ⟨ahx⟩⟩
 case rest =>
  clear HC4; try clear c1
  try clear c2
  try clear p2
  try clear c6
  try clear c6b0
  try clear c6b1
  try clear c8
  try clear c8b0
  try clear c8b1
  try clear hcz10_0
  try clear hcz10_1
  try clear hcz10_10
  try clear hcz10_2
  try clear hcz10_3
  try clear hcz10_4
  try clear hcz10_5
  try clear hcz10_6
  try clear hcz10_7
  try clear hcz10_8
  try clear hcz10_9
  try clear hcz7_0
  try clear hcz7_1
  try clear hcz7_10
  try clear hcz7_2
  try clear hcz7_3
  try clear hcz7_4
  try clear hcz7_5
  try clear hcz7_6
  try clear hcz7_7
  try clear hcz7_8
  try clear hcz7_9
  try clear hcz9_0
  try clear hcz9_1
  try clear hcz9_10
  try clear hcz9_2
  try clear hcz9_3
  try clear hcz9_4
  try clear hcz9_5
  try clear hcz9_6
  try clear hcz9_7
  try clear hcz9_8
  try clear hcz9_9
  try clear hfz10_0
  try clear hfz10_1
  try clear hfz10_10
  try clear hfz10_2
  try clear hfz10_3
  try clear hfz10_4
  try clear hfz10_5
  try clear hfz10_6
  try clear hfz10_7
  try clear hfz10_8
  try clear hfz10_9
  try clear hfz7_0
  try clear hfz7_1
  try clear hfz7_10
  try clear hfz7_2
  try clear hfz7_3
  try clear hfz7_4
  try clear hfz7_5
  try clear hfz7_6
  try clear hfz7_7
  try clear hfz7_8
  try clear hfz7_9
  try clear hfz9_0
  try clear hfz9_1
  try clear hfz9_10
  try clear hfz9_2
  try clear hfz9_3
  try clear hfz9_4
  try clear hfz9_5
  try clear hfz9_6
  try clear hfz9_7
  try clear hfz9_8
  try clear hfz9_9
  obtain ⟨kq, x21_3, rfl, HA, HJ3, BK229, HB⟩ := hcut
  cases kq with
  | zero => exact absurd HA.out (by simp [bournelaw26_few.j0])
  | succ kj3 =>
   have H := HA.out; clear HA; simp only [bournelaw26_few.j0] at H
   by_cases c11 : x21_3 = true
   ·subst c11; have H1 : (some false) = some r := by rw [if_pos rfl] at H; exact H
    clear H; have H := H1; clear H1
    as_aux_lemma =>
     obtain rfl := Option.some.inj H
     go_wp2
     go_ret
     exact ⟨by first | rfl | (simp [errW_none, errW_some] <;> rfl) | (simp [*, errW_none, errW_some] <;> rfl), ahx⟩
   replace c11 := Bool.eq_false_iff.mpr c11
   subst c11; have H1 : (bournelaw26_few.l0 kj3 0 a0_0 l0_1 a0_2 l0_3 l0_4 l0_5 l0_6 l0_7 l0_8 l0_9 a0_10) = some r := by rw [if_neg (show ¬ (false = true) by decide)] at H; exact H
   clear H; have H := H1; clear H1; have H' := Aside0.mk H; clear H; go_wp2
   go_loopg [7] kj3 (fun kq v7 w' => ∃ (x7_2 : Int), v7 = .int .i64 x7_2 ∧ Aside0 (bournelaw26_few.l0 kq x7_2 a0_0 l0_1 a0_2 l0_3 l0_4 l0_5 l0_6 l0_7 l0_8 l0_9 a0_10 = some r) ∧ Aside0 (kq ≤ kj3) ∧ Aside0 (w'.heap[gb229]? = some (.cells #[.string a0_0, (.slice A0_1 l0_1.length c0_1), .int .i64 a0_2, (.slice A0_3 l0_3.length c0_3), (.slice A0_4 l0_4.length c0_4), (.slice A0_5 l0_5.length c0_5), (.slice A0_6 l0_6.length c0_6), (.slice A0_7 l0_7.length c0_7), (.slice A0_8 l0_8.length c0_8), (.slice A0_9 l0_9.length c0_9), .int .i64 a0_10] 41 (0, 0))) ∧ Aside0 (Below w.heap.size w w'))
   case atStart => exact ⟨(0), (by first | rfl | (simp; done) | (simp [*]; done)), H', ⟨Nat.le_refl _⟩, ⟨by (with_reducible repeat (first | refine blk_drewN ?_ _ | refine blk_drew ?_ | refine blk_alloc ?_ _)); exact BK229.out⟩, ⟨ahx⟩⟩
   case round =>
    clear H'; try clear c1
    try clear c2
    try clear p2
    try clear c6
    try clear c6b0
    try clear c6b1
    try clear c8
    try clear c8b0
    try clear c8b1
    try clear c11
    try clear hcz10_0
    try clear hcz10_1
    try clear hcz10_10
    try clear hcz10_2
    try clear hcz10_3
    try clear hcz10_4
    try clear hcz10_5
    try clear hcz10_6
    try clear hcz10_7
    try clear hcz10_8
    try clear hcz10_9
    try clear hcz7_0
    try clear hcz7_1
    try clear hcz7_10
    try clear hcz7_2
    try clear hcz7_3
    try clear hcz7_4
    try clear hcz7_5
    try clear hcz7_6
    try clear hcz7_7
    try clear hcz7_8
    try clear hcz7_9
    try clear hcz9_0
    try clear hcz9_1
    try clear hcz9_10
    try clear hcz9_2
    try clear hcz9_3
    try clear hcz9_4
    try clear hcz9_5
    try clear hcz9_6
    try clear hcz9_7
    try clear hcz9_8
    try clear hcz9_9
    try clear hfz10_0
    try clear hfz10_1
    try clear hfz10_10
    try clear hfz10_2
    try clear hfz10_3
    try clear hfz10_4
    try clear hfz10_5
    try clear hfz10_6
    try clear hfz10_7
    try clear hfz10_8
    try clear hfz10_9
    try clear hfz7_0
    try clear hfz7_1
    try clear hfz7_10
    try clear hfz7_2
    try clear hfz7_3
    try clear hfz7_4
    try clear hfz7_5
    try clear hfz7_6
    try clear hfz7_7
    try clear hfz7_8
    try clear hfz7_9
    try clear hfz9_0
    try clear hfz9_1
    try clear hfz9_10
    try clear hfz9_2
    try clear hfz9_3
    try clear hfz9_4
    try clear hfz9_5
    try clear hfz9_6
    try clear hfz9_7
    try clear hfz9_8
    try clear hfz9_9
    try clear p2
    obtain ⟨x7_2, rfl, HA, HK2, BK229, HB⟩ := hrel
    cases gk with
    | zero => exact absurd HA.out (by simp [bournelaw26_few.l0])
    | succ k2 =>
     have H := HA.out; clear HA; simp only [bournelaw26_few.l0] at H
     by_cases c12 : x7_2 < (l0_3.length : Int)
     rotate_left
     ·rw [if_neg c12] at H
      have c12b0 : decide (x7_2 < (l0_3.length : Int)) = false := decide_eq_false c12
      clear c12
      as_aux_lemma =>
       obtain rfl := Option.some.inj H
       have hcz17_0 : wr.cell? ⟨gb229, 0, none⟩ = some (.string a0_0) := (blk_cell BK229.out 0).trans rfl
       have hcz17_1 : wr.cell? ⟨gb229, 1, none⟩ = some (.slice A0_1 l0_1.length c0_1) := (blk_cell BK229.out 1).trans rfl
       have hcz17_2 : wr.cell? ⟨gb229, 2, none⟩ = some (.int .i64 a0_2) := (blk_cell BK229.out 2).trans rfl
       have hcz17_3 : wr.cell? ⟨gb229, 3, none⟩ = some (.slice A0_3 l0_3.length c0_3) := (blk_cell BK229.out 3).trans rfl
       have hcz17_4 : wr.cell? ⟨gb229, 4, none⟩ = some (.slice A0_4 l0_4.length c0_4) := (blk_cell BK229.out 4).trans rfl
       have hcz17_5 : wr.cell? ⟨gb229, 5, none⟩ = some (.slice A0_5 l0_5.length c0_5) := (blk_cell BK229.out 5).trans rfl
       have hcz17_6 : wr.cell? ⟨gb229, 6, none⟩ = some (.slice A0_6 l0_6.length c0_6) := (blk_cell BK229.out 6).trans rfl
       have hcz17_7 : wr.cell? ⟨gb229, 7, none⟩ = some (.slice A0_7 l0_7.length c0_7) := (blk_cell BK229.out 7).trans rfl
       have hcz17_8 : wr.cell? ⟨gb229, 8, none⟩ = some (.slice A0_8 l0_8.length c0_8) := (blk_cell BK229.out 8).trans rfl
       have hcz17_9 : wr.cell? ⟨gb229, 9, none⟩ = some (.slice A0_9 l0_9.length c0_9) := (blk_cell BK229.out 9).trans rfl
       have hcz17_10 : wr.cell? ⟨gb229, 10, none⟩ = some (.int .i64 a0_10) := (blk_cell BK229.out 10).trans rfl
       have hfz17_0 := blk_frozen BK229.out 0
       have hfz17_1 := blk_frozen BK229.out 1
       have hfz17_2 := blk_frozen BK229.out 2
       have hfz17_3 := blk_frozen BK229.out 3
       have hfz17_4 := blk_frozen BK229.out 4
       have hfz17_5 := blk_frozen BK229.out 5
       have hfz17_6 := blk_frozen BK229.out 6
       have hfz17_7 := blk_frozen BK229.out 7
       have hfz17_8 := blk_frozen BK229.out 8
       have hfz17_9 := blk_frozen BK229.out 9
       have hfz17_10 := blk_frozen BK229.out 10
       go_wp2
       go_ret
       exact ⟨by first | rfl | (simp [errW_none, errW_some] <;> rfl) | (simp [*, errW_none, errW_some] <;> rfl), ahx⟩
     rw [if_pos c12] at H
     have c12b0 : decide (x7_2 < (l0_3.length : Int)) = true := decide_eq_true c12
     clear c12
     by_cases c13 : 0 ≤ x7_2
     rotate_left
     ·rw [if_neg c13] at H
      exact absurd H (by simp)
     rw [if_pos c13] at H
     have c13b0 : decide (0 ≤ x7_2) = true := decide_eq_true c13
     clear c13
     by_cases c14 : (((rd_T47 l0_3 x7_2).f11).length : Int) > 70
     ·rw [if_pos c14] at H
      have c14b0 : decide (70 < (((rd_T47 l0_3 x7_2).f11).length : Int)) = true := decide_eq_true c14
      have c14b1 : decide (70 < ((rd_T47 l0_3 x7_2).f11).length) = true := decide_eq_true (by omega)
      clear c14
      as_aux_lemma =>
       obtain rfl := Option.some.inj H
       have hcz15_0 : wr.cell? ⟨gb229, 0, none⟩ = some (.string a0_0) := (blk_cell BK229.out 0).trans rfl
       have hcz15_1 : wr.cell? ⟨gb229, 1, none⟩ = some (.slice A0_1 l0_1.length c0_1) := (blk_cell BK229.out 1).trans rfl
       have hcz15_2 : wr.cell? ⟨gb229, 2, none⟩ = some (.int .i64 a0_2) := (blk_cell BK229.out 2).trans rfl
       have hcz15_3 : wr.cell? ⟨gb229, 3, none⟩ = some (.slice A0_3 l0_3.length c0_3) := (blk_cell BK229.out 3).trans rfl
       have hcz15_4 : wr.cell? ⟨gb229, 4, none⟩ = some (.slice A0_4 l0_4.length c0_4) := (blk_cell BK229.out 4).trans rfl
       have hcz15_5 : wr.cell? ⟨gb229, 5, none⟩ = some (.slice A0_5 l0_5.length c0_5) := (blk_cell BK229.out 5).trans rfl
       have hcz15_6 : wr.cell? ⟨gb229, 6, none⟩ = some (.slice A0_6 l0_6.length c0_6) := (blk_cell BK229.out 6).trans rfl
       have hcz15_7 : wr.cell? ⟨gb229, 7, none⟩ = some (.slice A0_7 l0_7.length c0_7) := (blk_cell BK229.out 7).trans rfl
       have hcz15_8 : wr.cell? ⟨gb229, 8, none⟩ = some (.slice A0_8 l0_8.length c0_8) := (blk_cell BK229.out 8).trans rfl
       have hcz15_9 : wr.cell? ⟨gb229, 9, none⟩ = some (.slice A0_9 l0_9.length c0_9) := (blk_cell BK229.out 9).trans rfl
       have hcz15_10 : wr.cell? ⟨gb229, 10, none⟩ = some (.int .i64 a0_10) := (blk_cell BK229.out 10).trans rfl
       have hfz15_0 := blk_frozen BK229.out 0
       have hfz15_1 := blk_frozen BK229.out 1
       have hfz15_2 := blk_frozen BK229.out 2
       have hfz15_3 := blk_frozen BK229.out 3
       have hfz15_4 := blk_frozen BK229.out 4
       have hfz15_5 := blk_frozen BK229.out 5
       have hfz15_6 := blk_frozen BK229.out 6
       have hfz15_7 := blk_frozen BK229.out 7
       have hfz15_8 := blk_frozen BK229.out 8
       have hfz15_9 := blk_frozen BK229.out 9
       have hfz15_10 := blk_frozen BK229.out 10
       have p230 : 0 ≤ (x7_2 : Int) := of_decide_eq_true (by first | (with_reducible assumption) | assumption)
       have q230 : x7_2 < (l0_3.length : Int) := of_decide_eq_true (by first | (with_reducible assumption) | assumption)
       obtain ⟨ad230, A230_4, c230_4, A230_5, c230_5, A230_11, c230_11, e230, hx230_0, hx230_1, hx230_2, hx230_3, hx230_4, hx230_5, hx230_6, hx230_7, hx230_8, hx230_9, hx230_10, hx230_11, hl230_4, hi230_4, hl230_5, hi230_5, hl230_11, hi230_11⟩ := at_T47 HR0_3.out x7_2 p230 q230
       cases e230
       replace hx230_0 := (HB.out.cell (World.block_lt_of_cell? w _ hx230_0)).trans hx230_0
       replace hx230_1 := (HB.out.cell (World.block_lt_of_cell? w _ hx230_1)).trans hx230_1
       replace hx230_2 := (HB.out.cell (World.block_lt_of_cell? w _ hx230_2)).trans hx230_2
       replace hx230_3 := (HB.out.cell (World.block_lt_of_cell? w _ hx230_3)).trans hx230_3
       replace hx230_4 := (HB.out.cell (World.block_lt_of_cell? w _ hx230_4)).trans hx230_4
       replace hx230_5 := (HB.out.cell (World.block_lt_of_cell? w _ hx230_5)).trans hx230_5
       replace hx230_6 := (HB.out.cell (World.block_lt_of_cell? w _ hx230_6)).trans hx230_6
       replace hx230_7 := (HB.out.cell (World.block_lt_of_cell? w _ hx230_7)).trans hx230_7
       replace hx230_8 := (HB.out.cell (World.block_lt_of_cell? w _ hx230_8)).trans hx230_8
       replace hx230_9 := (HB.out.cell (World.block_lt_of_cell? w _ hx230_9)).trans hx230_9
       replace hx230_10 := (HB.out.cell (World.block_lt_of_cell? w _ hx230_10)).trans hx230_10
       replace hx230_11 := (HB.out.cell (World.block_lt_of_cell? w _ hx230_11)).trans hx230_11
       have HR230_4 := Aside0.mk hi230_4
       have HC230_4 := Aside0.mk hl230_4
       clear hi230_4 hl230_4; have HR230_5 := Aside0.mk hi230_5
       have HC230_5 := Aside0.mk hl230_5
       clear hi230_5 hl230_5; have HR230_11 := Aside0.mk hi230_11
       have HC230_11 := Aside0.mk hl230_11
       clear hi230_11 hl230_11; replace p230 := eq_true p230
       replace q230 := eq_true q230
       go_wp2
       go_ret
       exact ⟨by first | rfl | (simp [errW_none, errW_some] <;> rfl) | (simp [*, errW_none, errW_some] <;> rfl), ahx⟩
     rw [if_neg c14] at H
     have c14b0 : decide (70 < (((rd_T47 l0_3 x7_2).f11).length : Int)) = false := decide_eq_false c14
     have c14b1 : decide (70 < ((rd_T47 l0_3 x7_2).f11).length) = false := decide_eq_false (by omega)
     clear c14
     as_aux_lemma =>
      have H' := Aside0.mk H; clear H; have hcz16_0 : wr.cell? ⟨gb229, 0, none⟩ = some (.string a0_0) := (blk_cell BK229.out 0).trans rfl
      have hcz16_1 : wr.cell? ⟨gb229, 1, none⟩ = some (.slice A0_1 l0_1.length c0_1) := (blk_cell BK229.out 1).trans rfl
      have hcz16_2 : wr.cell? ⟨gb229, 2, none⟩ = some (.int .i64 a0_2) := (blk_cell BK229.out 2).trans rfl
      have hcz16_3 : wr.cell? ⟨gb229, 3, none⟩ = some (.slice A0_3 l0_3.length c0_3) := (blk_cell BK229.out 3).trans rfl
      have hcz16_4 : wr.cell? ⟨gb229, 4, none⟩ = some (.slice A0_4 l0_4.length c0_4) := (blk_cell BK229.out 4).trans rfl
      have hcz16_5 : wr.cell? ⟨gb229, 5, none⟩ = some (.slice A0_5 l0_5.length c0_5) := (blk_cell BK229.out 5).trans rfl
      have hcz16_6 : wr.cell? ⟨gb229, 6, none⟩ = some (.slice A0_6 l0_6.length c0_6) := (blk_cell BK229.out 6).trans rfl
      have hcz16_7 : wr.cell? ⟨gb229, 7, none⟩ = some (.slice A0_7 l0_7.length c0_7) := (blk_cell BK229.out 7).trans rfl
      have hcz16_8 : wr.cell? ⟨gb229, 8, none⟩ = some (.slice A0_8 l0_8.length c0_8) := (blk_cell BK229.out 8).trans rfl
      have hcz16_9 : wr.cell? ⟨gb229, 9, none⟩ = some (.slice A0_9 l0_9.length c0_9) := (blk_cell BK229.out 9).trans rfl
      have hcz16_10 : wr.cell? ⟨gb229, 10, none⟩ = some (.int .i64 a0_10) := (blk_cell BK229.out 10).trans rfl
      have hfz16_0 := blk_frozen BK229.out 0
      have hfz16_1 := blk_frozen BK229.out 1
      have hfz16_2 := blk_frozen BK229.out 2
      have hfz16_3 := blk_frozen BK229.out 3
      have hfz16_4 := blk_frozen BK229.out 4
      have hfz16_5 := blk_frozen BK229.out 5
      have hfz16_6 := blk_frozen BK229.out 6
      have hfz16_7 := blk_frozen BK229.out 7
      have hfz16_8 := blk_frozen BK229.out 8
      have hfz16_9 := blk_frozen BK229.out 9
      have hfz16_10 := blk_frozen BK229.out 10
      have p230 : 0 ≤ (x7_2 : Int) := of_decide_eq_true (by first | (with_reducible assumption) | assumption)
      have q230 : x7_2 < (l0_3.length : Int) := of_decide_eq_true (by first | (with_reducible assumption) | assumption)
      obtain ⟨ad230, A230_4, c230_4, A230_5, c230_5, A230_11, c230_11, e230, hx230_0, hx230_1, hx230_2, hx230_3, hx230_4, hx230_5, hx230_6, hx230_7, hx230_8, hx230_9, hx230_10, hx230_11, hl230_4, hi230_4, hl230_5, hi230_5, hl230_11, hi230_11⟩ := at_T47 HR0_3.out x7_2 p230 q230
      cases e230
      replace hx230_0 := (HB.out.cell (World.block_lt_of_cell? w _ hx230_0)).trans hx230_0
      replace hx230_1 := (HB.out.cell (World.block_lt_of_cell? w _ hx230_1)).trans hx230_1
      replace hx230_2 := (HB.out.cell (World.block_lt_of_cell? w _ hx230_2)).trans hx230_2
      replace hx230_3 := (HB.out.cell (World.block_lt_of_cell? w _ hx230_3)).trans hx230_3
      replace hx230_4 := (HB.out.cell (World.block_lt_of_cell? w _ hx230_4)).trans hx230_4
      replace hx230_5 := (HB.out.cell (World.block_lt_of_cell? w _ hx230_5)).trans hx230_5
      replace hx230_6 := (HB.out.cell (World.block_lt_of_cell? w _ hx230_6)).trans hx230_6
      replace hx230_7 := (HB.out.cell (World.block_lt_of_cell? w _ hx230_7)).trans hx230_7
      replace hx230_8 := (HB.out.cell (World.block_lt_of_cell? w _ hx230_8)).trans hx230_8
      replace hx230_9 := (HB.out.cell (World.block_lt_of_cell? w _ hx230_9)).trans hx230_9
      replace hx230_10 := (HB.out.cell (World.block_lt_of_cell? w _ hx230_10)).trans hx230_10
      replace hx230_11 := (HB.out.cell (World.block_lt_of_cell? w _ hx230_11)).trans hx230_11
      have HR230_4 := Aside0.mk hi230_4
      have HC230_4 := Aside0.mk hl230_4
      clear hi230_4 hl230_4; have HR230_5 := Aside0.mk hi230_5
      have HC230_5 := Aside0.mk hl230_5
      clear hi230_5 hl230_5; have HR230_11 := Aside0.mk hi230_11
      have HC230_11 := Aside0.mk hl230_11
      clear hi230_11 hl230_11; replace p230 := eq_true p230
      replace q230 := eq_true q230
      go_wp2
      go_roundg k2
      case measure => have := HJ3.out; have := HK2.out; omega
      case rel => exact ⟨(wrap64 (x7_2 + 1)), (by first | rfl | (simp; done) | (simp [*]; done)), H', ⟨by have := HJ3.out; have := HK2.out; omega⟩, ⟨by (with_reducible repeat (first | refine blk_drewN ?_ _ | refine blk_drew ?_ | refine blk_alloc ?_ _)); exact BK229.out⟩, ⟨ahx⟩⟩

end Go.Proofs.Ytcdlielgifkemaa.C
