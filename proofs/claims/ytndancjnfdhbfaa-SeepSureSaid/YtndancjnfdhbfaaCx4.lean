-- Written by a program of this session (wip/tools/pp.py) out of the translation; Lean checks it.
import Derived.Test.YtndancjnfdhbfaaCx0
import Derived.Test.YtndancjnfdhbfaaCx3
namespace Go.Proofs.Ytndancjnfdhbfaa.C
open Go.RowKit Go.Proofs.YtndancjnfdhbfaaW.PrintWords Go.Proofs.YtndancjnfdhbfaaW.PrintLast Go.Proofs.YtndancjnfdhbfaaW.PrintMore
open Go.Proofs.Ytndancjnfdhbfaa.S
attribute [local go_sem] max2_int min2_int max_two min_two max_three min_three max_four min_four   -- for this text's walks alone
set_option linter.unusedVariables false
set_option linter.unusedSimpArgs false

/-! ### bourneref20_Maybe: function 17 -/
mutual
def bourneref20_Maybe.j0 : Nat → Bool → ByteArray → Int → Int → Int → List (S90) → List (S90) → List (S90) → Int → Int → Int → Int → Int → Int → Int → Int → Int → Int → Int → Int → Int → Int → Int → Int → Int → Int → Option (Int × Int × Int × Int × Int)
 | 0, _, _, _, _, _, _, _, _, _, _, _, _, _, _, _, _, _, _, _, _, _, _, _, _, _, _ => none
 | k + 1, x21, x152000, x152001, x152002, x152003, x152004, x152005, x152006, x152007, x152008, x152009, x152010, x152011, x152012, x152013, x152014, x152015, x152016, x152017, x153000, x153001, x153002, x153003, x153004, x154000, x154001 => if x21 = true then (some (x153000, x153001, x153002, x153003, x153004)) else (if x153003 ≤ 0 then (bourneref20_Maybe.j1 k (decide (x153004 ≥ 0)) x152000 x152001 x152002 x152003 x152004 x152005 x152006 x152007 x152008 x152009 x152010 x152011 x152012 x152013 x152014 x152015 x152016 x152017 x153000 x153001 x153002 x153003 x153004 x154000 x154001) else (bourneref20_Maybe.j1 k false x152000 x152001 x152002 x152003 x152004 x152005 x152006 x152007 x152008 x152009 x152010 x152011 x152012 x152013 x152014 x152015 x152016 x152017 x153000 x153001 x153002 x153003 x153004 x154000 x154001))
def bourneref20_Maybe.j1 : Nat → Bool → ByteArray → Int → Int → Int → List (S90) → List (S90) → List (S90) → Int → Int → Int → Int → Int → Int → Int → Int → Int → Int → Int → Int → Int → Int → Int → Int → Int → Int → Option (Int × Int × Int × Int × Int)
 | 0, _, _, _, _, _, _, _, _, _, _, _, _, _, _, _, _, _, _, _, _, _, _, _, _, _, _ => none
 | k + 1, x7, x152000, x152001, x152002, x152003, x152004, x152005, x152006, x152007, x152008, x152009, x152010, x152011, x152012, x152013, x152014, x152015, x152016, x152017, x153000, x153001, x153002, x153003, x153004, x154000, x154001 => if x153003 ≤ 1 then (bourneref20_Maybe.j2 k x7 (decide (x153004 ≥ 1)) x152000 x152001 x152002 x152003 x152004 x152005 x152006 x152007 x152008 x152009 x152010 x152011 x152012 x152013 x152014 x152015 x152016 x152017 x153000 x153001 x153002 x153003 x153004 x154000 x154001) else (bourneref20_Maybe.j2 k x7 false x152000 x152001 x152002 x152003 x152004 x152005 x152006 x152007 x152008 x152009 x152010 x152011 x152012 x152013 x152014 x152015 x152016 x152017 x153000 x153001 x153002 x153003 x153004 x154000 x154001)
def bourneref20_Maybe.j2 : Nat → Bool → Bool → ByteArray → Int → Int → Int → List (S90) → List (S90) → List (S90) → Int → Int → Int → Int → Int → Int → Int → Int → Int → Int → Int → Int → Int → Int → Int → Int → Int → Int → Option (Int × Int × Int × Int × Int)
 | 0, _, _, _, _, _, _, _, _, _, _, _, _, _, _, _, _, _, _, _, _, _, _, _, _, _, _, _ => none
 | k + 1, x7, x8, x152000, x152001, x152002, x152003, x152004, x152005, x152006, x152007, x152008, x152009, x152010, x152011, x152012, x152013, x152014, x152015, x152016, x152017, x153000, x153001, x153002, x153003, x153004, x154000, x154001 => if x7 = true then (bourneref20_Maybe.j3 k x7 x8 false x152000 x152001 x152002 x152003 x152004 x152005 x152006 x152007 x152008 x152009 x152010 x152011 x152012 x152013 x152014 x152015 x152016 x152017 x153000 x153001 x153002 x153003 x153004 x154000 x154001) else (bourneref20_Maybe.j3 k x7 x8 (!x8) x152000 x152001 x152002 x152003 x152004 x152005 x152006 x152007 x152008 x152009 x152010 x152011 x152012 x152013 x152014 x152015 x152016 x152017 x153000 x153001 x153002 x153003 x153004 x154000 x154001)
def bourneref20_Maybe.j3 : Nat → Bool → Bool → Bool → ByteArray → Int → Int → Int → List (S90) → List (S90) → List (S90) → Int → Int → Int → Int → Int → Int → Int → Int → Int → Int → Int → Int → Int → Int → Int → Int → Int → Int → Option (Int × Int × Int × Int × Int)
 | 0, _, _, _, _, _, _, _, _, _, _, _, _, _, _, _, _, _, _, _, _, _, _, _, _, _, _, _, _ => none
 | k + 1, x7, x8, x48, x152000, x152001, x152002, x152003, x152004, x152005, x152006, x152007, x152008, x152009, x152010, x152011, x152012, x152013, x152014, x152015, x152016, x152017, x153000, x153001, x153002, x153003, x153004, x154000, x154001 => if x48 = true then (some (x153000, x153001, x153002, x153003, x153004)) else (if x154000 ≤ x152014 then (bourneref20_Maybe.j4 k x7 x8 (decide (x154001 ≥ x152013)) (decide (x154000 < x152013)) x152000 x152001 x152002 x152003 x152004 x152005 x152006 x152007 x152008 x152009 x152010 x152011 x152012 x152013 x152014 x152015 x152016 x152017 x153000 x153001 x153002 x153003 x153004 x154000 x154001) else (bourneref20_Maybe.j4 k x7 x8 (decide (x154001 ≥ x152013)) false x152000 x152001 x152002 x152003 x152004 x152005 x152006 x152007 x152008 x152009 x152010 x152011 x152012 x152013 x152014 x152015 x152016 x152017 x153000 x153001 x153002 x153003 x153004 x154000 x154001))
def bourneref20_Maybe.j4 : Nat → Bool → Bool → Bool → Bool → ByteArray → Int → Int → Int → List (S90) → List (S90) → List (S90) → Int → Int → Int → Int → Int → Int → Int → Int → Int → Int → Int → Int → Int → Int → Int → Int → Int → Int → Option (Int × Int × Int × Int × Int)
 | 0, _, _, _, _, _, _, _, _, _, _, _, _, _, _, _, _, _, _, _, _, _, _, _, _, _, _, _, _, _ => none
 | k + 1, x7, x8, x9, x10, x152000, x152001, x152002, x152003, x152004, x152005, x152006, x152007, x152008, x152009, x152010, x152011, x152012, x152013, x152014, x152015, x152016, x152017, x153000, x153001, x153002, x153003, x153004, x154000, x154001 => if x152013 > x152014 then ((bourneref20_middle.f x152000 x152001 x152002 x152003 x152004 x152005 x152006 x152007 x152008 x152009 x152010 x152011 x152012 x152013 x152014 x152015 x152016 x152017 x154000 x154001).bind fun t155 => (bourneref20_Maybe.j5 k x7 x8 x9 x10 t155 x153000 x153001 x153002 x153003 x153004)) else (bourneref20_Maybe.j5 k x7 x8 x9 x10 false x153000 x153001 x153002 x153003 x153004)
def bourneref20_Maybe.j5 : Nat → Bool → Bool → Bool → Bool → Bool → Int → Int → Int → Int → Int → Option (Int × Int × Int × Int × Int)
 | 0, _, _, _, _, _, _, _, _, _, _ => none
 | k + 1, x7, x8, x9, x10, x11, x153000, x153001, x153002, x153003, x153004 => if x9 = true then (bourneref20_Maybe.j6 k x7 true x10 x11 x153000 x153001 x153002 x153003 x153004) else (if x11 = true then (bourneref20_Maybe.j6 k x7 x8 x10 x11 x153000 x153001 x153002 x153003 x153004) else (bourneref20_Maybe.j6 k x7 false x10 x11 x153000 x153001 x153002 x153003 x153004))
def bourneref20_Maybe.j6 : Nat → Bool → Bool → Bool → Bool → Int → Int → Int → Int → Int → Option (Int × Int × Int × Int × Int)
 | 0, _, _, _, _, _, _, _, _, _ => none
 | k + 1, x7, x9, x10, x11, x153000, x153001, x153002, x153003, x153004 => if x10 = true then (bourneref20_Maybe.j7 k x9 true x153000 x153001 x153002 x153003 x153004) else (if x11 = true then (bourneref20_Maybe.j7 k x9 x7 x153000 x153001 x153002 x153003 x153004) else (bourneref20_Maybe.j7 k x9 false x153000 x153001 x153002 x153003 x153004))
def bourneref20_Maybe.j7 : Nat → Bool → Bool → Int → Int → Int → Int → Int → Option (Int × Int × Int × Int × Int)
 | 0, _, _, _, _, _, _, _ => none
 | k + 1, x9, x10, x153000, x153001, x153002, x153003, x153004 => if x9 = true then (bourneref20_Maybe.j8 k x9 x10 x153000 x153001 x153002 x153003 x153004) else (bourneref20_Maybe.j8 k x9 false x153000 x153001 x153002 x153003 x153004)
def bourneref20_Maybe.j8 : Nat → Bool → Bool → Int → Int → Int → Int → Int → Option (Int × Int × Int × Int × Int)
 | 0, _, _, _, _, _, _, _ => none
 | k + 1, x9, x94, x153000, x153001, x153002, x153003, x153004 => if x94 = true then (some (x153000, x153001, x153002, 0, 1)) else (if x9 = true then (some (x153000, x153001, x153002, 1, 1)) else (some (x153000, x153001, x153002, 0, 0)))
end
def bourneref20_Maybe.f (k : Nat) (a0_0 : ByteArray) (a0_1 : Int) (a0_2 : Int) (a0_3 : Int) (l0_4 : List (S90)) (l0_5 : List (S90)) (l0_6 : List (S90)) (a0_7 : Int) (a0_8 : Int) (a0_9 : Int) (a0_10 : Int) (a0_11 : Int) (a0_12 : Int) (a0_13 : Int) (a0_14 : Int) (a0_15 : Int) (a0_16 : Int) (a0_17 : Int) (a1_0 : Int) (a1_1 : Int) (a1_2 : Int) (a1_3 : Int) (a1_4 : Int) (a2_0 : Int) (a2_1 : Int) : Option (Int × Int × Int × Int × Int) := if a0_1 = 3 then (bourneref20_Maybe.j0 k (decide (a2_0 > a2_1)) a0_0 a0_1 a0_2 a0_3 l0_4 l0_5 l0_6 a0_7 a0_8 a0_9 a0_10 a0_11 a0_12 a0_13 a0_14 a0_15 a0_16 a0_17 a1_0 a1_1 a1_2 a1_3 a1_4 a2_0 a2_1) else (bourneref20_Maybe.j0 k true a0_0 a0_1 a0_2 a0_3 l0_4 l0_5 l0_6 a0_7 a0_8 a0_9 a0_10 a0_11 a0_12 a0_13 a0_14 a0_15 a0_16 a0_17 a1_0 a1_1 a1_2 a1_3 a1_4 a2_0 a2_1)
set_option maxHeartbeats 8000000 in
set_option maxRecDepth 100000 in
theorem bourneref20_Maybe.calls (k : Nat) (a0_0 : ByteArray) (a0_1 : Int) (a0_2 : Int) (a0_3 : Int) (A0_4 : Option Addr) (c0_4 : Nat) (l0_4 : List (S90)) (A0_5 : Option Addr) (c0_5 : Nat) (l0_5 : List (S90)) (A0_6 : Option Addr) (c0_6 : Nat) (l0_6 : List (S90)) (a0_7 : Int) (a0_8 : Int) (a0_9 : Int) (a0_10 : Int) (a0_11 : Int) (a0_12 : Int) (a0_13 : Int) (a0_14 : Int) (a0_15 : Int) (a0_16 : Int) (a0_17 : Int) (a1_0 : Int) (a1_1 : Int) (a1_2 : Int) (a1_3 : Int) (a1_4 : Int) (a2_0 : Int) (a2_1 : Int) (r1 : Int) (r2 : Int) (r3 : Int) (r4 : Int) (r5 : Int) (w : World) (hr0_4 : Kd.C k90 w A0_4 l0_4.length l0_4) (hc0_4 : l0_4.length ≤ c0_4) (hr0_5 : Kd.C k90 w A0_5 l0_5.length l0_5) (hc0_5 : l0_5.length ≤ c0_5) (hr0_6 : Kd.C k90 w A0_6 l0_6.length l0_6) (hc0_6 : l0_6.length ≤ c0_6) (h : bourneref20_Maybe.f k a0_0 a0_1 a0_2 a0_3 l0_4 l0_5 l0_6 a0_7 a0_8 a0_9 a0_10 a0_11 a0_12 a0_13 a0_14 a0_15 a0_16 a0_17 a1_0 a1_1 a1_2 a1_3 a1_4 a2_0 a2_1 = some (r1, r2, r3, r4, r5)) :
  Calls Try.prog 17 #[.agg #[.string a0_0, .int .i64 a0_1, .int .i64 a0_2, .int .i64 a0_3, .slice A0_4 l0_4.length c0_4, .slice A0_5 l0_5.length c0_5, .slice A0_6 l0_6.length c0_6, .int .i64 a0_7, .int .i64 a0_8, .int .i64 a0_9, .int .i64 a0_10, .int .i64 a0_11, .int .i64 a0_12, .int .i64 a0_13, .int .i64 a0_14, .int .i64 a0_15, .int .i64 a0_16, .int .i64 a0_17], .agg #[.int .i64 a1_0, .int .i64 a1_1, .int .i64 a1_2, .int .i64 a1_3, .int .i64 a1_4], .agg #[.int .i64 a2_0, .int .i64 a2_1]] w fun e w' => e = .returned (.agg #[.int .i64 r1, .int .i64 r2, .int .i64 r3, .int .i64 r4, .int .i64 r5]) ∧ Below w.heap.size w w' := by
 have hu26 := Try.underlying26
 have hu32 := Try.underlying32
 have hu30 := Try.underlying30
 have HR0_4 := Aside0.mk hr0_4
 have HC0_4 := Aside0.mk hc0_4
 clear hr0_4 hc0_4
 have HR0_5 := Aside0.mk hr0_5
 have HC0_5 := Aside0.mk hc0_5
 clear hr0_5 hc0_5
 have HR0_6 := Aside0.mk hr0_6
 have HC0_6 := Aside0.mk hc0_6
 clear hr0_6 hc0_6
 have HB := Aside0.mk (Below.refl w.heap.size w)
 have H : (if a0_1 = 3 then (bourneref20_Maybe.j0 k (decide (a2_0 > a2_1)) a0_0 a0_1 a0_2 a0_3 l0_4 l0_5 l0_6 a0_7 a0_8 a0_9 a0_10 a0_11 a0_12 a0_13 a0_14 a0_15 a0_16 a0_17 a1_0 a1_1 a1_2 a1_3 a1_4 a2_0 a2_1) else (bourneref20_Maybe.j0 k true a0_0 a0_1 a0_2 a0_3 l0_4 l0_5 l0_6 a0_7 a0_8 a0_9 a0_10 a0_11 a0_12 a0_13 a0_14 a0_15 a0_16 a0_17 a1_0 a1_1 a1_2 a1_3 a1_4 a2_0 a2_1)) = some (r1, r2, r3, r4, r5) := h
 clear h
 have HC4 := Aside0.mk H
 clear H
 go_enter Try.func17, Try.ntmps17
 go_upto_region 1 with (first | ((with_reducible refine gate_dst (N := 3) rfl ?_); refine box_event ?hg (N := 3) ?hd (cs := #[.string a0_0, .int .i64 a0_1, .int .i64 a0_2, .int .i64 a0_3, .slice A0_4 l0_4.length c0_4, .slice A0_5 l0_5.length c0_5, .slice A0_6 l0_6.length c0_6, .int .i64 a0_7, .int .i64 a0_8, .int .i64 a0_9, .int .i64 a0_10, .int .i64 a0_11, .int .i64 a0_12, .int .i64 a0_13, .int .i64 a0_14, .int .i64 a0_15, .int .i64 a0_16, .int .i64 a0_17]) (t := 26) ?hr ?_; (case hd => rfl); (case hg => rfl); (case hr => first | (go_simp; done) | (go_simp; rfl)); intro gb151 hg w5 hbox hb; have n0_ := Aside0.mk (below_step ahx hb); have n1_ := Aside0.mk (hbox); have n2_ := Aside0.mk ((by rw [hg]; exact (below_size ahx) : w.heap.size ≤ gb151)); have n3_ := Aside0.mk ((by rw [hg]; exact (below_size ahx) : w.heap.size ≤ gb151)); clear HB; have HB := n0_; have BK151 := n1_; have GW151 := n2_; have GE151 := n3_; clear n0_ n1_ n2_ n3_; clear hb hbox hg) | ((with_reducible refine gate_dst (N := 4) rfl ?_); refine box_event ?hg (N := 4) ?hd (cs := #[.int .i64 a1_0, .int .i64 a1_1, .int .i64 a1_2, .int .i64 a1_3, .int .i64 a1_4]) (t := 32) ?hr ?_; (case hd => rfl); (case hg => rfl); (case hr => first | (go_simp; done) | (go_simp; rfl)); intro gb152 hg w6 hbox hb; have n0_ := Aside0.mk (blk_below (g := gb151) (o := .cells #[.string a0_0, .int .i64 a0_1, .int .i64 a0_2, .int .i64 a0_3, .slice A0_4 l0_4.length c0_4, .slice A0_5 l0_5.length c0_5, .slice A0_6 l0_6.length c0_6, .int .i64 a0_7, .int .i64 a0_8, .int .i64 a0_9, .int .i64 a0_10, .int .i64 a0_11, .int .i64 a0_12, .int .i64 a0_13, .int .i64 a0_14, .int .i64 a0_15, .int .i64 a0_16, .int .i64 a0_17] 26 (0, 0)) abx hb); have n1_ := Aside0.mk (below_step ahx hb); have n2_ := Aside0.mk (hbox); have n3_ := Aside0.mk ((by rw [hg]; exact (below_size ahx) : w.heap.size ≤ gb152)); have n4_ := Aside0.mk ((by rw [hg]; exact (below_size ahx) : w.heap.size ≤ gb152)); have n5_ := Aside0.mk ((by rw [hg]; exact Nat.ne_of_lt (blk_lt (g := gb151) (o := .cells #[.string a0_0, .int .i64 a0_1, .int .i64 a0_2, .int .i64 a0_3, .slice A0_4 l0_4.length c0_4, .slice A0_5 l0_5.length c0_5, .slice A0_6 l0_6.length c0_6, .int .i64 a0_7, .int .i64 a0_8, .int .i64 a0_9, .int .i64 a0_10, .int .i64 a0_11, .int .i64 a0_12, .int .i64 a0_13, .int .i64 a0_14, .int .i64 a0_15, .int .i64 a0_16, .int .i64 a0_17] 26 (0, 0)) abx) : gb151 ≠ gb152)); have n6_ := Aside0.mk ((by rw [hg]; exact Nat.ne_of_gt (blk_lt (g := gb151) (o := .cells #[.string a0_0, .int .i64 a0_1, .int .i64 a0_2, .int .i64 a0_3, .slice A0_4 l0_4.length c0_4, .slice A0_5 l0_5.length c0_5, .slice A0_6 l0_6.length c0_6, .int .i64 a0_7, .int .i64 a0_8, .int .i64 a0_9, .int .i64 a0_10, .int .i64 a0_11, .int .i64 a0_12, .int .i64 a0_13, .int .i64 a0_14, .int .i64 a0_15, .int .i64 a0_16, .int .i64 a0_17] 26 (0, 0)) abx) : gb152 ≠ gb151)); clear BK151; clear HB; have BK151 := n0_; have HB := n1_; have BK152 := n2_; have GW152 := n3_; have GE152 := n4_; have NB151_152 := n5_; have NB152_151 := n6_; clear n0_ n1_ n2_ n3_ n4_ n5_ n6_; clear hb hbox hg) | ((with_reducible refine gate_dst (N := 5) rfl ?_); refine box_event ?hg (N := 5) ?hd (cs := #[.int .i64 a2_0, .int .i64 a2_1]) (t := 30) ?hr ?_; (case hd => rfl); (case hg => rfl); (case hr => first | (go_simp; done) | (go_simp; rfl)); intro gb153 hg w7 hbox hb; have n0_ := Aside0.mk (blk_below (g := gb151) (o := .cells #[.string a0_0, .int .i64 a0_1, .int .i64 a0_2, .int .i64 a0_3, .slice A0_4 l0_4.length c0_4, .slice A0_5 l0_5.length c0_5, .slice A0_6 l0_6.length c0_6, .int .i64 a0_7, .int .i64 a0_8, .int .i64 a0_9, .int .i64 a0_10, .int .i64 a0_11, .int .i64 a0_12, .int .i64 a0_13, .int .i64 a0_14, .int .i64 a0_15, .int .i64 a0_16, .int .i64 a0_17] 26 (0, 0)) abx hb); have n1_ := Aside0.mk (blk_below (g := gb152) (o := .cells #[.int .i64 a1_0, .int .i64 a1_1, .int .i64 a1_2, .int .i64 a1_3, .int .i64 a1_4] 32 (0, 0)) abx hb); have n2_ := Aside0.mk (below_step ahx hb); have n3_ := Aside0.mk (hbox); have n4_ := Aside0.mk ((by rw [hg]; exact (below_size ahx) : w.heap.size ≤ gb153)); have n5_ := Aside0.mk ((by rw [hg]; exact (below_size ahx) : w.heap.size ≤ gb153)); have n6_ := Aside0.mk ((by rw [hg]; exact Nat.ne_of_lt (blk_lt (g := gb151) (o := .cells #[.string a0_0, .int .i64 a0_1, .int .i64 a0_2, .int .i64 a0_3, .slice A0_4 l0_4.length c0_4, .slice A0_5 l0_5.length c0_5, .slice A0_6 l0_6.length c0_6, .int .i64 a0_7, .int .i64 a0_8, .int .i64 a0_9, .int .i64 a0_10, .int .i64 a0_11, .int .i64 a0_12, .int .i64 a0_13, .int .i64 a0_14, .int .i64 a0_15, .int .i64 a0_16, .int .i64 a0_17] 26 (0, 0)) abx) : gb151 ≠ gb153)); have n7_ := Aside0.mk ((by rw [hg]; exact Nat.ne_of_gt (blk_lt (g := gb151) (o := .cells #[.string a0_0, .int .i64 a0_1, .int .i64 a0_2, .int .i64 a0_3, .slice A0_4 l0_4.length c0_4, .slice A0_5 l0_5.length c0_5, .slice A0_6 l0_6.length c0_6, .int .i64 a0_7, .int .i64 a0_8, .int .i64 a0_9, .int .i64 a0_10, .int .i64 a0_11, .int .i64 a0_12, .int .i64 a0_13, .int .i64 a0_14, .int .i64 a0_15, .int .i64 a0_16, .int .i64 a0_17] 26 (0, 0)) abx) : gb153 ≠ gb151)); have n8_ := Aside0.mk ((by rw [hg]; exact Nat.ne_of_lt (blk_lt (g := gb152) (o := .cells #[.int .i64 a1_0, .int .i64 a1_1, .int .i64 a1_2, .int .i64 a1_3, .int .i64 a1_4] 32 (0, 0)) abx) : gb152 ≠ gb153)); have n9_ := Aside0.mk ((by rw [hg]; exact Nat.ne_of_gt (blk_lt (g := gb152) (o := .cells #[.int .i64 a1_0, .int .i64 a1_1, .int .i64 a1_2, .int .i64 a1_3, .int .i64 a1_4] 32 (0, 0)) abx) : gb153 ≠ gb152)); clear BK151; clear BK152; clear HB; have BK151 := n0_; have BK152 := n1_; have HB := n2_; have BK153 := n3_; have GW153 := n4_; have GE153 := n5_; have NB151_153 := n6_; have NB153_151 := n7_; have NB152_153 := n8_; have NB153_152 := n9_; clear n0_ n1_ n2_ n3_ n4_ n5_ n6_ n7_ n8_ n9_; clear hb hbox hg) | ((with_reducible refine gate_dst (N := 6) rfl ?_); refine box_event ?hg (N := 6) ?hd (cs := #[.int .i64 0, .int .i64 0, .int .i64 0, .int .i64 0, .int .i64 0]) (t := 32) ?hr ?_; (case hd => rfl); (case hg => rfl); (case hr => first | (go_simp; done) | (go_simp; rfl)); intro gb154 hg w8 hbox hb; have n0_ := Aside0.mk (blk_below (g := gb151) (o := .cells #[.string a0_0, .int .i64 a0_1, .int .i64 a0_2, .int .i64 a0_3, .slice A0_4 l0_4.length c0_4, .slice A0_5 l0_5.length c0_5, .slice A0_6 l0_6.length c0_6, .int .i64 a0_7, .int .i64 a0_8, .int .i64 a0_9, .int .i64 a0_10, .int .i64 a0_11, .int .i64 a0_12, .int .i64 a0_13, .int .i64 a0_14, .int .i64 a0_15, .int .i64 a0_16, .int .i64 a0_17] 26 (0, 0)) abx hb); have n1_ := Aside0.mk (blk_below (g := gb152) (o := .cells #[.int .i64 a1_0, .int .i64 a1_1, .int .i64 a1_2, .int .i64 a1_3, .int .i64 a1_4] 32 (0, 0)) abx hb); have n2_ := Aside0.mk (blk_below (g := gb153) (o := .cells #[.int .i64 a2_0, .int .i64 a2_1] 30 (0, 0)) abx hb); have n3_ := Aside0.mk (below_step ahx hb); have n4_ := Aside0.mk (hbox); have n5_ := Aside0.mk ((by rw [hg]; exact (below_size ahx) : w.heap.size ≤ gb154)); have n6_ := Aside0.mk ((by rw [hg]; exact (below_size ahx) : w.heap.size ≤ gb154)); have n7_ := Aside0.mk ((by rw [hg]; exact Nat.ne_of_lt (blk_lt (g := gb151) (o := .cells #[.string a0_0, .int .i64 a0_1, .int .i64 a0_2, .int .i64 a0_3, .slice A0_4 l0_4.length c0_4, .slice A0_5 l0_5.length c0_5, .slice A0_6 l0_6.length c0_6, .int .i64 a0_7, .int .i64 a0_8, .int .i64 a0_9, .int .i64 a0_10, .int .i64 a0_11, .int .i64 a0_12, .int .i64 a0_13, .int .i64 a0_14, .int .i64 a0_15, .int .i64 a0_16, .int .i64 a0_17] 26 (0, 0)) abx) : gb151 ≠ gb154)); have n8_ := Aside0.mk ((by rw [hg]; exact Nat.ne_of_gt (blk_lt (g := gb151) (o := .cells #[.string a0_0, .int .i64 a0_1, .int .i64 a0_2, .int .i64 a0_3, .slice A0_4 l0_4.length c0_4, .slice A0_5 l0_5.length c0_5, .slice A0_6 l0_6.length c0_6, .int .i64 a0_7, .int .i64 a0_8, .int .i64 a0_9, .int .i64 a0_10, .int .i64 a0_11, .int .i64 a0_12, .int .i64 a0_13, .int .i64 a0_14, .int .i64 a0_15, .int .i64 a0_16, .int .i64 a0_17] 26 (0, 0)) abx) : gb154 ≠ gb151)); have n9_ := Aside0.mk ((by rw [hg]; exact Nat.ne_of_lt (blk_lt (g := gb152) (o := .cells #[.int .i64 a1_0, .int .i64 a1_1, .int .i64 a1_2, .int .i64 a1_3, .int .i64 a1_4] 32 (0, 0)) abx) : gb152 ≠ gb154)); have n10_ := Aside0.mk ((by rw [hg]; exact Nat.ne_of_gt (blk_lt (g := gb152) (o := .cells #[.int .i64 a1_0, .int .i64 a1_1, .int .i64 a1_2, .int .i64 a1_3, .int .i64 a1_4] 32 (0, 0)) abx) : gb154 ≠ gb152)); have n11_ := Aside0.mk ((by rw [hg]; exact Nat.ne_of_lt (blk_lt (g := gb153) (o := .cells #[.int .i64 a2_0, .int .i64 a2_1] 30 (0, 0)) abx) : gb153 ≠ gb154)); have n12_ := Aside0.mk ((by rw [hg]; exact Nat.ne_of_gt (blk_lt (g := gb153) (o := .cells #[.int .i64 a2_0, .int .i64 a2_1] 30 (0, 0)) abx) : gb154 ≠ gb153)); clear BK151; clear BK152; clear BK153; clear HB; have BK151 := n0_; have BK152 := n1_; have BK153 := n2_; have HB := n3_; have BK154 := n4_; have GW154 := n5_; have GE154 := n6_; have NB151_154 := n7_; have NB154_151 := n8_; have NB152_154 := n9_; have NB154_152 := n10_; have NB153_154 := n11_; have NB154_153 := n12_; clear n0_ n1_ n2_ n3_ n4_ n5_ n6_ n7_ n8_ n9_ n10_ n11_ n12_; clear hb hbox hg))
 (try simp only [Act.put, List.setIfInBounds_toArray, List.set_cons_zero, List.set_cons_succ])
 go_cut [21] (fun v21 wc => ∃ (kq : Nat) (x21_3 : Bool), v21 = .bool x21_3 ∧ Aside0 (bourneref20_Maybe.j0 kq x21_3 a0_0 a0_1 a0_2 a0_3 l0_4 l0_5 l0_6 a0_7 a0_8 a0_9 a0_10 a0_11 a0_12 a0_13 a0_14 a0_15 a0_16 a0_17 a1_0 a1_1 a1_2 a1_3 a1_4 a2_0 a2_1 = some (r1, r2, r3, r4, r5)) ∧ Aside0 (kq ≤ k) ∧ Aside0 (wc.heap[gb151]? = some (.cells #[.string a0_0, .int .i64 a0_1, .int .i64 a0_2, .int .i64 a0_3, (.slice A0_4 l0_4.length c0_4), (.slice A0_5 l0_5.length c0_5), (.slice A0_6 l0_6.length c0_6), .int .i64 a0_7, .int .i64 a0_8, .int .i64 a0_9, .int .i64 a0_10, .int .i64 a0_11, .int .i64 a0_12, .int .i64 a0_13, .int .i64 a0_14, .int .i64 a0_15, .int .i64 a0_16, .int .i64 a0_17] 26 (0, 0))) ∧ Aside0 (wc.heap[gb152]? = some (.cells #[.int .i64 a1_0, .int .i64 a1_1, .int .i64 a1_2, .int .i64 a1_3, .int .i64 a1_4] 32 (0, 0))) ∧ Aside0 (wc.heap[gb153]? = some (.cells #[.int .i64 a2_0, .int .i64 a2_1] 30 (0, 0))) ∧ Aside0 (wc.heap[gb154]? = some (.cells #[.int .i64 0, .int .i64 0, .int .i64 0, .int .i64 0, .int .i64 0] 32 (0, 0))) ∧ Aside0 (Below w.heap.size w wc))
 case first =>
  have H := HC4.out
  clear HC4
  by_cases c9 : a0_1 = 3
  ·rw [if_pos c9] at H
   have c9b0 : (a0_1 == 3) = true := beq_iff_eq.mpr c9
   have c9b1 : (a0_1 != 3) = false := bne_eq_false_iff_eq.mpr c9
   clear c9
   (first | rw [c9b0] | (simp only [i64_w, i32_w]; rw [c9b0]) | skip)
   as_aux_lemma =>
    have H' := Aside0.mk H
    clear H
    have hnb10 := NB151_152.out
    have hnc10 := NB152_151.out
    have hnb11 := NB151_153.out
    have hnc11 := NB153_151.out
    have hnb12 := NB151_154.out
    have hnc12 := NB154_151.out
    have hcz13_0 : w8.cell? ⟨gb151, 0, none⟩ = some (.string a0_0) := (blk_cell BK151.out 0).trans rfl
    have hcz13_1 : w8.cell? ⟨gb151, 1, none⟩ = some (.int .i64 a0_1) := (blk_cell BK151.out 1).trans rfl
    have hcz13_2 : w8.cell? ⟨gb151, 2, none⟩ = some (.int .i64 a0_2) := (blk_cell BK151.out 2).trans rfl
    have hcz13_3 : w8.cell? ⟨gb151, 3, none⟩ = some (.int .i64 a0_3) := (blk_cell BK151.out 3).trans rfl
    have hcz13_4 : w8.cell? ⟨gb151, 4, none⟩ = some (.slice A0_4 l0_4.length c0_4) := (blk_cell BK151.out 4).trans rfl
    have hcz13_5 : w8.cell? ⟨gb151, 5, none⟩ = some (.slice A0_5 l0_5.length c0_5) := (blk_cell BK151.out 5).trans rfl
    have hcz13_6 : w8.cell? ⟨gb151, 6, none⟩ = some (.slice A0_6 l0_6.length c0_6) := (blk_cell BK151.out 6).trans rfl
    have hcz13_7 : w8.cell? ⟨gb151, 7, none⟩ = some (.int .i64 a0_7) := (blk_cell BK151.out 7).trans rfl
    have hcz13_8 : w8.cell? ⟨gb151, 8, none⟩ = some (.int .i64 a0_8) := (blk_cell BK151.out 8).trans rfl
    have hcz13_9 : w8.cell? ⟨gb151, 9, none⟩ = some (.int .i64 a0_9) := (blk_cell BK151.out 9).trans rfl
    have hcz13_10 : w8.cell? ⟨gb151, 10, none⟩ = some (.int .i64 a0_10) := (blk_cell BK151.out 10).trans rfl
    have hcz13_11 : w8.cell? ⟨gb151, 11, none⟩ = some (.int .i64 a0_11) := (blk_cell BK151.out 11).trans rfl
    have hcz13_12 : w8.cell? ⟨gb151, 12, none⟩ = some (.int .i64 a0_12) := (blk_cell BK151.out 12).trans rfl
    have hcz13_13 : w8.cell? ⟨gb151, 13, none⟩ = some (.int .i64 a0_13) := (blk_cell BK151.out 13).trans rfl
    have hcz13_14 : w8.cell? ⟨gb151, 14, none⟩ = some (.int .i64 a0_14) := (blk_cell BK151.out 14).trans rfl
    have hcz13_15 : w8.cell? ⟨gb151, 15, none⟩ = some (.int .i64 a0_15) := (blk_cell BK151.out 15).trans rfl
    have hcz13_16 : w8.cell? ⟨gb151, 16, none⟩ = some (.int .i64 a0_16) := (blk_cell BK151.out 16).trans rfl
    have hcz13_17 : w8.cell? ⟨gb151, 17, none⟩ = some (.int .i64 a0_17) := (blk_cell BK151.out 17).trans rfl
    have hfz13_0 := blk_frozen BK151.out 0
    have hfz13_1 := blk_frozen BK151.out 1
    have hfz13_2 := blk_frozen BK151.out 2
    have hfz13_3 := blk_frozen BK151.out 3
    have hfz13_4 := blk_frozen BK151.out 4
    have hfz13_5 := blk_frozen BK151.out 5
    have hfz13_6 := blk_frozen BK151.out 6
    have hfz13_7 := blk_frozen BK151.out 7
    have hfz13_8 := blk_frozen BK151.out 8
    have hfz13_9 := blk_frozen BK151.out 9
    have hfz13_10 := blk_frozen BK151.out 10
    have hfz13_11 := blk_frozen BK151.out 11
    have hfz13_12 := blk_frozen BK151.out 12
    have hfz13_13 := blk_frozen BK151.out 13
    have hfz13_14 := blk_frozen BK151.out 14
    have hfz13_15 := blk_frozen BK151.out 15
    have hfz13_16 := blk_frozen BK151.out 16
    have hfz13_17 := blk_frozen BK151.out 17
    have hnb14 := NB153_152.out
    have hnc14 := NB152_153.out
    have hnb15 := NB153_154.out
    have hnc15 := NB154_153.out
    have hcz16_0 : w8.cell? ⟨gb153, 0, none⟩ = some (.int .i64 a2_0) := (blk_cell BK153.out 0).trans rfl
    have hcz16_1 : w8.cell? ⟨gb153, 1, none⟩ = some (.int .i64 a2_1) := (blk_cell BK153.out 1).trans rfl
    have hfz16_0 := blk_frozen BK153.out 0
    have hfz16_1 := blk_frozen BK153.out 1
    go_wp2
    go_meet
    case rel => exact ⟨_, (decide (a2_0 > a2_1)), (by first | rfl | (simp; done) | (simp [*]; done)), H', ⟨by first | omega | exact Nat.le_refl _⟩, ⟨by (with_reducible repeat (first | refine blk_drewN ?_ _ | refine blk_drew ?_ | refine blk_alloc ?_ _)); exact BK151.out⟩, ⟨by (with_reducible repeat (first | refine blk_drewN ?_ _ | refine blk_drew ?_ | refine blk_alloc ?_ _)); exact BK152.out⟩, ⟨by (with_reducible repeat (first | refine blk_drewN ?_ _ | refine blk_drew ?_ | refine blk_alloc ?_ _)); exact BK153.out⟩, ⟨by (with_reducible repeat (first | refine blk_drewN ?_ _ | refine blk_drew ?_ | refine blk_alloc ?_ _)); exact BK154.out⟩, ⟨ahx⟩⟩
  ·rw [if_neg c9] at H
   have c9b0 : (a0_1 == 3) = false := beq_eq_false_iff_ne.mpr c9
   have c9b1 : (a0_1 != 3) = true := bne_iff_ne.mpr c9
   (first | rw [c9b0] | (simp only [i64_w, i32_w]; rw [c9b0]) | skip)
   as_aux_lemma =>
    have H' := Aside0.mk H
    clear H
    have hnb17 := NB151_152.out
    have hnc17 := NB152_151.out
    have hnb18 := NB151_153.out
    have hnc18 := NB153_151.out
    have hnb19 := NB151_154.out
    have hnc19 := NB154_151.out
    have hcz20_0 : w8.cell? ⟨gb151, 0, none⟩ = some (.string a0_0) := (blk_cell BK151.out 0).trans rfl
    have hcz20_1 : w8.cell? ⟨gb151, 1, none⟩ = some (.int .i64 a0_1) := (blk_cell BK151.out 1).trans rfl
    have hcz20_2 : w8.cell? ⟨gb151, 2, none⟩ = some (.int .i64 a0_2) := (blk_cell BK151.out 2).trans rfl
    have hcz20_3 : w8.cell? ⟨gb151, 3, none⟩ = some (.int .i64 a0_3) := (blk_cell BK151.out 3).trans rfl
    have hcz20_4 : w8.cell? ⟨gb151, 4, none⟩ = some (.slice A0_4 l0_4.length c0_4) := (blk_cell BK151.out 4).trans rfl
    have hcz20_5 : w8.cell? ⟨gb151, 5, none⟩ = some (.slice A0_5 l0_5.length c0_5) := (blk_cell BK151.out 5).trans rfl
    have hcz20_6 : w8.cell? ⟨gb151, 6, none⟩ = some (.slice A0_6 l0_6.length c0_6) := (blk_cell BK151.out 6).trans rfl
    have hcz20_7 : w8.cell? ⟨gb151, 7, none⟩ = some (.int .i64 a0_7) := (blk_cell BK151.out 7).trans rfl
    have hcz20_8 : w8.cell? ⟨gb151, 8, none⟩ = some (.int .i64 a0_8) := (blk_cell BK151.out 8).trans rfl
    have hcz20_9 : w8.cell? ⟨gb151, 9, none⟩ = some (.int .i64 a0_9) := (blk_cell BK151.out 9).trans rfl
    have hcz20_10 : w8.cell? ⟨gb151, 10, none⟩ = some (.int .i64 a0_10) := (blk_cell BK151.out 10).trans rfl
    have hcz20_11 : w8.cell? ⟨gb151, 11, none⟩ = some (.int .i64 a0_11) := (blk_cell BK151.out 11).trans rfl
    have hcz20_12 : w8.cell? ⟨gb151, 12, none⟩ = some (.int .i64 a0_12) := (blk_cell BK151.out 12).trans rfl
    have hcz20_13 : w8.cell? ⟨gb151, 13, none⟩ = some (.int .i64 a0_13) := (blk_cell BK151.out 13).trans rfl
    have hcz20_14 : w8.cell? ⟨gb151, 14, none⟩ = some (.int .i64 a0_14) := (blk_cell BK151.out 14).trans rfl
    have hcz20_15 : w8.cell? ⟨gb151, 15, none⟩ = some (.int .i64 a0_15) := (blk_cell BK151.out 15).trans rfl
    have hcz20_16 : w8.cell? ⟨gb151, 16, none⟩ = some (.int .i64 a0_16) := (blk_cell BK151.out 16).trans rfl
    have hcz20_17 : w8.cell? ⟨gb151, 17, none⟩ = some (.int .i64 a0_17) := (blk_cell BK151.out 17).trans rfl
    have hfz20_0 := blk_frozen BK151.out 0
    have hfz20_1 := blk_frozen BK151.out 1
    have hfz20_2 := blk_frozen BK151.out 2
    have hfz20_3 := blk_frozen BK151.out 3
    have hfz20_4 := blk_frozen BK151.out 4
    have hfz20_5 := blk_frozen BK151.out 5
    have hfz20_6 := blk_frozen BK151.out 6
    have hfz20_7 := blk_frozen BK151.out 7
    have hfz20_8 := blk_frozen BK151.out 8
    have hfz20_9 := blk_frozen BK151.out 9
    have hfz20_10 := blk_frozen BK151.out 10
    have hfz20_11 := blk_frozen BK151.out 11
    have hfz20_12 := blk_frozen BK151.out 12
    have hfz20_13 := blk_frozen BK151.out 13
    have hfz20_14 := blk_frozen BK151.out 14
    have hfz20_15 := blk_frozen BK151.out 15
    have hfz20_16 := blk_frozen BK151.out 16
    have hfz20_17 := blk_frozen BK151.out 17
    go_wp2
    go_meet
    case rel => exact ⟨_, (true), (by first | rfl | (simp; done) | (simp [*]; done)), H', ⟨by first | omega | exact Nat.le_refl _⟩, ⟨by (with_reducible repeat (first | refine blk_drewN ?_ _ | refine blk_drew ?_ | refine blk_alloc ?_ _)); exact BK151.out⟩, ⟨by (with_reducible repeat (first | refine blk_drewN ?_ _ | refine blk_drew ?_ | refine blk_alloc ?_ _)); exact BK152.out⟩, ⟨by (with_reducible repeat (first | refine blk_drewN ?_ _ | refine blk_drew ?_ | refine blk_alloc ?_ _)); exact BK153.out⟩, ⟨by (with_reducible repeat (first | refine blk_drewN ?_ _ | refine blk_drew ?_ | refine blk_alloc ?_ _)); exact BK154.out⟩, ⟨ahx⟩⟩
 case rest =>
  clear HC4
  try clear c1
  try clear p2
  try clear c9
  try clear c9b0
  try clear c9b1
  try clear c10
  try clear c11
  try clear c12
  try clear c14
  try clear c15
  try clear c17
  try clear c18
  try clear c19
  try clear hcz13_0
  try clear hcz13_1
  try clear hcz13_10
  try clear hcz13_11
  try clear hcz13_12
  try clear hcz13_13
  try clear hcz13_14
  try clear hcz13_15
  try clear hcz13_16
  try clear hcz13_17
  try clear hcz13_2
  try clear hcz13_3
  try clear hcz13_4
  try clear hcz13_5
  try clear hcz13_6
  try clear hcz13_7
  try clear hcz13_8
  try clear hcz13_9
  try clear hcz16_0
  try clear hcz16_1
  try clear hcz20_0
  try clear hcz20_1
  try clear hcz20_10
  try clear hcz20_11
  try clear hcz20_12
  try clear hcz20_13
  try clear hcz20_14
  try clear hcz20_15
  try clear hcz20_16
  try clear hcz20_17
  try clear hcz20_2
  try clear hcz20_3
  try clear hcz20_4
  try clear hcz20_5
  try clear hcz20_6
  try clear hcz20_7
  try clear hcz20_8
  try clear hcz20_9
  try clear hfz13_0
  try clear hfz13_1
  try clear hfz13_10
  try clear hfz13_11
  try clear hfz13_12
  try clear hfz13_13
  try clear hfz13_14
  try clear hfz13_15
  try clear hfz13_16
  try clear hfz13_17
  try clear hfz13_2
  try clear hfz13_3
  try clear hfz13_4
  try clear hfz13_5
  try clear hfz13_6
  try clear hfz13_7
  try clear hfz13_8
  try clear hfz13_9
  try clear hfz16_0
  try clear hfz16_1
  try clear hfz20_0
  try clear hfz20_1
  try clear hfz20_10
  try clear hfz20_11
  try clear hfz20_12
  try clear hfz20_13
  try clear hfz20_14
  try clear hfz20_15
  try clear hfz20_16
  try clear hfz20_17
  try clear hfz20_2
  try clear hfz20_3
  try clear hfz20_4
  try clear hfz20_5
  try clear hfz20_6
  try clear hfz20_7
  try clear hfz20_8
  try clear hfz20_9
  obtain ⟨kq, x21_3, rfl, HA, HJ3, BK151, BK152, BK153, BK154, HB⟩ := hcut
  cases kq with
  | zero => exact absurd HA.out (by simp [bourneref20_Maybe.j0])
  | succ kj3 =>
   have H := HA.out
   clear HA
   simp only [bourneref20_Maybe.j0] at H
   by_cases c21 : x21_3 = true
   ·subst c21
    have H1 : (some (a1_0, a1_1, a1_2, a1_3, a1_4)) = some (r1, r2, r3, r4, r5) := by rw [if_pos rfl] at H; exact H
    clear H
    have H := H1
    clear H1
    as_aux_lemma =>
     simp only [Option.some.injEq, Prod.mk.injEq] at H
     obtain ⟨rfl, rfl, rfl, rfl, rfl⟩ := H
     have hnb22 := NB152_151.out
     have hnc22 := NB151_152.out
     have hnb23 := NB152_153.out
     have hnc23 := NB153_152.out
     have hnb24 := NB152_154.out
     have hnc24 := NB154_152.out
     have hcz25_0 : wc.cell? ⟨gb152, 0, none⟩ = some (.int .i64 a1_0) := (blk_cell BK152.out 0).trans rfl
     have hcz25_1 : wc.cell? ⟨gb152, 1, none⟩ = some (.int .i64 a1_1) := (blk_cell BK152.out 1).trans rfl
     have hcz25_2 : wc.cell? ⟨gb152, 2, none⟩ = some (.int .i64 a1_2) := (blk_cell BK152.out 2).trans rfl
     have hcz25_3 : wc.cell? ⟨gb152, 3, none⟩ = some (.int .i64 a1_3) := (blk_cell BK152.out 3).trans rfl
     have hcz25_4 : wc.cell? ⟨gb152, 4, none⟩ = some (.int .i64 a1_4) := (blk_cell BK152.out 4).trans rfl
     have hfz25_0 := blk_frozen BK152.out 0
     have hfz25_1 := blk_frozen BK152.out 1
     have hfz25_2 := blk_frozen BK152.out 2
     have hfz25_3 := blk_frozen BK152.out 3
     have hfz25_4 := blk_frozen BK152.out 4
     have hnb26 := NB154_151.out
     have hnc26 := NB151_154.out
     have hnb27 := NB154_153.out
     have hnc27 := NB153_154.out
     have hcz28_0 : wc.cell? ⟨gb154, 0, none⟩ = some (.int .i64 0) := (blk_cell BK154.out 0).trans rfl
     have hcz28_1 : wc.cell? ⟨gb154, 1, none⟩ = some (.int .i64 0) := (blk_cell BK154.out 1).trans rfl
     have hcz28_2 : wc.cell? ⟨gb154, 2, none⟩ = some (.int .i64 0) := (blk_cell BK154.out 2).trans rfl
     have hcz28_3 : wc.cell? ⟨gb154, 3, none⟩ = some (.int .i64 0) := (blk_cell BK154.out 3).trans rfl
     have hcz28_4 : wc.cell? ⟨gb154, 4, none⟩ = some (.int .i64 0) := (blk_cell BK154.out 4).trans rfl
     have hfz28_0 := blk_frozen BK154.out 0
     have hfz28_1 := blk_frozen BK154.out 1
     have hfz28_2 := blk_frozen BK154.out 2
     have hfz28_3 := blk_frozen BK154.out 3
     have hfz28_4 := blk_frozen BK154.out 4
     go_wp2
     refine bodyPost_ret (results_cell_row rfl _ _ gb154 32 #[.int .i64 a1_0, .int .i64 a1_1, .int .i64 a1_2, .int .i64 a1_3, .int .i64 a1_4] (0, 0) _ rfl (by (with_reducible repeat (first | refine blk_drewN ?_ _ | refine blk_drew ?_ | refine blk_alloc ?_ _)); refine blk_put (cs := #[.int .i64 a1_0, .int .i64 a1_1, .int .i64 a1_2, .int .i64 a1_3, .int .i64 0]) ?_ 4 _ rfl; (with_reducible repeat (first | refine blk_drewN ?_ _ | refine blk_drew ?_ | refine blk_alloc ?_ _)); refine blk_put (cs := #[.int .i64 a1_0, .int .i64 a1_1, .int .i64 a1_2, .int .i64 0, .int .i64 0]) ?_ 3 _ rfl; (with_reducible repeat (first | refine blk_drewN ?_ _ | refine blk_drew ?_ | refine blk_alloc ?_ _)); refine blk_put (cs := #[.int .i64 a1_0, .int .i64 a1_1, .int .i64 0, .int .i64 0, .int .i64 0]) ?_ 2 _ rfl; (with_reducible repeat (first | refine blk_drewN ?_ _ | refine blk_drew ?_ | refine blk_alloc ?_ _)); refine blk_put (cs := #[.int .i64 a1_0, .int .i64 0, .int .i64 0, .int .i64 0, .int .i64 0]) ?_ 1 _ rfl; (with_reducible repeat (first | refine blk_drewN ?_ _ | refine blk_drew ?_ | refine blk_alloc ?_ _)); refine blk_put (cs := #[.int .i64 0, .int .i64 0, .int .i64 0, .int .i64 0, .int .i64 0]) ?_ 0 _ rfl; (with_reducible repeat (first | refine blk_drewN ?_ _ | refine blk_drew ?_ | refine blk_alloc ?_ _)); exact BK154.out) Try.underlying32 rfl (by kernel_rfl)) rfl ?_
     exact ⟨by first | rfl | (simp [errW_none, errW_some] <;> rfl) | (simp [*, errW_none, errW_some] <;> rfl), ahx⟩
   ·replace c21 := Bool.eq_false_iff.mpr c21
    subst c21
    have H1 : (if a1_3 ≤ 0 then (bourneref20_Maybe.j1 kj3 (decide (a1_4 ≥ 0)) a0_0 a0_1 a0_2 a0_3 l0_4 l0_5 l0_6 a0_7 a0_8 a0_9 a0_10 a0_11 a0_12 a0_13 a0_14 a0_15 a0_16 a0_17 a1_0 a1_1 a1_2 a1_3 a1_4 a2_0 a2_1) else (bourneref20_Maybe.j1 kj3 false a0_0 a0_1 a0_2 a0_3 l0_4 l0_5 l0_6 a0_7 a0_8 a0_9 a0_10 a0_11 a0_12 a0_13 a0_14 a0_15 a0_16 a0_17 a1_0 a1_1 a1_2 a1_3 a1_4 a2_0 a2_1)) = some (r1, r2, r3, r4, r5) := by rw [if_neg (show ¬ (false = true) by decide)] at H; exact H
    clear H
    have H := H1
    clear H1
    have HC29 := Aside0.mk H
    clear H
    go_upto_region 3 with (fail)
    go_cut [7] (fun v7 wc => ∃ (kq : Nat) (x7_28 : Bool), v7 = .bool x7_28 ∧ Aside0 (bourneref20_Maybe.j1 kq x7_28 a0_0 a0_1 a0_2 a0_3 l0_4 l0_5 l0_6 a0_7 a0_8 a0_9 a0_10 a0_11 a0_12 a0_13 a0_14 a0_15 a0_16 a0_17 a1_0 a1_1 a1_2 a1_3 a1_4 a2_0 a2_1 = some (r1, r2, r3, r4, r5)) ∧ Aside0 (kq ≤ kj3) ∧ Aside0 (wc.heap[gb151]? = some (.cells #[.string a0_0, .int .i64 a0_1, .int .i64 a0_2, .int .i64 a0_3, (.slice A0_4 l0_4.length c0_4), (.slice A0_5 l0_5.length c0_5), (.slice A0_6 l0_6.length c0_6), .int .i64 a0_7, .int .i64 a0_8, .int .i64 a0_9, .int .i64 a0_10, .int .i64 a0_11, .int .i64 a0_12, .int .i64 a0_13, .int .i64 a0_14, .int .i64 a0_15, .int .i64 a0_16, .int .i64 a0_17] 26 (0, 0))) ∧ Aside0 (wc.heap[gb152]? = some (.cells #[.int .i64 a1_0, .int .i64 a1_1, .int .i64 a1_2, .int .i64 a1_3, .int .i64 a1_4] 32 (0, 0))) ∧ Aside0 (wc.heap[gb153]? = some (.cells #[.int .i64 a2_0, .int .i64 a2_1] 30 (0, 0))) ∧ Aside0 (wc.heap[gb154]? = some (.cells #[.int .i64 0, .int .i64 0, .int .i64 0, .int .i64 0, .int .i64 0] 32 (0, 0))) ∧ Aside0 (Below w.heap.size w wc))
    case first =>
     have H := HC29.out
     clear HC29
     by_cases c30 : a1_3 ≤ 0
     ·rw [if_pos c30] at H
      have c30b0 : decide (a1_3 ≤ 0) = true := decide_eq_true c30
      clear c30
      (first | rw [c30b0] | (simp only [i64_w, i32_w]; rw [c30b0]) | skip)
      as_aux_lemma =>
       have H' := Aside0.mk H
       clear H
       have hnb31 := NB152_151.out
       have hnc31 := NB151_152.out
       have hnb32 := NB152_153.out
       have hnc32 := NB153_152.out
       have hnb33 := NB152_154.out
       have hnc33 := NB154_152.out
       have hcz34_0 : wc.cell? ⟨gb152, 0, none⟩ = some (.int .i64 a1_0) := (blk_cell BK152.out 0).trans rfl
       have hcz34_1 : wc.cell? ⟨gb152, 1, none⟩ = some (.int .i64 a1_1) := (blk_cell BK152.out 1).trans rfl
       have hcz34_2 : wc.cell? ⟨gb152, 2, none⟩ = some (.int .i64 a1_2) := (blk_cell BK152.out 2).trans rfl
       have hcz34_3 : wc.cell? ⟨gb152, 3, none⟩ = some (.int .i64 a1_3) := (blk_cell BK152.out 3).trans rfl
       have hcz34_4 : wc.cell? ⟨gb152, 4, none⟩ = some (.int .i64 a1_4) := (blk_cell BK152.out 4).trans rfl
       have hfz34_0 := blk_frozen BK152.out 0
       have hfz34_1 := blk_frozen BK152.out 1
       have hfz34_2 := blk_frozen BK152.out 2
       have hfz34_3 := blk_frozen BK152.out 3
       have hfz34_4 := blk_frozen BK152.out 4
       go_wp2
       go_meet
       case rel => exact ⟨_, (decide (a1_4 ≥ 0)), (by first | rfl | (simp; done) | (simp [*]; done)), H', ⟨by have := HJ3.out; first | omega | exact Nat.le_refl _⟩, ⟨by (with_reducible repeat (first | refine blk_drewN ?_ _ | refine blk_drew ?_ | refine blk_alloc ?_ _)); exact BK151.out⟩, ⟨by (with_reducible repeat (first | refine blk_drewN ?_ _ | refine blk_drew ?_ | refine blk_alloc ?_ _)); exact BK152.out⟩, ⟨by (with_reducible repeat (first | refine blk_drewN ?_ _ | refine blk_drew ?_ | refine blk_alloc ?_ _)); exact BK153.out⟩, ⟨by (with_reducible repeat (first | refine blk_drewN ?_ _ | refine blk_drew ?_ | refine blk_alloc ?_ _)); exact BK154.out⟩, ⟨ahx⟩⟩
     ·rw [if_neg c30] at H
      have c30b0 : decide (a1_3 ≤ 0) = false := decide_eq_false c30
      clear c30
      (first | rw [c30b0] | (simp only [i64_w, i32_w]; rw [c30b0]) | skip)
      as_aux_lemma =>
       have H' := Aside0.mk H
       clear H
       have hnb35 := NB152_151.out
       have hnc35 := NB151_152.out
       have hnb36 := NB152_153.out
       have hnc36 := NB153_152.out
       have hnb37 := NB152_154.out
       have hnc37 := NB154_152.out
       have hcz38_0 : wc.cell? ⟨gb152, 0, none⟩ = some (.int .i64 a1_0) := (blk_cell BK152.out 0).trans rfl
       have hcz38_1 : wc.cell? ⟨gb152, 1, none⟩ = some (.int .i64 a1_1) := (blk_cell BK152.out 1).trans rfl
       have hcz38_2 : wc.cell? ⟨gb152, 2, none⟩ = some (.int .i64 a1_2) := (blk_cell BK152.out 2).trans rfl
       have hcz38_3 : wc.cell? ⟨gb152, 3, none⟩ = some (.int .i64 a1_3) := (blk_cell BK152.out 3).trans rfl
       have hcz38_4 : wc.cell? ⟨gb152, 4, none⟩ = some (.int .i64 a1_4) := (blk_cell BK152.out 4).trans rfl
       have hfz38_0 := blk_frozen BK152.out 0
       have hfz38_1 := blk_frozen BK152.out 1
       have hfz38_2 := blk_frozen BK152.out 2
       have hfz38_3 := blk_frozen BK152.out 3
       have hfz38_4 := blk_frozen BK152.out 4
       go_wp2
       go_meet
       case rel => exact ⟨_, (false), (by first | rfl | (simp; done) | (simp [*]; done)), H', ⟨by have := HJ3.out; first | omega | exact Nat.le_refl _⟩, ⟨by (with_reducible repeat (first | refine blk_drewN ?_ _ | refine blk_drew ?_ | refine blk_alloc ?_ _)); exact BK151.out⟩, ⟨by (with_reducible repeat (first | refine blk_drewN ?_ _ | refine blk_drew ?_ | refine blk_alloc ?_ _)); exact BK152.out⟩, ⟨by (with_reducible repeat (first | refine blk_drewN ?_ _ | refine blk_drew ?_ | refine blk_alloc ?_ _)); exact BK153.out⟩, ⟨by (with_reducible repeat (first | refine blk_drewN ?_ _ | refine blk_drew ?_ | refine blk_alloc ?_ _)); exact BK154.out⟩, ⟨ahx⟩⟩
    case rest =>
     clear HC29
     try clear c1
     try clear c2
     try clear p2
     try clear c3
     try clear c9
     try clear c9b0
     try clear c9b1
     try clear c10
     try clear c11
     try clear c12
     try clear c14
     try clear c15
     try clear c17
     try clear c18
     try clear c19
     try clear c21
     try clear c22
     try clear c23
     try clear c24
     try clear c26
     try clear c27
     try clear c30
     try clear c30b0
     try clear c31
     try clear c32
     try clear c33
     try clear c35
     try clear c36
     try clear c37
     try clear hcz13_0
     try clear hcz13_1
     try clear hcz13_10
     try clear hcz13_11
     try clear hcz13_12
     try clear hcz13_13
     try clear hcz13_14
     try clear hcz13_15
     try clear hcz13_16
     try clear hcz13_17
     try clear hcz13_2
     try clear hcz13_3
     try clear hcz13_4
     try clear hcz13_5
     try clear hcz13_6
     try clear hcz13_7
     try clear hcz13_8
     try clear hcz13_9
     try clear hcz16_0
     try clear hcz16_1
     try clear hcz20_0
     try clear hcz20_1
     try clear hcz20_10
     try clear hcz20_11
     try clear hcz20_12
     try clear hcz20_13
     try clear hcz20_14
     try clear hcz20_15
     try clear hcz20_16
     try clear hcz20_17
     try clear hcz20_2
     try clear hcz20_3
     try clear hcz20_4
     try clear hcz20_5
     try clear hcz20_6
     try clear hcz20_7
     try clear hcz20_8
     try clear hcz20_9
     try clear hcz25_0
     try clear hcz25_1
     try clear hcz25_2
     try clear hcz25_3
     try clear hcz25_4
     try clear hcz28_0
     try clear hcz28_1
     try clear hcz28_2
     try clear hcz28_3
     try clear hcz28_4
     try clear hcz34_0
     try clear hcz34_1
     try clear hcz34_2
     try clear hcz34_3
     try clear hcz34_4
     try clear hcz38_0
     try clear hcz38_1
     try clear hcz38_2
     try clear hcz38_3
     try clear hcz38_4
     try clear hfz13_0
     try clear hfz13_1
     try clear hfz13_10
     try clear hfz13_11
     try clear hfz13_12
     try clear hfz13_13
     try clear hfz13_14
     try clear hfz13_15
     try clear hfz13_16
     try clear hfz13_17
     try clear hfz13_2
     try clear hfz13_3
     try clear hfz13_4
     try clear hfz13_5
     try clear hfz13_6
     try clear hfz13_7
     try clear hfz13_8
     try clear hfz13_9
     try clear hfz16_0
     try clear hfz16_1
     try clear hfz20_0
     try clear hfz20_1
     try clear hfz20_10
     try clear hfz20_11
     try clear hfz20_12
     try clear hfz20_13
     try clear hfz20_14
     try clear hfz20_15
     try clear hfz20_16
     try clear hfz20_17
     try clear hfz20_2
     try clear hfz20_3
     try clear hfz20_4
     try clear hfz20_5
     try clear hfz20_6
     try clear hfz20_7
     try clear hfz20_8
     try clear hfz20_9
     try clear hfz25_0
     try clear hfz25_1
     try clear hfz25_2
     try clear hfz25_3
     try clear hfz25_4
     try clear hfz28_0
     try clear hfz28_1
     try clear hfz28_2
     try clear hfz28_3
     try clear hfz28_4
     try clear hfz34_0
     try clear hfz34_1
     try clear hfz34_2
     try clear hfz34_3
     try clear hfz34_4
     try clear hfz38_0
     try clear hfz38_1
     try clear hfz38_2
     try clear hfz38_3
     try clear hfz38_4
     try clear p2
     obtain ⟨kq, x7_28, rfl, HA, HJ28, BK151, BK152, BK153, BK154, HB⟩ := hcut
     cases kq with
     | zero => exact absurd HA.out (by simp [bourneref20_Maybe.j1])
     | succ kj28 =>
      have H := HA.out
      clear HA
      simp only [bourneref20_Maybe.j1] at H
      have HC39 := Aside0.mk H
      clear H
      go_upto_region 4 with (fail)
      go_cut [8] (fun v8 wc => ∃ (kq : Nat) (x8_38 : Bool), v8 = .bool x8_38 ∧ Aside0 (bourneref20_Maybe.j2 kq x7_28 x8_38 a0_0 a0_1 a0_2 a0_3 l0_4 l0_5 l0_6 a0_7 a0_8 a0_9 a0_10 a0_11 a0_12 a0_13 a0_14 a0_15 a0_16 a0_17 a1_0 a1_1 a1_2 a1_3 a1_4 a2_0 a2_1 = some (r1, r2, r3, r4, r5)) ∧ Aside0 (kq ≤ kj28) ∧ Aside0 (wc.heap[gb151]? = some (.cells #[.string a0_0, .int .i64 a0_1, .int .i64 a0_2, .int .i64 a0_3, (.slice A0_4 l0_4.length c0_4), (.slice A0_5 l0_5.length c0_5), (.slice A0_6 l0_6.length c0_6), .int .i64 a0_7, .int .i64 a0_8, .int .i64 a0_9, .int .i64 a0_10, .int .i64 a0_11, .int .i64 a0_12, .int .i64 a0_13, .int .i64 a0_14, .int .i64 a0_15, .int .i64 a0_16, .int .i64 a0_17] 26 (0, 0))) ∧ Aside0 (wc.heap[gb152]? = some (.cells #[.int .i64 a1_0, .int .i64 a1_1, .int .i64 a1_2, .int .i64 a1_3, .int .i64 a1_4] 32 (0, 0))) ∧ Aside0 (wc.heap[gb153]? = some (.cells #[.int .i64 a2_0, .int .i64 a2_1] 30 (0, 0))) ∧ Aside0 (wc.heap[gb154]? = some (.cells #[.int .i64 0, .int .i64 0, .int .i64 0, .int .i64 0, .int .i64 0] 32 (0, 0))) ∧ Aside0 (Below w.heap.size w wc))
      case first =>
       have H := HC39.out
       clear HC39
       by_cases c40 : a1_3 ≤ 1
       ·rw [if_pos c40] at H
        have c40b0 : decide (a1_3 ≤ 1) = true := decide_eq_true c40
        clear c40
        (first | rw [c40b0] | (simp only [i64_w, i32_w]; rw [c40b0]) | skip)
        as_aux_lemma =>
         have H' := Aside0.mk H
         clear H
         have hnb41 := NB152_151.out
         have hnc41 := NB151_152.out
         have hnb42 := NB152_153.out
         have hnc42 := NB153_152.out
         have hnb43 := NB152_154.out
         have hnc43 := NB154_152.out
         have hcz44_0 : wc.cell? ⟨gb152, 0, none⟩ = some (.int .i64 a1_0) := (blk_cell BK152.out 0).trans rfl
         have hcz44_1 : wc.cell? ⟨gb152, 1, none⟩ = some (.int .i64 a1_1) := (blk_cell BK152.out 1).trans rfl
         have hcz44_2 : wc.cell? ⟨gb152, 2, none⟩ = some (.int .i64 a1_2) := (blk_cell BK152.out 2).trans rfl
         have hcz44_3 : wc.cell? ⟨gb152, 3, none⟩ = some (.int .i64 a1_3) := (blk_cell BK152.out 3).trans rfl
         have hcz44_4 : wc.cell? ⟨gb152, 4, none⟩ = some (.int .i64 a1_4) := (blk_cell BK152.out 4).trans rfl
         have hfz44_0 := blk_frozen BK152.out 0
         have hfz44_1 := blk_frozen BK152.out 1
         have hfz44_2 := blk_frozen BK152.out 2
         have hfz44_3 := blk_frozen BK152.out 3
         have hfz44_4 := blk_frozen BK152.out 4
         go_wp2
         go_meet
         case rel => exact ⟨_, (decide (a1_4 ≥ 1)), (by first | rfl | (simp; done) | (simp [*]; done)), H', ⟨by have := HJ3.out; have := HJ28.out; first | omega | exact Nat.le_refl _⟩, ⟨by (with_reducible repeat (first | refine blk_drewN ?_ _ | refine blk_drew ?_ | refine blk_alloc ?_ _)); exact BK151.out⟩, ⟨by (with_reducible repeat (first | refine blk_drewN ?_ _ | refine blk_drew ?_ | refine blk_alloc ?_ _)); exact BK152.out⟩, ⟨by (with_reducible repeat (first | refine blk_drewN ?_ _ | refine blk_drew ?_ | refine blk_alloc ?_ _)); exact BK153.out⟩, ⟨by (with_reducible repeat (first | refine blk_drewN ?_ _ | refine blk_drew ?_ | refine blk_alloc ?_ _)); exact BK154.out⟩, ⟨ahx⟩⟩
       ·rw [if_neg c40] at H
        have c40b0 : decide (a1_3 ≤ 1) = false := decide_eq_false c40
        clear c40
        (first | rw [c40b0] | (simp only [i64_w, i32_w]; rw [c40b0]) | skip)
        as_aux_lemma =>
         have H' := Aside0.mk H
         clear H
         have hnb45 := NB152_151.out
         have hnc45 := NB151_152.out
         have hnb46 := NB152_153.out
         have hnc46 := NB153_152.out
         have hnb47 := NB152_154.out
         have hnc47 := NB154_152.out
         have hcz48_0 : wc.cell? ⟨gb152, 0, none⟩ = some (.int .i64 a1_0) := (blk_cell BK152.out 0).trans rfl
         have hcz48_1 : wc.cell? ⟨gb152, 1, none⟩ = some (.int .i64 a1_1) := (blk_cell BK152.out 1).trans rfl
         have hcz48_2 : wc.cell? ⟨gb152, 2, none⟩ = some (.int .i64 a1_2) := (blk_cell BK152.out 2).trans rfl
         have hcz48_3 : wc.cell? ⟨gb152, 3, none⟩ = some (.int .i64 a1_3) := (blk_cell BK152.out 3).trans rfl
         have hcz48_4 : wc.cell? ⟨gb152, 4, none⟩ = some (.int .i64 a1_4) := (blk_cell BK152.out 4).trans rfl
         have hfz48_0 := blk_frozen BK152.out 0
         have hfz48_1 := blk_frozen BK152.out 1
         have hfz48_2 := blk_frozen BK152.out 2
         have hfz48_3 := blk_frozen BK152.out 3
         have hfz48_4 := blk_frozen BK152.out 4
         go_wp2
         go_meet
         case rel => exact ⟨_, (false), (by first | rfl | (simp; done) | (simp [*]; done)), H', ⟨by have := HJ3.out; have := HJ28.out; first | omega | exact Nat.le_refl _⟩, ⟨by (with_reducible repeat (first | refine blk_drewN ?_ _ | refine blk_drew ?_ | refine blk_alloc ?_ _)); exact BK151.out⟩, ⟨by (with_reducible repeat (first | refine blk_drewN ?_ _ | refine blk_drew ?_ | refine blk_alloc ?_ _)); exact BK152.out⟩, ⟨by (with_reducible repeat (first | refine blk_drewN ?_ _ | refine blk_drew ?_ | refine blk_alloc ?_ _)); exact BK153.out⟩, ⟨by (with_reducible repeat (first | refine blk_drewN ?_ _ | refine blk_drew ?_ | refine blk_alloc ?_ _)); exact BK154.out⟩, ⟨ahx⟩⟩
      case rest =>
       clear HC39
       try clear c1
       try clear c2
       try clear p2
       try clear c3
       try clear c4
       try clear c9
       try clear c9b0
       try clear c9b1
       try clear c10
       try clear c11
       try clear c12
       try clear c14
       try clear c15
       try clear c17
       try clear c18
       try clear c19
       try clear c21
       try clear c22
       try clear c23
       try clear c24
       try clear c26
       try clear c27
       try clear c30
       try clear c30b0
       try clear c31
       try clear c32
       try clear c33
       try clear c35
       try clear c36
       try clear c37
       try clear c40
       try clear c40b0
       try clear c41
       try clear c42
       try clear c43
       try clear c45
       try clear c46
       try clear c47
       try clear hcz13_0
       try clear hcz13_1
       try clear hcz13_10
       try clear hcz13_11
       try clear hcz13_12
       try clear hcz13_13
       try clear hcz13_14
       try clear hcz13_15
       try clear hcz13_16
       try clear hcz13_17
       try clear hcz13_2
       try clear hcz13_3
       try clear hcz13_4
       try clear hcz13_5
       try clear hcz13_6
       try clear hcz13_7
       try clear hcz13_8
       try clear hcz13_9
       try clear hcz16_0
       try clear hcz16_1
       try clear hcz20_0
       try clear hcz20_1
       try clear hcz20_10
       try clear hcz20_11
       try clear hcz20_12
       try clear hcz20_13
       try clear hcz20_14
       try clear hcz20_15
       try clear hcz20_16
       try clear hcz20_17
       try clear hcz20_2
       try clear hcz20_3
       try clear hcz20_4
       try clear hcz20_5
       try clear hcz20_6
       try clear hcz20_7
       try clear hcz20_8
       try clear hcz20_9
       try clear hcz25_0
       try clear hcz25_1
       try clear hcz25_2
       try clear hcz25_3
       try clear hcz25_4
       try clear hcz28_0
       try clear hcz28_1
       try clear hcz28_2
       try clear hcz28_3
       try clear hcz28_4
       try clear hcz34_0
       try clear hcz34_1
       try clear hcz34_2
       try clear hcz34_3
       try clear hcz34_4
       try clear hcz38_0
       try clear hcz38_1
       try clear hcz38_2
       try clear hcz38_3
       try clear hcz38_4
       try clear hcz44_0
       try clear hcz44_1
       try clear hcz44_2
       try clear hcz44_3
       try clear hcz44_4
       try clear hcz48_0
       try clear hcz48_1
       try clear hcz48_2
       try clear hcz48_3
       try clear hcz48_4
       try clear hfz13_0
       try clear hfz13_1
       try clear hfz13_10
       try clear hfz13_11
       try clear hfz13_12
       try clear hfz13_13
       try clear hfz13_14
       try clear hfz13_15
       try clear hfz13_16
       try clear hfz13_17
       try clear hfz13_2
       try clear hfz13_3
       try clear hfz13_4
       try clear hfz13_5
       try clear hfz13_6
       try clear hfz13_7
       try clear hfz13_8
       try clear hfz13_9
       try clear hfz16_0
       try clear hfz16_1
       try clear hfz20_0
       try clear hfz20_1
       try clear hfz20_10
       try clear hfz20_11
       try clear hfz20_12
       try clear hfz20_13
       try clear hfz20_14
       try clear hfz20_15
       try clear hfz20_16
       try clear hfz20_17
       try clear hfz20_2
       try clear hfz20_3
       try clear hfz20_4
       try clear hfz20_5
       try clear hfz20_6
       try clear hfz20_7
       try clear hfz20_8
       try clear hfz20_9
       try clear hfz25_0
       try clear hfz25_1
       try clear hfz25_2
       try clear hfz25_3
       try clear hfz25_4
       try clear hfz28_0
       try clear hfz28_1
       try clear hfz28_2
       try clear hfz28_3
       try clear hfz28_4
       try clear hfz34_0
       try clear hfz34_1
       try clear hfz34_2
       try clear hfz34_3
       try clear hfz34_4
       try clear hfz38_0
       try clear hfz38_1
       try clear hfz38_2
       try clear hfz38_3
       try clear hfz38_4
       try clear hfz44_0
       try clear hfz44_1
       try clear hfz44_2
       try clear hfz44_3
       try clear hfz44_4
       try clear hfz48_0
       try clear hfz48_1
       try clear hfz48_2
       try clear hfz48_3
       try clear hfz48_4
       try clear p2
       obtain ⟨kq, x8_38, rfl, HA, HJ38, BK151, BK152, BK153, BK154, HB⟩ := hcut
       cases kq with
       | zero => exact absurd HA.out (by simp [bourneref20_Maybe.j2])
       | succ kj38 =>
        have H := HA.out
        clear HA
        simp only [bourneref20_Maybe.j2] at H
        have HC49 := Aside0.mk H
        clear H
        go_upto_region 5 with (fail)
        go_cut [48] (fun v48 wc => ∃ (kq : Nat) (x48_48 : Bool), v48 = .bool x48_48 ∧ Aside0 (bourneref20_Maybe.j3 kq x7_28 x8_38 x48_48 a0_0 a0_1 a0_2 a0_3 l0_4 l0_5 l0_6 a0_7 a0_8 a0_9 a0_10 a0_11 a0_12 a0_13 a0_14 a0_15 a0_16 a0_17 a1_0 a1_1 a1_2 a1_3 a1_4 a2_0 a2_1 = some (r1, r2, r3, r4, r5)) ∧ Aside0 (kq ≤ kj38) ∧ Aside0 (wc.heap[gb151]? = some (.cells #[.string a0_0, .int .i64 a0_1, .int .i64 a0_2, .int .i64 a0_3, (.slice A0_4 l0_4.length c0_4), (.slice A0_5 l0_5.length c0_5), (.slice A0_6 l0_6.length c0_6), .int .i64 a0_7, .int .i64 a0_8, .int .i64 a0_9, .int .i64 a0_10, .int .i64 a0_11, .int .i64 a0_12, .int .i64 a0_13, .int .i64 a0_14, .int .i64 a0_15, .int .i64 a0_16, .int .i64 a0_17] 26 (0, 0))) ∧ Aside0 (wc.heap[gb152]? = some (.cells #[.int .i64 a1_0, .int .i64 a1_1, .int .i64 a1_2, .int .i64 a1_3, .int .i64 a1_4] 32 (0, 0))) ∧ Aside0 (wc.heap[gb153]? = some (.cells #[.int .i64 a2_0, .int .i64 a2_1] 30 (0, 0))) ∧ Aside0 (wc.heap[gb154]? = some (.cells #[.int .i64 0, .int .i64 0, .int .i64 0, .int .i64 0, .int .i64 0] 32 (0, 0))) ∧ Aside0 (Below w.heap.size w wc))
        case first =>
         have H := HC49.out
         clear HC49
         by_cases c50 : x7_28 = true
         ·subst c50
          have H1 : (bourneref20_Maybe.j3 kj38 true x8_38 false a0_0 a0_1 a0_2 a0_3 l0_4 l0_5 l0_6 a0_7 a0_8 a0_9 a0_10 a0_11 a0_12 a0_13 a0_14 a0_15 a0_16 a0_17 a1_0 a1_1 a1_2 a1_3 a1_4 a2_0 a2_1) = some (r1, r2, r3, r4, r5) := by rw [if_pos rfl] at H; exact H
          clear H
          have H := H1
          clear H1
          as_aux_lemma =>
           have H' := Aside0.mk H
           clear H
           go_wp2
           go_meet
           case rel => exact ⟨_, (false), (by first | rfl | (simp; done) | (simp [*]; done)), H', ⟨by have := HJ3.out; have := HJ28.out; have := HJ38.out; first | omega | exact Nat.le_refl _⟩, ⟨by (with_reducible repeat (first | refine blk_drewN ?_ _ | refine blk_drew ?_ | refine blk_alloc ?_ _)); exact BK151.out⟩, ⟨by (with_reducible repeat (first | refine blk_drewN ?_ _ | refine blk_drew ?_ | refine blk_alloc ?_ _)); exact BK152.out⟩, ⟨by (with_reducible repeat (first | refine blk_drewN ?_ _ | refine blk_drew ?_ | refine blk_alloc ?_ _)); exact BK153.out⟩, ⟨by (with_reducible repeat (first | refine blk_drewN ?_ _ | refine blk_drew ?_ | refine blk_alloc ?_ _)); exact BK154.out⟩, ⟨ahx⟩⟩
         ·replace c50 := Bool.eq_false_iff.mpr c50
          subst c50
          have H1 : (bourneref20_Maybe.j3 kj38 false x8_38 (!x8_38) a0_0 a0_1 a0_2 a0_3 l0_4 l0_5 l0_6 a0_7 a0_8 a0_9 a0_10 a0_11 a0_12 a0_13 a0_14 a0_15 a0_16 a0_17 a1_0 a1_1 a1_2 a1_3 a1_4 a2_0 a2_1) = some (r1, r2, r3, r4, r5) := by rw [if_neg (show ¬ (false = true) by decide)] at H; exact H
          clear H
          have H := H1
          clear H1
          as_aux_lemma =>
           have H' := Aside0.mk H
           clear H
           go_wp2
           go_meet
           case rel => exact ⟨_, (!x8_38), (by first | rfl | (simp; done) | (simp [*]; done)), H', ⟨by have := HJ3.out; have := HJ28.out; have := HJ38.out; first | omega | exact Nat.le_refl _⟩, ⟨by (with_reducible repeat (first | refine blk_drewN ?_ _ | refine blk_drew ?_ | refine blk_alloc ?_ _)); exact BK151.out⟩, ⟨by (with_reducible repeat (first | refine blk_drewN ?_ _ | refine blk_drew ?_ | refine blk_alloc ?_ _)); exact BK152.out⟩, ⟨by (with_reducible repeat (first | refine blk_drewN ?_ _ | refine blk_drew ?_ | refine blk_alloc ?_ _)); exact BK153.out⟩, ⟨by (with_reducible repeat (first | refine blk_drewN ?_ _ | refine blk_drew ?_ | refine blk_alloc ?_ _)); exact BK154.out⟩, ⟨ahx⟩⟩
        case rest =>
         clear HC49
         try clear c1
         try clear c2
         try clear p2
         try clear c3
         try clear c4
         try clear c5
         try clear c9
         try clear c9b0
         try clear c9b1
         try clear c10
         try clear c11
         try clear c12
         try clear c14
         try clear c15
         try clear c17
         try clear c18
         try clear c19
         try clear c21
         try clear c22
         try clear c23
         try clear c24
         try clear c26
         try clear c27
         try clear c30
         try clear c30b0
         try clear c31
         try clear c32
         try clear c33
         try clear c35
         try clear c36
         try clear c37
         try clear c40
         try clear c40b0
         try clear c41
         try clear c42
         try clear c43
         try clear c45
         try clear c46
         try clear c47
         try clear c50
         try clear hcz13_0
         try clear hcz13_1
         try clear hcz13_10
         try clear hcz13_11
         try clear hcz13_12
         try clear hcz13_13
         try clear hcz13_14
         try clear hcz13_15
         try clear hcz13_16
         try clear hcz13_17
         try clear hcz13_2
         try clear hcz13_3
         try clear hcz13_4
         try clear hcz13_5
         try clear hcz13_6
         try clear hcz13_7
         try clear hcz13_8
         try clear hcz13_9
         try clear hcz16_0
         try clear hcz16_1
         try clear hcz20_0
         try clear hcz20_1
         try clear hcz20_10
         try clear hcz20_11
         try clear hcz20_12
         try clear hcz20_13
         try clear hcz20_14
         try clear hcz20_15
         try clear hcz20_16
         try clear hcz20_17
         try clear hcz20_2
         try clear hcz20_3
         try clear hcz20_4
         try clear hcz20_5
         try clear hcz20_6
         try clear hcz20_7
         try clear hcz20_8
         try clear hcz20_9
         try clear hcz25_0
         try clear hcz25_1
         try clear hcz25_2
         try clear hcz25_3
         try clear hcz25_4
         try clear hcz28_0
         try clear hcz28_1
         try clear hcz28_2
         try clear hcz28_3
         try clear hcz28_4
         try clear hcz34_0
         try clear hcz34_1
         try clear hcz34_2
         try clear hcz34_3
         try clear hcz34_4
         try clear hcz38_0
         try clear hcz38_1
         try clear hcz38_2
         try clear hcz38_3
         try clear hcz38_4
         try clear hcz44_0
         try clear hcz44_1
         try clear hcz44_2
         try clear hcz44_3
         try clear hcz44_4
         try clear hcz48_0
         try clear hcz48_1
         try clear hcz48_2
         try clear hcz48_3
         try clear hcz48_4
         try clear hfz13_0
         try clear hfz13_1
         try clear hfz13_10
         try clear hfz13_11
         try clear hfz13_12
         try clear hfz13_13
         try clear hfz13_14
         try clear hfz13_15
         try clear hfz13_16
         try clear hfz13_17
         try clear hfz13_2
         try clear hfz13_3
         try clear hfz13_4
         try clear hfz13_5
         try clear hfz13_6
         try clear hfz13_7
         try clear hfz13_8
         try clear hfz13_9
         try clear hfz16_0
         try clear hfz16_1
         try clear hfz20_0
         try clear hfz20_1
         try clear hfz20_10
         try clear hfz20_11
         try clear hfz20_12
         try clear hfz20_13
         try clear hfz20_14
         try clear hfz20_15
         try clear hfz20_16
         try clear hfz20_17
         try clear hfz20_2
         try clear hfz20_3
         try clear hfz20_4
         try clear hfz20_5
         try clear hfz20_6
         try clear hfz20_7
         try clear hfz20_8
         try clear hfz20_9
         try clear hfz25_0
         try clear hfz25_1
         try clear hfz25_2
         try clear hfz25_3
         try clear hfz25_4
         try clear hfz28_0
         try clear hfz28_1
         try clear hfz28_2
         try clear hfz28_3
         try clear hfz28_4
         try clear hfz34_0
         try clear hfz34_1
         try clear hfz34_2
         try clear hfz34_3
         try clear hfz34_4
         try clear hfz38_0
         try clear hfz38_1
         try clear hfz38_2
         try clear hfz38_3
         try clear hfz38_4
         try clear hfz44_0
         try clear hfz44_1
         try clear hfz44_2
         try clear hfz44_3
         try clear hfz44_4
         try clear hfz48_0
         try clear hfz48_1
         try clear hfz48_2
         try clear hfz48_3
         try clear hfz48_4
         try clear p2
         obtain ⟨kq, x48_48, rfl, HA, HJ48, BK151, BK152, BK153, BK154, HB⟩ := hcut
         cases kq with
         | zero => exact absurd HA.out (by simp [bourneref20_Maybe.j3])
         | succ kj48 =>
          have H := HA.out
          clear HA
          simp only [bourneref20_Maybe.j3] at H
          by_cases c51 : x48_48 = true
          ·subst c51
           have H1 : (some (a1_0, a1_1, a1_2, a1_3, a1_4)) = some (r1, r2, r3, r4, r5) := by rw [if_pos rfl] at H; exact H
           clear H
           have H := H1
           clear H1
           as_aux_lemma =>
            simp only [Option.some.injEq, Prod.mk.injEq] at H
            obtain ⟨rfl, rfl, rfl, rfl, rfl⟩ := H
            have hnb52 := NB152_151.out
            have hnc52 := NB151_152.out
            have hnb53 := NB152_153.out
            have hnc53 := NB153_152.out
            have hnb54 := NB152_154.out
            have hnc54 := NB154_152.out
            have hcz55_0 : wc.cell? ⟨gb152, 0, none⟩ = some (.int .i64 a1_0) := (blk_cell BK152.out 0).trans rfl
            have hcz55_1 : wc.cell? ⟨gb152, 1, none⟩ = some (.int .i64 a1_1) := (blk_cell BK152.out 1).trans rfl
            have hcz55_2 : wc.cell? ⟨gb152, 2, none⟩ = some (.int .i64 a1_2) := (blk_cell BK152.out 2).trans rfl
            have hcz55_3 : wc.cell? ⟨gb152, 3, none⟩ = some (.int .i64 a1_3) := (blk_cell BK152.out 3).trans rfl
            have hcz55_4 : wc.cell? ⟨gb152, 4, none⟩ = some (.int .i64 a1_4) := (blk_cell BK152.out 4).trans rfl
            have hfz55_0 := blk_frozen BK152.out 0
            have hfz55_1 := blk_frozen BK152.out 1
            have hfz55_2 := blk_frozen BK152.out 2
            have hfz55_3 := blk_frozen BK152.out 3
            have hfz55_4 := blk_frozen BK152.out 4
            have hnb56 := NB154_151.out
            have hnc56 := NB151_154.out
            have hnb57 := NB154_153.out
            have hnc57 := NB153_154.out
            have hcz58_0 : wc.cell? ⟨gb154, 0, none⟩ = some (.int .i64 0) := (blk_cell BK154.out 0).trans rfl
            have hcz58_1 : wc.cell? ⟨gb154, 1, none⟩ = some (.int .i64 0) := (blk_cell BK154.out 1).trans rfl
            have hcz58_2 : wc.cell? ⟨gb154, 2, none⟩ = some (.int .i64 0) := (blk_cell BK154.out 2).trans rfl
            have hcz58_3 : wc.cell? ⟨gb154, 3, none⟩ = some (.int .i64 0) := (blk_cell BK154.out 3).trans rfl
            have hcz58_4 : wc.cell? ⟨gb154, 4, none⟩ = some (.int .i64 0) := (blk_cell BK154.out 4).trans rfl
            have hfz58_0 := blk_frozen BK154.out 0
            have hfz58_1 := blk_frozen BK154.out 1
            have hfz58_2 := blk_frozen BK154.out 2
            have hfz58_3 := blk_frozen BK154.out 3
            have hfz58_4 := blk_frozen BK154.out 4
            go_wp2
            refine bodyPost_ret (results_cell_row rfl _ _ gb154 32 #[.int .i64 a1_0, .int .i64 a1_1, .int .i64 a1_2, .int .i64 a1_3, .int .i64 a1_4] (0, 0) _ rfl (by (with_reducible repeat (first | refine blk_drewN ?_ _ | refine blk_drew ?_ | refine blk_alloc ?_ _)); refine blk_put (cs := #[.int .i64 a1_0, .int .i64 a1_1, .int .i64 a1_2, .int .i64 a1_3, .int .i64 0]) ?_ 4 _ rfl; (with_reducible repeat (first | refine blk_drewN ?_ _ | refine blk_drew ?_ | refine blk_alloc ?_ _)); refine blk_put (cs := #[.int .i64 a1_0, .int .i64 a1_1, .int .i64 a1_2, .int .i64 0, .int .i64 0]) ?_ 3 _ rfl; (with_reducible repeat (first | refine blk_drewN ?_ _ | refine blk_drew ?_ | refine blk_alloc ?_ _)); refine blk_put (cs := #[.int .i64 a1_0, .int .i64 a1_1, .int .i64 0, .int .i64 0, .int .i64 0]) ?_ 2 _ rfl; (with_reducible repeat (first | refine blk_drewN ?_ _ | refine blk_drew ?_ | refine blk_alloc ?_ _)); refine blk_put (cs := #[.int .i64 a1_0, .int .i64 0, .int .i64 0, .int .i64 0, .int .i64 0]) ?_ 1 _ rfl; (with_reducible repeat (first | refine blk_drewN ?_ _ | refine blk_drew ?_ | refine blk_alloc ?_ _)); refine blk_put (cs := #[.int .i64 0, .int .i64 0, .int .i64 0, .int .i64 0, .int .i64 0]) ?_ 0 _ rfl; (with_reducible repeat (first | refine blk_drewN ?_ _ | refine blk_drew ?_ | refine blk_alloc ?_ _)); exact BK154.out) Try.underlying32 rfl (by kernel_rfl)) rfl ?_
            exact ⟨by first | rfl | (simp [errW_none, errW_some] <;> rfl) | (simp [*, errW_none, errW_some] <;> rfl), ahx⟩
          ·replace c51 := Bool.eq_false_iff.mpr c51
           subst c51
           have H1 : (if a2_0 ≤ a0_14 then (bourneref20_Maybe.j4 kj48 x7_28 x8_38 (decide (a2_1 ≥ a0_13)) (decide (a2_0 < a0_13)) a0_0 a0_1 a0_2 a0_3 l0_4 l0_5 l0_6 a0_7 a0_8 a0_9 a0_10 a0_11 a0_12 a0_13 a0_14 a0_15 a0_16 a0_17 a1_0 a1_1 a1_2 a1_3 a1_4 a2_0 a2_1) else (bourneref20_Maybe.j4 kj48 x7_28 x8_38 (decide (a2_1 ≥ a0_13)) false a0_0 a0_1 a0_2 a0_3 l0_4 l0_5 l0_6 a0_7 a0_8 a0_9 a0_10 a0_11 a0_12 a0_13 a0_14 a0_15 a0_16 a0_17 a1_0 a1_1 a1_2 a1_3 a1_4 a2_0 a2_1)) = some (r1, r2, r3, r4, r5) := by rw [if_neg (show ¬ (false = true) by decide)] at H; exact H
           clear H
           have H := H1
           clear H1
           have HC59 := Aside0.mk H
           clear H
           have hnb60 := NB153_151.out
           have hnc60 := NB151_153.out
           have hnb61 := NB153_152.out
           have hnc61 := NB152_153.out
           have hnb62 := NB153_154.out
           have hnc62 := NB154_153.out
           have hcz63_0 : wc.cell? ⟨gb153, 0, none⟩ = some (.int .i64 a2_0) := (blk_cell BK153.out 0).trans rfl
           have hcz63_1 : wc.cell? ⟨gb153, 1, none⟩ = some (.int .i64 a2_1) := (blk_cell BK153.out 1).trans rfl
           have hfz63_0 := blk_frozen BK153.out 0
           have hfz63_1 := blk_frozen BK153.out 1
           have hnb64 := NB151_152.out
           have hnc64 := NB152_151.out
           have hnb65 := NB151_154.out
           have hnc65 := NB154_151.out
           have hcz66_0 : wc.cell? ⟨gb151, 0, none⟩ = some (.string a0_0) := (blk_cell BK151.out 0).trans rfl
           have hcz66_1 : wc.cell? ⟨gb151, 1, none⟩ = some (.int .i64 a0_1) := (blk_cell BK151.out 1).trans rfl
           have hcz66_2 : wc.cell? ⟨gb151, 2, none⟩ = some (.int .i64 a0_2) := (blk_cell BK151.out 2).trans rfl
           have hcz66_3 : wc.cell? ⟨gb151, 3, none⟩ = some (.int .i64 a0_3) := (blk_cell BK151.out 3).trans rfl
           have hcz66_4 : wc.cell? ⟨gb151, 4, none⟩ = some (.slice A0_4 l0_4.length c0_4) := (blk_cell BK151.out 4).trans rfl
           have hcz66_5 : wc.cell? ⟨gb151, 5, none⟩ = some (.slice A0_5 l0_5.length c0_5) := (blk_cell BK151.out 5).trans rfl
           have hcz66_6 : wc.cell? ⟨gb151, 6, none⟩ = some (.slice A0_6 l0_6.length c0_6) := (blk_cell BK151.out 6).trans rfl
           have hcz66_7 : wc.cell? ⟨gb151, 7, none⟩ = some (.int .i64 a0_7) := (blk_cell BK151.out 7).trans rfl
           have hcz66_8 : wc.cell? ⟨gb151, 8, none⟩ = some (.int .i64 a0_8) := (blk_cell BK151.out 8).trans rfl
           have hcz66_9 : wc.cell? ⟨gb151, 9, none⟩ = some (.int .i64 a0_9) := (blk_cell BK151.out 9).trans rfl
           have hcz66_10 : wc.cell? ⟨gb151, 10, none⟩ = some (.int .i64 a0_10) := (blk_cell BK151.out 10).trans rfl
           have hcz66_11 : wc.cell? ⟨gb151, 11, none⟩ = some (.int .i64 a0_11) := (blk_cell BK151.out 11).trans rfl
           have hcz66_12 : wc.cell? ⟨gb151, 12, none⟩ = some (.int .i64 a0_12) := (blk_cell BK151.out 12).trans rfl
           have hcz66_13 : wc.cell? ⟨gb151, 13, none⟩ = some (.int .i64 a0_13) := (blk_cell BK151.out 13).trans rfl
           have hcz66_14 : wc.cell? ⟨gb151, 14, none⟩ = some (.int .i64 a0_14) := (blk_cell BK151.out 14).trans rfl
           have hcz66_15 : wc.cell? ⟨gb151, 15, none⟩ = some (.int .i64 a0_15) := (blk_cell BK151.out 15).trans rfl
           have hcz66_16 : wc.cell? ⟨gb151, 16, none⟩ = some (.int .i64 a0_16) := (blk_cell BK151.out 16).trans rfl
           have hcz66_17 : wc.cell? ⟨gb151, 17, none⟩ = some (.int .i64 a0_17) := (blk_cell BK151.out 17).trans rfl
           have hfz66_0 := blk_frozen BK151.out 0
           have hfz66_1 := blk_frozen BK151.out 1
           have hfz66_2 := blk_frozen BK151.out 2
           have hfz66_3 := blk_frozen BK151.out 3
           have hfz66_4 := blk_frozen BK151.out 4
           have hfz66_5 := blk_frozen BK151.out 5
           have hfz66_6 := blk_frozen BK151.out 6
           have hfz66_7 := blk_frozen BK151.out 7
           have hfz66_8 := blk_frozen BK151.out 8
           have hfz66_9 := blk_frozen BK151.out 9
           have hfz66_10 := blk_frozen BK151.out 10
           have hfz66_11 := blk_frozen BK151.out 11
           have hfz66_12 := blk_frozen BK151.out 12
           have hfz66_13 := blk_frozen BK151.out 13
           have hfz66_14 := blk_frozen BK151.out 14
           have hfz66_15 := blk_frozen BK151.out 15
           have hfz66_16 := blk_frozen BK151.out 16
           have hfz66_17 := blk_frozen BK151.out 17
           go_upto_region 8 with (fail)
           go_cut [10] (fun v10 wc => ∃ (kq : Nat) (x10_58 : Bool), v10 = .bool x10_58 ∧ Aside0 (bourneref20_Maybe.j4 kq x7_28 x8_38 (decide (a2_1 ≥ a0_13)) x10_58 a0_0 a0_1 a0_2 a0_3 l0_4 l0_5 l0_6 a0_7 a0_8 a0_9 a0_10 a0_11 a0_12 a0_13 a0_14 a0_15 a0_16 a0_17 a1_0 a1_1 a1_2 a1_3 a1_4 a2_0 a2_1 = some (r1, r2, r3, r4, r5)) ∧ Aside0 (kq ≤ kj48) ∧ Aside0 (wc.heap[gb151]? = some (.cells #[.string a0_0, .int .i64 a0_1, .int .i64 a0_2, .int .i64 a0_3, (.slice A0_4 l0_4.length c0_4), (.slice A0_5 l0_5.length c0_5), (.slice A0_6 l0_6.length c0_6), .int .i64 a0_7, .int .i64 a0_8, .int .i64 a0_9, .int .i64 a0_10, .int .i64 a0_11, .int .i64 a0_12, .int .i64 a0_13, .int .i64 a0_14, .int .i64 a0_15, .int .i64 a0_16, .int .i64 a0_17] 26 (0, 0))) ∧ Aside0 (wc.heap[gb152]? = some (.cells #[.int .i64 a1_0, .int .i64 a1_1, .int .i64 a1_2, .int .i64 a1_3, .int .i64 a1_4] 32 (0, 0))) ∧ Aside0 (wc.heap[gb153]? = some (.cells #[.int .i64 a2_0, .int .i64 a2_1] 30 (0, 0))) ∧ Aside0 (wc.heap[gb154]? = some (.cells #[.int .i64 0, .int .i64 0, .int .i64 0, .int .i64 0, .int .i64 0] 32 (0, 0))) ∧ Aside0 (Below w.heap.size w wc))
           case first =>
            have H := HC59.out
            clear HC59
            by_cases c67 : a2_0 ≤ a0_14
            ·rw [if_pos c67] at H
             have c67b0 : decide (a2_0 ≤ a0_14) = true := decide_eq_true c67
             clear c67
             (first | rw [c67b0] | (simp only [i64_w, i32_w]; rw [c67b0]) | skip)
             as_aux_lemma =>
              have H' := Aside0.mk H
              clear H
              have hnb68 := NB153_151.out
              have hnc68 := NB151_153.out
              have hnb69 := NB153_152.out
              have hnc69 := NB152_153.out
              have hnb70 := NB153_154.out
              have hnc70 := NB154_153.out
              have hcz71_0 : wc.cell? ⟨gb153, 0, none⟩ = some (.int .i64 a2_0) := (blk_cell BK153.out 0).trans rfl
              have hcz71_1 : wc.cell? ⟨gb153, 1, none⟩ = some (.int .i64 a2_1) := (blk_cell BK153.out 1).trans rfl
              have hfz71_0 := blk_frozen BK153.out 0
              have hfz71_1 := blk_frozen BK153.out 1
              have hnb72 := NB151_152.out
              have hnc72 := NB152_151.out
              have hnb73 := NB151_154.out
              have hnc73 := NB154_151.out
              have hcz74_0 : wc.cell? ⟨gb151, 0, none⟩ = some (.string a0_0) := (blk_cell BK151.out 0).trans rfl
              have hcz74_1 : wc.cell? ⟨gb151, 1, none⟩ = some (.int .i64 a0_1) := (blk_cell BK151.out 1).trans rfl
              have hcz74_2 : wc.cell? ⟨gb151, 2, none⟩ = some (.int .i64 a0_2) := (blk_cell BK151.out 2).trans rfl
              have hcz74_3 : wc.cell? ⟨gb151, 3, none⟩ = some (.int .i64 a0_3) := (blk_cell BK151.out 3).trans rfl
              have hcz74_4 : wc.cell? ⟨gb151, 4, none⟩ = some (.slice A0_4 l0_4.length c0_4) := (blk_cell BK151.out 4).trans rfl
              have hcz74_5 : wc.cell? ⟨gb151, 5, none⟩ = some (.slice A0_5 l0_5.length c0_5) := (blk_cell BK151.out 5).trans rfl
              have hcz74_6 : wc.cell? ⟨gb151, 6, none⟩ = some (.slice A0_6 l0_6.length c0_6) := (blk_cell BK151.out 6).trans rfl
              have hcz74_7 : wc.cell? ⟨gb151, 7, none⟩ = some (.int .i64 a0_7) := (blk_cell BK151.out 7).trans rfl
              have hcz74_8 : wc.cell? ⟨gb151, 8, none⟩ = some (.int .i64 a0_8) := (blk_cell BK151.out 8).trans rfl
              have hcz74_9 : wc.cell? ⟨gb151, 9, none⟩ = some (.int .i64 a0_9) := (blk_cell BK151.out 9).trans rfl
              have hcz74_10 : wc.cell? ⟨gb151, 10, none⟩ = some (.int .i64 a0_10) := (blk_cell BK151.out 10).trans rfl
              have hcz74_11 : wc.cell? ⟨gb151, 11, none⟩ = some (.int .i64 a0_11) := (blk_cell BK151.out 11).trans rfl
              have hcz74_12 : wc.cell? ⟨gb151, 12, none⟩ = some (.int .i64 a0_12) := (blk_cell BK151.out 12).trans rfl
              have hcz74_13 : wc.cell? ⟨gb151, 13, none⟩ = some (.int .i64 a0_13) := (blk_cell BK151.out 13).trans rfl
              have hcz74_14 : wc.cell? ⟨gb151, 14, none⟩ = some (.int .i64 a0_14) := (blk_cell BK151.out 14).trans rfl
              have hcz74_15 : wc.cell? ⟨gb151, 15, none⟩ = some (.int .i64 a0_15) := (blk_cell BK151.out 15).trans rfl
              have hcz74_16 : wc.cell? ⟨gb151, 16, none⟩ = some (.int .i64 a0_16) := (blk_cell BK151.out 16).trans rfl
              have hcz74_17 : wc.cell? ⟨gb151, 17, none⟩ = some (.int .i64 a0_17) := (blk_cell BK151.out 17).trans rfl
              have hfz74_0 := blk_frozen BK151.out 0
              have hfz74_1 := blk_frozen BK151.out 1
              have hfz74_2 := blk_frozen BK151.out 2
              have hfz74_3 := blk_frozen BK151.out 3
              have hfz74_4 := blk_frozen BK151.out 4
              have hfz74_5 := blk_frozen BK151.out 5
              have hfz74_6 := blk_frozen BK151.out 6
              have hfz74_7 := blk_frozen BK151.out 7
              have hfz74_8 := blk_frozen BK151.out 8
              have hfz74_9 := blk_frozen BK151.out 9
              have hfz74_10 := blk_frozen BK151.out 10
              have hfz74_11 := blk_frozen BK151.out 11
              have hfz74_12 := blk_frozen BK151.out 12
              have hfz74_13 := blk_frozen BK151.out 13
              have hfz74_14 := blk_frozen BK151.out 14
              have hfz74_15 := blk_frozen BK151.out 15
              have hfz74_16 := blk_frozen BK151.out 16
              have hfz74_17 := blk_frozen BK151.out 17
              go_wp2
              go_meet
              case rel => exact ⟨_, (decide (a2_0 < a0_13)), (by first | rfl | (simp; done) | (simp [*]; done)), H', ⟨by have := HJ3.out; have := HJ28.out; have := HJ38.out; have := HJ48.out; first | omega | exact Nat.le_refl _⟩, ⟨by (with_reducible repeat (first | refine blk_drewN ?_ _ | refine blk_drew ?_ | refine blk_alloc ?_ _)); exact BK151.out⟩, ⟨by (with_reducible repeat (first | refine blk_drewN ?_ _ | refine blk_drew ?_ | refine blk_alloc ?_ _)); exact BK152.out⟩, ⟨by (with_reducible repeat (first | refine blk_drewN ?_ _ | refine blk_drew ?_ | refine blk_alloc ?_ _)); exact BK153.out⟩, ⟨by (with_reducible repeat (first | refine blk_drewN ?_ _ | refine blk_drew ?_ | refine blk_alloc ?_ _)); exact BK154.out⟩, ⟨ahx⟩⟩
            ·rw [if_neg c67] at H
             have c67b0 : decide (a2_0 ≤ a0_14) = false := decide_eq_false c67
             clear c67
             (first | rw [c67b0] | (simp only [i64_w, i32_w]; rw [c67b0]) | skip)
             as_aux_lemma =>
              have H' := Aside0.mk H
              clear H
              have hnb75 := NB153_151.out
              have hnc75 := NB151_153.out
              have hnb76 := NB153_152.out
              have hnc76 := NB152_153.out
              have hnb77 := NB153_154.out
              have hnc77 := NB154_153.out
              have hcz78_0 : wc.cell? ⟨gb153, 0, none⟩ = some (.int .i64 a2_0) := (blk_cell BK153.out 0).trans rfl
              have hcz78_1 : wc.cell? ⟨gb153, 1, none⟩ = some (.int .i64 a2_1) := (blk_cell BK153.out 1).trans rfl
              have hfz78_0 := blk_frozen BK153.out 0
              have hfz78_1 := blk_frozen BK153.out 1
              have hnb79 := NB151_152.out
              have hnc79 := NB152_151.out
              have hnb80 := NB151_154.out
              have hnc80 := NB154_151.out
              have hcz81_0 : wc.cell? ⟨gb151, 0, none⟩ = some (.string a0_0) := (blk_cell BK151.out 0).trans rfl
              have hcz81_1 : wc.cell? ⟨gb151, 1, none⟩ = some (.int .i64 a0_1) := (blk_cell BK151.out 1).trans rfl
              have hcz81_2 : wc.cell? ⟨gb151, 2, none⟩ = some (.int .i64 a0_2) := (blk_cell BK151.out 2).trans rfl
              have hcz81_3 : wc.cell? ⟨gb151, 3, none⟩ = some (.int .i64 a0_3) := (blk_cell BK151.out 3).trans rfl
              have hcz81_4 : wc.cell? ⟨gb151, 4, none⟩ = some (.slice A0_4 l0_4.length c0_4) := (blk_cell BK151.out 4).trans rfl
              have hcz81_5 : wc.cell? ⟨gb151, 5, none⟩ = some (.slice A0_5 l0_5.length c0_5) := (blk_cell BK151.out 5).trans rfl
              have hcz81_6 : wc.cell? ⟨gb151, 6, none⟩ = some (.slice A0_6 l0_6.length c0_6) := (blk_cell BK151.out 6).trans rfl
              have hcz81_7 : wc.cell? ⟨gb151, 7, none⟩ = some (.int .i64 a0_7) := (blk_cell BK151.out 7).trans rfl
              have hcz81_8 : wc.cell? ⟨gb151, 8, none⟩ = some (.int .i64 a0_8) := (blk_cell BK151.out 8).trans rfl
              have hcz81_9 : wc.cell? ⟨gb151, 9, none⟩ = some (.int .i64 a0_9) := (blk_cell BK151.out 9).trans rfl
              have hcz81_10 : wc.cell? ⟨gb151, 10, none⟩ = some (.int .i64 a0_10) := (blk_cell BK151.out 10).trans rfl
              have hcz81_11 : wc.cell? ⟨gb151, 11, none⟩ = some (.int .i64 a0_11) := (blk_cell BK151.out 11).trans rfl
              have hcz81_12 : wc.cell? ⟨gb151, 12, none⟩ = some (.int .i64 a0_12) := (blk_cell BK151.out 12).trans rfl
              have hcz81_13 : wc.cell? ⟨gb151, 13, none⟩ = some (.int .i64 a0_13) := (blk_cell BK151.out 13).trans rfl
              have hcz81_14 : wc.cell? ⟨gb151, 14, none⟩ = some (.int .i64 a0_14) := (blk_cell BK151.out 14).trans rfl
              have hcz81_15 : wc.cell? ⟨gb151, 15, none⟩ = some (.int .i64 a0_15) := (blk_cell BK151.out 15).trans rfl
              have hcz81_16 : wc.cell? ⟨gb151, 16, none⟩ = some (.int .i64 a0_16) := (blk_cell BK151.out 16).trans rfl
              have hcz81_17 : wc.cell? ⟨gb151, 17, none⟩ = some (.int .i64 a0_17) := (blk_cell BK151.out 17).trans rfl
              have hfz81_0 := blk_frozen BK151.out 0
              have hfz81_1 := blk_frozen BK151.out 1
              have hfz81_2 := blk_frozen BK151.out 2
              have hfz81_3 := blk_frozen BK151.out 3
              have hfz81_4 := blk_frozen BK151.out 4
              have hfz81_5 := blk_frozen BK151.out 5
              have hfz81_6 := blk_frozen BK151.out 6
              have hfz81_7 := blk_frozen BK151.out 7
              have hfz81_8 := blk_frozen BK151.out 8
              have hfz81_9 := blk_frozen BK151.out 9
              have hfz81_10 := blk_frozen BK151.out 10
              have hfz81_11 := blk_frozen BK151.out 11
              have hfz81_12 := blk_frozen BK151.out 12
              have hfz81_13 := blk_frozen BK151.out 13
              have hfz81_14 := blk_frozen BK151.out 14
              have hfz81_15 := blk_frozen BK151.out 15
              have hfz81_16 := blk_frozen BK151.out 16
              have hfz81_17 := blk_frozen BK151.out 17
              go_wp2
              go_meet
              case rel => exact ⟨_, (false), (by first | rfl | (simp; done) | (simp [*]; done)), H', ⟨by have := HJ3.out; have := HJ28.out; have := HJ38.out; have := HJ48.out; first | omega | exact Nat.le_refl _⟩, ⟨by (with_reducible repeat (first | refine blk_drewN ?_ _ | refine blk_drew ?_ | refine blk_alloc ?_ _)); exact BK151.out⟩, ⟨by (with_reducible repeat (first | refine blk_drewN ?_ _ | refine blk_drew ?_ | refine blk_alloc ?_ _)); exact BK152.out⟩, ⟨by (with_reducible repeat (first | refine blk_drewN ?_ _ | refine blk_drew ?_ | refine blk_alloc ?_ _)); exact BK153.out⟩, ⟨by (with_reducible repeat (first | refine blk_drewN ?_ _ | refine blk_drew ?_ | refine blk_alloc ?_ _)); exact BK154.out⟩, ⟨ahx⟩⟩
           case rest =>
            clear HC59
            try clear c1
            try clear c2
            try clear p2
            try clear c3
            try clear c4
            try clear c5
            try clear c6
            try clear c7
            try clear c8
            try clear c9
            try clear c9b0
            try clear c9b1
            try clear c10
            try clear c11
            try clear c12
            try clear c14
            try clear c15
            try clear c17
            try clear c18
            try clear c19
            try clear c21
            try clear c22
            try clear c23
            try clear c24
            try clear c26
            try clear c27
            try clear c30
            try clear c30b0
            try clear c31
            try clear c32
            try clear c33
            try clear c35
            try clear c36
            try clear c37
            try clear c40
            try clear c40b0
            try clear c41
            try clear c42
            try clear c43
            try clear c45
            try clear c46
            try clear c47
            try clear c50
            try clear c51
            try clear c52
            try clear c53
            try clear c54
            try clear c56
            try clear c57
            try clear c60
            try clear c61
            try clear c62
            try clear c64
            try clear c65
            try clear c67
            try clear c67b0
            try clear c68
            try clear c69
            try clear c70
            try clear c72
            try clear c73
            try clear c75
            try clear c76
            try clear c77
            try clear c79
            try clear c80
            try clear hcz13_0
            try clear hcz13_1
            try clear hcz13_10
            try clear hcz13_11
            try clear hcz13_12
            try clear hcz13_13
            try clear hcz13_14
            try clear hcz13_15
            try clear hcz13_16
            try clear hcz13_17
            try clear hcz13_2
            try clear hcz13_3
            try clear hcz13_4
            try clear hcz13_5
            try clear hcz13_6
            try clear hcz13_7
            try clear hcz13_8
            try clear hcz13_9
            try clear hcz16_0
            try clear hcz16_1
            try clear hcz20_0
            try clear hcz20_1
            try clear hcz20_10
            try clear hcz20_11
            try clear hcz20_12
            try clear hcz20_13
            try clear hcz20_14
            try clear hcz20_15
            try clear hcz20_16
            try clear hcz20_17
            try clear hcz20_2
            try clear hcz20_3
            try clear hcz20_4
            try clear hcz20_5
            try clear hcz20_6
            try clear hcz20_7
            try clear hcz20_8
            try clear hcz20_9
            try clear hcz25_0
            try clear hcz25_1
            try clear hcz25_2
            try clear hcz25_3
            try clear hcz25_4
            try clear hcz28_0
            try clear hcz28_1
            try clear hcz28_2
            try clear hcz28_3
            try clear hcz28_4
            try clear hcz34_0
            try clear hcz34_1
            try clear hcz34_2
            try clear hcz34_3
            try clear hcz34_4
            try clear hcz38_0
            try clear hcz38_1
            try clear hcz38_2
            try clear hcz38_3
            try clear hcz38_4
            try clear hcz44_0
            try clear hcz44_1
            try clear hcz44_2
            try clear hcz44_3
            try clear hcz44_4
            try clear hcz48_0
            try clear hcz48_1
            try clear hcz48_2
            try clear hcz48_3
            try clear hcz48_4
            try clear hcz55_0
            try clear hcz55_1
            try clear hcz55_2
            try clear hcz55_3
            try clear hcz55_4
            try clear hcz58_0
            try clear hcz58_1
            try clear hcz58_2
            try clear hcz58_3
            try clear hcz58_4
            try clear hcz63_0
            try clear hcz63_1
            try clear hcz66_0
            try clear hcz66_1
            try clear hcz66_10
            try clear hcz66_11
            try clear hcz66_12
            try clear hcz66_13
            try clear hcz66_14
            try clear hcz66_15
            try clear hcz66_16
            try clear hcz66_17
            try clear hcz66_2
            try clear hcz66_3
            try clear hcz66_4
            try clear hcz66_5
            try clear hcz66_6
            try clear hcz66_7
            try clear hcz66_8
            try clear hcz66_9
            try clear hcz71_0
            try clear hcz71_1
            try clear hcz74_0
            try clear hcz74_1
            try clear hcz74_10
            try clear hcz74_11
            try clear hcz74_12
            try clear hcz74_13
            try clear hcz74_14
            try clear hcz74_15
            try clear hcz74_16
            try clear hcz74_17
            try clear hcz74_2
            try clear hcz74_3
            try clear hcz74_4
            try clear hcz74_5
            try clear hcz74_6
            try clear hcz74_7
            try clear hcz74_8
            try clear hcz74_9
            try clear hcz78_0
            try clear hcz78_1
            try clear hcz81_0
            try clear hcz81_1
            try clear hcz81_10
            try clear hcz81_11
            try clear hcz81_12
            try clear hcz81_13
            try clear hcz81_14
            try clear hcz81_15
            try clear hcz81_16
            try clear hcz81_17
            try clear hcz81_2
            try clear hcz81_3
            try clear hcz81_4
            try clear hcz81_5
            try clear hcz81_6
            try clear hcz81_7
            try clear hcz81_8
            try clear hcz81_9
            try clear hfz13_0
            try clear hfz13_1
            try clear hfz13_10
            try clear hfz13_11
            try clear hfz13_12
            try clear hfz13_13
            try clear hfz13_14
            try clear hfz13_15
            try clear hfz13_16
            try clear hfz13_17
            try clear hfz13_2
            try clear hfz13_3
            try clear hfz13_4
            try clear hfz13_5
            try clear hfz13_6
            try clear hfz13_7
            try clear hfz13_8
            try clear hfz13_9
            try clear hfz16_0
            try clear hfz16_1
            try clear hfz20_0
            try clear hfz20_1
            try clear hfz20_10
            try clear hfz20_11
            try clear hfz20_12
            try clear hfz20_13
            try clear hfz20_14
            try clear hfz20_15
            try clear hfz20_16
            try clear hfz20_17
            try clear hfz20_2
            try clear hfz20_3
            try clear hfz20_4
            try clear hfz20_5
            try clear hfz20_6
            try clear hfz20_7
            try clear hfz20_8
            try clear hfz20_9
            try clear hfz25_0
            try clear hfz25_1
            try clear hfz25_2
            try clear hfz25_3
            try clear hfz25_4
            try clear hfz28_0
            try clear hfz28_1
            try clear hfz28_2
            try clear hfz28_3
            try clear hfz28_4
            try clear hfz34_0
            try clear hfz34_1
            try clear hfz34_2
            try clear hfz34_3
            try clear hfz34_4
            try clear hfz38_0
            try clear hfz38_1
            try clear hfz38_2
            try clear hfz38_3
            try clear hfz38_4
            try clear hfz44_0
            try clear hfz44_1
            try clear hfz44_2
            try clear hfz44_3
            try clear hfz44_4
            try clear hfz48_0
            try clear hfz48_1
            try clear hfz48_2
            try clear hfz48_3
            try clear hfz48_4
            try clear hfz55_0
            try clear hfz55_1
            try clear hfz55_2
            try clear hfz55_3
            try clear hfz55_4
            try clear hfz58_0
            try clear hfz58_1
            try clear hfz58_2
            try clear hfz58_3
            try clear hfz58_4
            try clear hfz63_0
            try clear hfz63_1
            try clear hfz66_0
            try clear hfz66_1
            try clear hfz66_10
            try clear hfz66_11
            try clear hfz66_12
            try clear hfz66_13
            try clear hfz66_14
            try clear hfz66_15
            try clear hfz66_16
            try clear hfz66_17
            try clear hfz66_2
            try clear hfz66_3
            try clear hfz66_4
            try clear hfz66_5
            try clear hfz66_6
            try clear hfz66_7
            try clear hfz66_8
            try clear hfz66_9
            try clear hfz71_0
            try clear hfz71_1
            try clear hfz74_0
            try clear hfz74_1
            try clear hfz74_10
            try clear hfz74_11
            try clear hfz74_12
            try clear hfz74_13
            try clear hfz74_14
            try clear hfz74_15
            try clear hfz74_16
            try clear hfz74_17
            try clear hfz74_2
            try clear hfz74_3
            try clear hfz74_4
            try clear hfz74_5
            try clear hfz74_6
            try clear hfz74_7
            try clear hfz74_8
            try clear hfz74_9
            try clear hfz78_0
            try clear hfz78_1
            try clear hfz81_0
            try clear hfz81_1
            try clear hfz81_10
            try clear hfz81_11
            try clear hfz81_12
            try clear hfz81_13
            try clear hfz81_14
            try clear hfz81_15
            try clear hfz81_16
            try clear hfz81_17
            try clear hfz81_2
            try clear hfz81_3
            try clear hfz81_4
            try clear hfz81_5
            try clear hfz81_6
            try clear hfz81_7
            try clear hfz81_8
            try clear hfz81_9
            try clear p2
            obtain ⟨kq, x10_58, rfl, HA, HJ58, BK151, BK152, BK153, BK154, HB⟩ := hcut
            cases kq with
            | zero => exact absurd HA.out (by simp [bourneref20_Maybe.j4])
            | succ kj58 =>
             have H := HA.out
             clear HA
             simp only [bourneref20_Maybe.j4] at H
             have HC82 := Aside0.mk H
             clear H
             go_upto_region 9 with (fail)
             go_cut [11] (fun v11 wc => ∃ (kq : Nat) (x11_81 : Bool), v11 = .bool x11_81 ∧ Aside0 (bourneref20_Maybe.j5 kq x7_28 x8_38 (decide (a2_1 ≥ a0_13)) x10_58 x11_81 a1_0 a1_1 a1_2 a1_3 a1_4 = some (r1, r2, r3, r4, r5)) ∧ Aside0 (kq ≤ kj58) ∧ Aside0 (wc.heap[gb151]? = some (.cells #[.string a0_0, .int .i64 a0_1, .int .i64 a0_2, .int .i64 a0_3, (.slice A0_4 l0_4.length c0_4), (.slice A0_5 l0_5.length c0_5), (.slice A0_6 l0_6.length c0_6), .int .i64 a0_7, .int .i64 a0_8, .int .i64 a0_9, .int .i64 a0_10, .int .i64 a0_11, .int .i64 a0_12, .int .i64 a0_13, .int .i64 a0_14, .int .i64 a0_15, .int .i64 a0_16, .int .i64 a0_17] 26 (0, 0))) ∧ Aside0 (wc.heap[gb152]? = some (.cells #[.int .i64 a1_0, .int .i64 a1_1, .int .i64 a1_2, .int .i64 a1_3, .int .i64 a1_4] 32 (0, 0))) ∧ Aside0 (wc.heap[gb153]? = some (.cells #[.int .i64 a2_0, .int .i64 a2_1] 30 (0, 0))) ∧ Aside0 (wc.heap[gb154]? = some (.cells #[.int .i64 0, .int .i64 0, .int .i64 0, .int .i64 0, .int .i64 0] 32 (0, 0))) ∧ Aside0 (Below w.heap.size w wc))
             case first =>
              have H := HC82.out
              clear HC82
              by_cases c83 : a0_13 > a0_14
              ·rw [if_pos c83] at H
               have c83b0 : decide (a0_14 < a0_13) = true := decide_eq_true c83
               clear c83
               (first | rw [c83b0] | (simp only [i64_w, i32_w]; rw [c83b0]) | skip)
               replace H := Option.bind_eq_some_iff.mp H
               obtain ⟨t155, A840, H⟩ := H
               replace H : (bourneref20_Maybe.j5 kj58 x7_28 x8_38 (decide (a2_1 ≥ a0_13)) x10_58 t155 a1_0 a1_1 a1_2 a1_3 a1_4) = some (r1, r2, r3, r4, r5) := H
               have A84 := Aside0.mk A840
               clear A840
               as_aux_lemma =>
                have H' := Aside0.mk H
                clear H
                have hnb85 := NB151_152.out
                have hnc85 := NB152_151.out
                have hnb86 := NB151_153.out
                have hnc86 := NB153_151.out
                have hnb87 := NB151_154.out
                have hnc87 := NB154_151.out
                have hcz88_0 : wc.cell? ⟨gb151, 0, none⟩ = some (.string a0_0) := (blk_cell BK151.out 0).trans rfl
                have hcz88_1 : wc.cell? ⟨gb151, 1, none⟩ = some (.int .i64 a0_1) := (blk_cell BK151.out 1).trans rfl
                have hcz88_2 : wc.cell? ⟨gb151, 2, none⟩ = some (.int .i64 a0_2) := (blk_cell BK151.out 2).trans rfl
                have hcz88_3 : wc.cell? ⟨gb151, 3, none⟩ = some (.int .i64 a0_3) := (blk_cell BK151.out 3).trans rfl
                have hcz88_4 : wc.cell? ⟨gb151, 4, none⟩ = some (.slice A0_4 l0_4.length c0_4) := (blk_cell BK151.out 4).trans rfl
                have hcz88_5 : wc.cell? ⟨gb151, 5, none⟩ = some (.slice A0_5 l0_5.length c0_5) := (blk_cell BK151.out 5).trans rfl
                have hcz88_6 : wc.cell? ⟨gb151, 6, none⟩ = some (.slice A0_6 l0_6.length c0_6) := (blk_cell BK151.out 6).trans rfl
                have hcz88_7 : wc.cell? ⟨gb151, 7, none⟩ = some (.int .i64 a0_7) := (blk_cell BK151.out 7).trans rfl
                have hcz88_8 : wc.cell? ⟨gb151, 8, none⟩ = some (.int .i64 a0_8) := (blk_cell BK151.out 8).trans rfl
                have hcz88_9 : wc.cell? ⟨gb151, 9, none⟩ = some (.int .i64 a0_9) := (blk_cell BK151.out 9).trans rfl
                have hcz88_10 : wc.cell? ⟨gb151, 10, none⟩ = some (.int .i64 a0_10) := (blk_cell BK151.out 10).trans rfl
                have hcz88_11 : wc.cell? ⟨gb151, 11, none⟩ = some (.int .i64 a0_11) := (blk_cell BK151.out 11).trans rfl
                have hcz88_12 : wc.cell? ⟨gb151, 12, none⟩ = some (.int .i64 a0_12) := (blk_cell BK151.out 12).trans rfl
                have hcz88_13 : wc.cell? ⟨gb151, 13, none⟩ = some (.int .i64 a0_13) := (blk_cell BK151.out 13).trans rfl
                have hcz88_14 : wc.cell? ⟨gb151, 14, none⟩ = some (.int .i64 a0_14) := (blk_cell BK151.out 14).trans rfl
                have hcz88_15 : wc.cell? ⟨gb151, 15, none⟩ = some (.int .i64 a0_15) := (blk_cell BK151.out 15).trans rfl
                have hcz88_16 : wc.cell? ⟨gb151, 16, none⟩ = some (.int .i64 a0_16) := (blk_cell BK151.out 16).trans rfl
                have hcz88_17 : wc.cell? ⟨gb151, 17, none⟩ = some (.int .i64 a0_17) := (blk_cell BK151.out 17).trans rfl
                have hfz88_0 := blk_frozen BK151.out 0
                have hfz88_1 := blk_frozen BK151.out 1
                have hfz88_2 := blk_frozen BK151.out 2
                have hfz88_3 := blk_frozen BK151.out 3
                have hfz88_4 := blk_frozen BK151.out 4
                have hfz88_5 := blk_frozen BK151.out 5
                have hfz88_6 := blk_frozen BK151.out 6
                have hfz88_7 := blk_frozen BK151.out 7
                have hfz88_8 := blk_frozen BK151.out 8
                have hfz88_9 := blk_frozen BK151.out 9
                have hfz88_10 := blk_frozen BK151.out 10
                have hfz88_11 := blk_frozen BK151.out 11
                have hfz88_12 := blk_frozen BK151.out 12
                have hfz88_13 := blk_frozen BK151.out 13
                have hfz88_14 := blk_frozen BK151.out 14
                have hfz88_15 := blk_frozen BK151.out 15
                have hfz88_16 := blk_frozen BK151.out 16
                have hfz88_17 := blk_frozen BK151.out 17
                have hnb89 := NB153_152.out
                have hnc89 := NB152_153.out
                have hnb90 := NB153_154.out
                have hnc90 := NB154_153.out
                have hcz91_0 : wc.cell? ⟨gb153, 0, none⟩ = some (.int .i64 a2_0) := (blk_cell BK153.out 0).trans rfl
                have hcz91_1 : wc.cell? ⟨gb153, 1, none⟩ = some (.int .i64 a2_1) := (blk_cell BK153.out 1).trans rfl
                have hfz91_0 := blk_frozen BK153.out 0
                have hfz91_1 := blk_frozen BK153.out 1
                go_wp2_with (first | (go_at_call 28; (with_reducible refine (bourneref20_middle.calls a0_0 a0_1 a0_2 a0_3 _ _ l0_4 _ _ l0_5 _ _ l0_6 a0_7 a0_8 a0_9 a0_10 a0_11 a0_12 a0_13 a0_14 a0_15 a0_16 a0_17 a2_0 a2_1 t155 _ ?side1 ?side2 ?side3 ?side4 ?side5 ?side6 A84.out).mono ?_); (case side1 => repeat (first | exact (Kd.C_below HR0_4.out HB.out) | (with_reducible refine Kd.C_alloc ?_ _) | (with_reducible refine Kd.C_drewN ?_ _) | (with_reducible refine Kd.C_drew ?_))); (case side2 => exact HC0_4.out); (case side3 => repeat (first | exact (Kd.C_below HR0_5.out HB.out) | (with_reducible refine Kd.C_alloc ?_ _) | (with_reducible refine Kd.C_drewN ?_ _) | (with_reducible refine Kd.C_drew ?_))); (case side4 => exact HC0_5.out); (case side5 => repeat (first | exact (Kd.C_below HR0_6.out HB.out) | (with_reducible refine Kd.C_alloc ?_ _) | (with_reducible refine Kd.C_drewN ?_ _) | (with_reducible refine Kd.C_drew ?_))); (case side6 => exact HC0_6.out); rintro e w92 ⟨rfl, hb⟩; have n0_ := Aside0.mk (blk_below (g := gb151) (o := .cells #[.string a0_0, .int .i64 a0_1, .int .i64 a0_2, .int .i64 a0_3, .slice A0_4 l0_4.length c0_4, .slice A0_5 l0_5.length c0_5, .slice A0_6 l0_6.length c0_6, .int .i64 a0_7, .int .i64 a0_8, .int .i64 a0_9, .int .i64 a0_10, .int .i64 a0_11, .int .i64 a0_12, .int .i64 a0_13, .int .i64 a0_14, .int .i64 a0_15, .int .i64 a0_16, .int .i64 a0_17] 26 (0, 0)) abx hb); have n1_ := Aside0.mk (blk_below (g := gb152) (o := .cells #[.int .i64 a1_0, .int .i64 a1_1, .int .i64 a1_2, .int .i64 a1_3, .int .i64 a1_4] 32 (0, 0)) abx hb); have n2_ := Aside0.mk (blk_below (g := gb153) (o := .cells #[.int .i64 a2_0, .int .i64 a2_1] 30 (0, 0)) abx hb); have n3_ := Aside0.mk (blk_below (g := gb154) (o := .cells #[.int .i64 0, .int .i64 0, .int .i64 0, .int .i64 0, .int .i64 0] 32 (0, 0)) abx hb); have n4_ := Aside0.mk (below_step ahx hb); clear BK151; clear BK152; clear BK153; clear BK154; clear HB; have BK151 := n0_; have BK152 := n1_; have BK153 := n2_; have BK154 := n3_; have HB := n4_; clear n0_ n1_ n2_ n3_ n4_; (try clear hb); (try clear hb2); (try clear hk); (try clear hi)))
                go_meet
                case rel => exact ⟨_, (t155), (by first | rfl | (simp; done) | (simp [*]; done)), H', ⟨by have := HJ3.out; have := HJ28.out; have := HJ38.out; have := HJ48.out; have := HJ58.out; first | omega | exact Nat.le_refl _⟩, ⟨by (with_reducible repeat (first | refine blk_drewN ?_ _ | refine blk_drew ?_ | refine blk_alloc ?_ _)); exact BK151.out⟩, ⟨by (with_reducible repeat (first | refine blk_drewN ?_ _ | refine blk_drew ?_ | refine blk_alloc ?_ _)); exact BK152.out⟩, ⟨by (with_reducible repeat (first | refine blk_drewN ?_ _ | refine blk_drew ?_ | refine blk_alloc ?_ _)); exact BK153.out⟩, ⟨by (with_reducible repeat (first | refine blk_drewN ?_ _ | refine blk_drew ?_ | refine blk_alloc ?_ _)); exact BK154.out⟩, ⟨ahx⟩⟩
              ·rw [if_neg c83] at H
               have c83b0 : decide (a0_14 < a0_13) = false := decide_eq_false c83
               clear c83
               (first | rw [c83b0] | (simp only [i64_w, i32_w]; rw [c83b0]) | skip)
               as_aux_lemma =>
                have H' := Aside0.mk H
                clear H
                have hnb93 := NB151_152.out
                have hnc93 := NB152_151.out
                have hnb94 := NB151_153.out
                have hnc94 := NB153_151.out
                have hnb95 := NB151_154.out
                have hnc95 := NB154_151.out
                have hcz96_0 : wc.cell? ⟨gb151, 0, none⟩ = some (.string a0_0) := (blk_cell BK151.out 0).trans rfl
                have hcz96_1 : wc.cell? ⟨gb151, 1, none⟩ = some (.int .i64 a0_1) := (blk_cell BK151.out 1).trans rfl
                have hcz96_2 : wc.cell? ⟨gb151, 2, none⟩ = some (.int .i64 a0_2) := (blk_cell BK151.out 2).trans rfl
                have hcz96_3 : wc.cell? ⟨gb151, 3, none⟩ = some (.int .i64 a0_3) := (blk_cell BK151.out 3).trans rfl
                have hcz96_4 : wc.cell? ⟨gb151, 4, none⟩ = some (.slice A0_4 l0_4.length c0_4) := (blk_cell BK151.out 4).trans rfl
                have hcz96_5 : wc.cell? ⟨gb151, 5, none⟩ = some (.slice A0_5 l0_5.length c0_5) := (blk_cell BK151.out 5).trans rfl
                have hcz96_6 : wc.cell? ⟨gb151, 6, none⟩ = some (.slice A0_6 l0_6.length c0_6) := (blk_cell BK151.out 6).trans rfl
                have hcz96_7 : wc.cell? ⟨gb151, 7, none⟩ = some (.int .i64 a0_7) := (blk_cell BK151.out 7).trans rfl
                have hcz96_8 : wc.cell? ⟨gb151, 8, none⟩ = some (.int .i64 a0_8) := (blk_cell BK151.out 8).trans rfl
                have hcz96_9 : wc.cell? ⟨gb151, 9, none⟩ = some (.int .i64 a0_9) := (blk_cell BK151.out 9).trans rfl
                have hcz96_10 : wc.cell? ⟨gb151, 10, none⟩ = some (.int .i64 a0_10) := (blk_cell BK151.out 10).trans rfl
                have hcz96_11 : wc.cell? ⟨gb151, 11, none⟩ = some (.int .i64 a0_11) := (blk_cell BK151.out 11).trans rfl
                have hcz96_12 : wc.cell? ⟨gb151, 12, none⟩ = some (.int .i64 a0_12) := (blk_cell BK151.out 12).trans rfl
                have hcz96_13 : wc.cell? ⟨gb151, 13, none⟩ = some (.int .i64 a0_13) := (blk_cell BK151.out 13).trans rfl
                have hcz96_14 : wc.cell? ⟨gb151, 14, none⟩ = some (.int .i64 a0_14) := (blk_cell BK151.out 14).trans rfl
                have hcz96_15 : wc.cell? ⟨gb151, 15, none⟩ = some (.int .i64 a0_15) := (blk_cell BK151.out 15).trans rfl
                have hcz96_16 : wc.cell? ⟨gb151, 16, none⟩ = some (.int .i64 a0_16) := (blk_cell BK151.out 16).trans rfl
                have hcz96_17 : wc.cell? ⟨gb151, 17, none⟩ = some (.int .i64 a0_17) := (blk_cell BK151.out 17).trans rfl
                have hfz96_0 := blk_frozen BK151.out 0
                have hfz96_1 := blk_frozen BK151.out 1
                have hfz96_2 := blk_frozen BK151.out 2
                have hfz96_3 := blk_frozen BK151.out 3
                have hfz96_4 := blk_frozen BK151.out 4
                have hfz96_5 := blk_frozen BK151.out 5
                have hfz96_6 := blk_frozen BK151.out 6
                have hfz96_7 := blk_frozen BK151.out 7
                have hfz96_8 := blk_frozen BK151.out 8
                have hfz96_9 := blk_frozen BK151.out 9
                have hfz96_10 := blk_frozen BK151.out 10
                have hfz96_11 := blk_frozen BK151.out 11
                have hfz96_12 := blk_frozen BK151.out 12
                have hfz96_13 := blk_frozen BK151.out 13
                have hfz96_14 := blk_frozen BK151.out 14
                have hfz96_15 := blk_frozen BK151.out 15
                have hfz96_16 := blk_frozen BK151.out 16
                have hfz96_17 := blk_frozen BK151.out 17
                go_wp2
                go_meet
                case rel => exact ⟨_, (false), (by first | rfl | (simp; done) | (simp [*]; done)), H', ⟨by have := HJ3.out; have := HJ28.out; have := HJ38.out; have := HJ48.out; have := HJ58.out; first | omega | exact Nat.le_refl _⟩, ⟨by (with_reducible repeat (first | refine blk_drewN ?_ _ | refine blk_drew ?_ | refine blk_alloc ?_ _)); exact BK151.out⟩, ⟨by (with_reducible repeat (first | refine blk_drewN ?_ _ | refine blk_drew ?_ | refine blk_alloc ?_ _)); exact BK152.out⟩, ⟨by (with_reducible repeat (first | refine blk_drewN ?_ _ | refine blk_drew ?_ | refine blk_alloc ?_ _)); exact BK153.out⟩, ⟨by (with_reducible repeat (first | refine blk_drewN ?_ _ | refine blk_drew ?_ | refine blk_alloc ?_ _)); exact BK154.out⟩, ⟨ahx⟩⟩
             case rest =>
              clear HC82
              try clear c1
              try clear c2
              try clear p2
              try clear c3
              try clear c4
              try clear c5
              try clear c6
              try clear c7
              try clear c8
              try clear c9
              try clear c9b0
              try clear c9b1
              try clear c10
              try clear c11
              try clear c12
              try clear c14
              try clear c15
              try clear c17
              try clear c18
              try clear c19
              try clear c21
              try clear c22
              try clear c23
              try clear c24
              try clear c26
              try clear c27
              try clear c30
              try clear c30b0
              try clear c31
              try clear c32
              try clear c33
              try clear c35
              try clear c36
              try clear c37
              try clear c40
              try clear c40b0
              try clear c41
              try clear c42
              try clear c43
              try clear c45
              try clear c46
              try clear c47
              try clear c50
              try clear c51
              try clear c52
              try clear c53
              try clear c54
              try clear c56
              try clear c57
              try clear c60
              try clear c61
              try clear c62
              try clear c64
              try clear c65
              try clear c67
              try clear c67b0
              try clear c68
              try clear c69
              try clear c70
              try clear c72
              try clear c73
              try clear c75
              try clear c76
              try clear c77
              try clear c79
              try clear c80
              try clear c83
              try clear c83b0
              try clear c85
              try clear c86
              try clear c87
              try clear c89
              try clear c90
              try clear c93
              try clear c94
              try clear c95
              try clear hcz13_0
              try clear hcz13_1
              try clear hcz13_10
              try clear hcz13_11
              try clear hcz13_12
              try clear hcz13_13
              try clear hcz13_14
              try clear hcz13_15
              try clear hcz13_16
              try clear hcz13_17
              try clear hcz13_2
              try clear hcz13_3
              try clear hcz13_4
              try clear hcz13_5
              try clear hcz13_6
              try clear hcz13_7
              try clear hcz13_8
              try clear hcz13_9
              try clear hcz16_0
              try clear hcz16_1
              try clear hcz20_0
              try clear hcz20_1
              try clear hcz20_10
              try clear hcz20_11
              try clear hcz20_12
              try clear hcz20_13
              try clear hcz20_14
              try clear hcz20_15
              try clear hcz20_16
              try clear hcz20_17
              try clear hcz20_2
              try clear hcz20_3
              try clear hcz20_4
              try clear hcz20_5
              try clear hcz20_6
              try clear hcz20_7
              try clear hcz20_8
              try clear hcz20_9
              try clear hcz25_0
              try clear hcz25_1
              try clear hcz25_2
              try clear hcz25_3
              try clear hcz25_4
              try clear hcz28_0
              try clear hcz28_1
              try clear hcz28_2
              try clear hcz28_3
              try clear hcz28_4
              try clear hcz34_0
              try clear hcz34_1
              try clear hcz34_2
              try clear hcz34_3
              try clear hcz34_4
              try clear hcz38_0
              try clear hcz38_1
              try clear hcz38_2
              try clear hcz38_3
              try clear hcz38_4
              try clear hcz44_0
              try clear hcz44_1
              try clear hcz44_2
              try clear hcz44_3
              try clear hcz44_4
              try clear hcz48_0
              try clear hcz48_1
              try clear hcz48_2
              try clear hcz48_3
              try clear hcz48_4
              try clear hcz55_0
              try clear hcz55_1
              try clear hcz55_2
              try clear hcz55_3
              try clear hcz55_4
              try clear hcz58_0
              try clear hcz58_1
              try clear hcz58_2
              try clear hcz58_3
              try clear hcz58_4
              try clear hcz63_0
              try clear hcz63_1
              try clear hcz66_0
              try clear hcz66_1
              try clear hcz66_10
              try clear hcz66_11
              try clear hcz66_12
              try clear hcz66_13
              try clear hcz66_14
              try clear hcz66_15
              try clear hcz66_16
              try clear hcz66_17
              try clear hcz66_2
              try clear hcz66_3
              try clear hcz66_4
              try clear hcz66_5
              try clear hcz66_6
              try clear hcz66_7
              try clear hcz66_8
              try clear hcz66_9
              try clear hcz71_0
              try clear hcz71_1
              try clear hcz74_0
              try clear hcz74_1
              try clear hcz74_10
              try clear hcz74_11
              try clear hcz74_12
              try clear hcz74_13
              try clear hcz74_14
              try clear hcz74_15
              try clear hcz74_16
              try clear hcz74_17
              try clear hcz74_2
              try clear hcz74_3
              try clear hcz74_4
              try clear hcz74_5
              try clear hcz74_6
              try clear hcz74_7
              try clear hcz74_8
              try clear hcz74_9
              try clear hcz78_0
              try clear hcz78_1
              try clear hcz81_0
              try clear hcz81_1
              try clear hcz81_10
              try clear hcz81_11
              try clear hcz81_12
              try clear hcz81_13
              try clear hcz81_14
              try clear hcz81_15
              try clear hcz81_16
              try clear hcz81_17
              try clear hcz81_2
              try clear hcz81_3
              try clear hcz81_4
              try clear hcz81_5
              try clear hcz81_6
              try clear hcz81_7
              try clear hcz81_8
              try clear hcz81_9
              try clear hcz88_0
              try clear hcz88_1
              try clear hcz88_10
              try clear hcz88_11
              try clear hcz88_12
              try clear hcz88_13
              try clear hcz88_14
              try clear hcz88_15
              try clear hcz88_16
              try clear hcz88_17
              try clear hcz88_2
              try clear hcz88_3
              try clear hcz88_4
              try clear hcz88_5
              try clear hcz88_6
              try clear hcz88_7
              try clear hcz88_8
              try clear hcz88_9
              try clear hcz91_0
              try clear hcz91_1
              try clear hcz96_0
              try clear hcz96_1
              try clear hcz96_10
              try clear hcz96_11
              try clear hcz96_12
              try clear hcz96_13
              try clear hcz96_14
              try clear hcz96_15
              try clear hcz96_16
              try clear hcz96_17
              try clear hcz96_2
              try clear hcz96_3
              try clear hcz96_4
              try clear hcz96_5
              try clear hcz96_6
              try clear hcz96_7
              try clear hcz96_8
              try clear hcz96_9
              try clear hfz13_0
              try clear hfz13_1
              try clear hfz13_10
              try clear hfz13_11
              try clear hfz13_12
              try clear hfz13_13
              try clear hfz13_14
              try clear hfz13_15
              try clear hfz13_16
              try clear hfz13_17
              try clear hfz13_2
              try clear hfz13_3
              try clear hfz13_4
              try clear hfz13_5
              try clear hfz13_6
              try clear hfz13_7
              try clear hfz13_8
              try clear hfz13_9
              try clear hfz16_0
              try clear hfz16_1
              try clear hfz20_0
              try clear hfz20_1
              try clear hfz20_10
              try clear hfz20_11
              try clear hfz20_12
              try clear hfz20_13
              try clear hfz20_14
              try clear hfz20_15
              try clear hfz20_16
              try clear hfz20_17
              try clear hfz20_2
              try clear hfz20_3
              try clear hfz20_4
              try clear hfz20_5
              try clear hfz20_6
              try clear hfz20_7
              try clear hfz20_8
              try clear hfz20_9
              try clear hfz25_0
              try clear hfz25_1
              try clear hfz25_2
              try clear hfz25_3
              try clear hfz25_4
              try clear hfz28_0
              try clear hfz28_1
              try clear hfz28_2
              try clear hfz28_3
              try clear hfz28_4
              try clear hfz34_0
              try clear hfz34_1
              try clear hfz34_2
              try clear hfz34_3
              try clear hfz34_4
              try clear hfz38_0
              try clear hfz38_1
              try clear hfz38_2
              try clear hfz38_3
              try clear hfz38_4
              try clear hfz44_0
              try clear hfz44_1
              try clear hfz44_2
              try clear hfz44_3
              try clear hfz44_4
              try clear hfz48_0
              try clear hfz48_1
              try clear hfz48_2
              try clear hfz48_3
              try clear hfz48_4
              try clear hfz55_0
              try clear hfz55_1
              try clear hfz55_2
              try clear hfz55_3
              try clear hfz55_4
              try clear hfz58_0
              try clear hfz58_1
              try clear hfz58_2
              try clear hfz58_3
              try clear hfz58_4
              try clear hfz63_0
              try clear hfz63_1
              try clear hfz66_0
              try clear hfz66_1
              try clear hfz66_10
              try clear hfz66_11
              try clear hfz66_12
              try clear hfz66_13
              try clear hfz66_14
              try clear hfz66_15
              try clear hfz66_16
              try clear hfz66_17
              try clear hfz66_2
              try clear hfz66_3
              try clear hfz66_4
              try clear hfz66_5
              try clear hfz66_6
              try clear hfz66_7
              try clear hfz66_8
              try clear hfz66_9
              try clear hfz71_0
              try clear hfz71_1
              try clear hfz74_0
              try clear hfz74_1
              try clear hfz74_10
              try clear hfz74_11
              try clear hfz74_12
              try clear hfz74_13
              try clear hfz74_14
              try clear hfz74_15
              try clear hfz74_16
              try clear hfz74_17
              try clear hfz74_2
              try clear hfz74_3
              try clear hfz74_4
              try clear hfz74_5
              try clear hfz74_6
              try clear hfz74_7
              try clear hfz74_8
              try clear hfz74_9
              try clear hfz78_0
              try clear hfz78_1
              try clear hfz81_0
              try clear hfz81_1
              try clear hfz81_10
              try clear hfz81_11
              try clear hfz81_12
              try clear hfz81_13
              try clear hfz81_14
              try clear hfz81_15
              try clear hfz81_16
              try clear hfz81_17
              try clear hfz81_2
              try clear hfz81_3
              try clear hfz81_4
              try clear hfz81_5
              try clear hfz81_6
              try clear hfz81_7
              try clear hfz81_8
              try clear hfz81_9
              try clear hfz88_0
              try clear hfz88_1
              try clear hfz88_10
              try clear hfz88_11
              try clear hfz88_12
              try clear hfz88_13
              try clear hfz88_14
              try clear hfz88_15
              try clear hfz88_16
              try clear hfz88_17
              try clear hfz88_2
              try clear hfz88_3
              try clear hfz88_4
              try clear hfz88_5
              try clear hfz88_6
              try clear hfz88_7
              try clear hfz88_8
              try clear hfz88_9
              try clear hfz91_0
              try clear hfz91_1
              try clear hfz96_0
              try clear hfz96_1
              try clear hfz96_10
              try clear hfz96_11
              try clear hfz96_12
              try clear hfz96_13
              try clear hfz96_14
              try clear hfz96_15
              try clear hfz96_16
              try clear hfz96_17
              try clear hfz96_2
              try clear hfz96_3
              try clear hfz96_4
              try clear hfz96_5
              try clear hfz96_6
              try clear hfz96_7
              try clear hfz96_8
              try clear hfz96_9
              try clear p2
              obtain ⟨kq, x11_81, rfl, HA, HJ81, BK151, BK152, BK153, BK154, HB⟩ := hcut
              cases kq with
              | zero => exact absurd HA.out (by simp [bourneref20_Maybe.j5])
              | succ kj81 =>
               have H := HA.out
               clear HA
               simp only [bourneref20_Maybe.j5] at H
               have HC97 := Aside0.mk H
               clear H
               go_upto_region 10 with (fail)
               go_cut [9] (fun v9 wc => ∃ (kq : Nat) (x9_96 : Bool), v9 = .bool x9_96 ∧ Aside0 (bourneref20_Maybe.j6 kq x7_28 x9_96 x10_58 x11_81 a1_0 a1_1 a1_2 a1_3 a1_4 = some (r1, r2, r3, r4, r5)) ∧ Aside0 (kq ≤ kj81) ∧ Aside0 (wc.heap[gb151]? = some (.cells #[.string a0_0, .int .i64 a0_1, .int .i64 a0_2, .int .i64 a0_3, (.slice A0_4 l0_4.length c0_4), (.slice A0_5 l0_5.length c0_5), (.slice A0_6 l0_6.length c0_6), .int .i64 a0_7, .int .i64 a0_8, .int .i64 a0_9, .int .i64 a0_10, .int .i64 a0_11, .int .i64 a0_12, .int .i64 a0_13, .int .i64 a0_14, .int .i64 a0_15, .int .i64 a0_16, .int .i64 a0_17] 26 (0, 0))) ∧ Aside0 (wc.heap[gb152]? = some (.cells #[.int .i64 a1_0, .int .i64 a1_1, .int .i64 a1_2, .int .i64 a1_3, .int .i64 a1_4] 32 (0, 0))) ∧ Aside0 (wc.heap[gb153]? = some (.cells #[.int .i64 a2_0, .int .i64 a2_1] 30 (0, 0))) ∧ Aside0 (wc.heap[gb154]? = some (.cells #[.int .i64 0, .int .i64 0, .int .i64 0, .int .i64 0, .int .i64 0] 32 (0, 0))) ∧ Aside0 (Below w.heap.size w wc))
               case first =>
                have H := HC97.out
                clear HC97
                by_cases c98 : (decide (a2_1 ≥ a0_13)) = true
                ·rw [if_pos c98] at H
                 have c98b0 : (decide (a2_1 ≥ a0_13)) = true := c98
                 clear c98
                 (first | rw [c98b0] | (simp only [i64_w, i32_w]; rw [c98b0]) | skip)
                 as_aux_lemma =>
                  have H' := Aside0.mk H
                  clear H
                  go_wp2
                  go_meet
                  case rel => exact ⟨_, (true), (by first | rfl | (simp; done) | (simp [*]; done)), H', ⟨by have := HJ3.out; have := HJ28.out; have := HJ38.out; have := HJ48.out; have := HJ58.out; have := HJ81.out; first | omega | exact Nat.le_refl _⟩, ⟨by (with_reducible repeat (first | refine blk_drewN ?_ _ | refine blk_drew ?_ | refine blk_alloc ?_ _)); exact BK151.out⟩, ⟨by (with_reducible repeat (first | refine blk_drewN ?_ _ | refine blk_drew ?_ | refine blk_alloc ?_ _)); exact BK152.out⟩, ⟨by (with_reducible repeat (first | refine blk_drewN ?_ _ | refine blk_drew ?_ | refine blk_alloc ?_ _)); exact BK153.out⟩, ⟨by (with_reducible repeat (first | refine blk_drewN ?_ _ | refine blk_drew ?_ | refine blk_alloc ?_ _)); exact BK154.out⟩, ⟨ahx⟩⟩
                ·rw [if_neg c98] at H
                 have c98b0 : (decide (a2_1 ≥ a0_13)) = false := by simpa using c98
                 clear c98
                 (first | rw [c98b0] | (simp only [i64_w, i32_w]; rw [c98b0]) | skip)
                 by_cases c99 : x11_81 = true
                 ·subst c99
                  have H1 : (bourneref20_Maybe.j6 kj81 x7_28 x8_38 x10_58 true a1_0 a1_1 a1_2 a1_3 a1_4) = some (r1, r2, r3, r4, r5) := by rw [if_pos rfl] at H; exact H
                  clear H
                  have H := H1
                  clear H1
                  as_aux_lemma =>
                   have H' := Aside0.mk H
                   clear H
                   go_wp2
                   go_meet
                   case rel => exact ⟨_, (x8_38), (by first | rfl | (simp; done) | (simp [*]; done)), H', ⟨by have := HJ3.out; have := HJ28.out; have := HJ38.out; have := HJ48.out; have := HJ58.out; have := HJ81.out; first | omega | exact Nat.le_refl _⟩, ⟨by (with_reducible repeat (first | refine blk_drewN ?_ _ | refine blk_drew ?_ | refine blk_alloc ?_ _)); exact BK151.out⟩, ⟨by (with_reducible repeat (first | refine blk_drewN ?_ _ | refine blk_drew ?_ | refine blk_alloc ?_ _)); exact BK152.out⟩, ⟨by (with_reducible repeat (first | refine blk_drewN ?_ _ | refine blk_drew ?_ | refine blk_alloc ?_ _)); exact BK153.out⟩, ⟨by (with_reducible repeat (first | refine blk_drewN ?_ _ | refine blk_drew ?_ | refine blk_alloc ?_ _)); exact BK154.out⟩, ⟨ahx⟩⟩
                 ·replace c99 := Bool.eq_false_iff.mpr c99
                  subst c99
                  have H1 : (bourneref20_Maybe.j6 kj81 x7_28 false x10_58 false a1_0 a1_1 a1_2 a1_3 a1_4) = some (r1, r2, r3, r4, r5) := by rw [if_neg (show ¬ (false = true) by decide)] at H; exact H
                  clear H
                  have H := H1
                  clear H1
                  as_aux_lemma =>
                   have H' := Aside0.mk H
                   clear H
                   go_wp2
                   go_meet
                   case rel => exact ⟨_, (false), (by first | rfl | (simp; done) | (simp [*]; done)), H', ⟨by have := HJ3.out; have := HJ28.out; have := HJ38.out; have := HJ48.out; have := HJ58.out; have := HJ81.out; first | omega | exact Nat.le_refl _⟩, ⟨by (with_reducible repeat (first | refine blk_drewN ?_ _ | refine blk_drew ?_ | refine blk_alloc ?_ _)); exact BK151.out⟩, ⟨by (with_reducible repeat (first | refine blk_drewN ?_ _ | refine blk_drew ?_ | refine blk_alloc ?_ _)); exact BK152.out⟩, ⟨by (with_reducible repeat (first | refine blk_drewN ?_ _ | refine blk_drew ?_ | refine blk_alloc ?_ _)); exact BK153.out⟩, ⟨by (with_reducible repeat (first | refine blk_drewN ?_ _ | refine blk_drew ?_ | refine blk_alloc ?_ _)); exact BK154.out⟩, ⟨ahx⟩⟩
               case rest =>
                clear HC97
                try clear c1
                try clear c2
                try clear p2
                try clear c3
                try clear c4
                try clear c5
                try clear c6
                try clear c7
                try clear c8
                try clear c9
                try clear c9b0
                try clear c9b1
                try clear c10
                try clear c11
                try clear c12
                try clear c14
                try clear c15
                try clear c17
                try clear c18
                try clear c19
                try clear c21
                try clear c22
                try clear c23
                try clear c24
                try clear c26
                try clear c27
                try clear c30
                try clear c30b0
                try clear c31
                try clear c32
                try clear c33
                try clear c35
                try clear c36
                try clear c37
                try clear c40
                try clear c40b0
                try clear c41
                try clear c42
                try clear c43
                try clear c45
                try clear c46
                try clear c47
                try clear c50
                try clear c51
                try clear c52
                try clear c53
                try clear c54
                try clear c56
                try clear c57
                try clear c60
                try clear c61
                try clear c62
                try clear c64
                try clear c65
                try clear c67
                try clear c67b0
                try clear c68
                try clear c69
                try clear c70
                try clear c72
                try clear c73
                try clear c75
                try clear c76
                try clear c77
                try clear c79
                try clear c80
                try clear c83
                try clear c83b0
                try clear c85
                try clear c86
                try clear c87
                try clear c89
                try clear c90
                try clear c93
                try clear c94
                try clear c95
                try clear c98
                try clear c98b0
                try clear c99
                try clear hcz13_0
                try clear hcz13_1
                try clear hcz13_10
                try clear hcz13_11
                try clear hcz13_12
                try clear hcz13_13
                try clear hcz13_14
                try clear hcz13_15
                try clear hcz13_16
                try clear hcz13_17
                try clear hcz13_2
                try clear hcz13_3
                try clear hcz13_4
                try clear hcz13_5
                try clear hcz13_6
                try clear hcz13_7
                try clear hcz13_8
                try clear hcz13_9
                try clear hcz16_0
                try clear hcz16_1
                try clear hcz20_0
                try clear hcz20_1
                try clear hcz20_10
                try clear hcz20_11
                try clear hcz20_12
                try clear hcz20_13
                try clear hcz20_14
                try clear hcz20_15
                try clear hcz20_16
                try clear hcz20_17
                try clear hcz20_2
                try clear hcz20_3
                try clear hcz20_4
                try clear hcz20_5
                try clear hcz20_6
                try clear hcz20_7
                try clear hcz20_8
                try clear hcz20_9
                try clear hcz25_0
                try clear hcz25_1
                try clear hcz25_2
                try clear hcz25_3
                try clear hcz25_4
                try clear hcz28_0
                try clear hcz28_1
                try clear hcz28_2
                try clear hcz28_3
                try clear hcz28_4
                try clear hcz34_0
                try clear hcz34_1
                try clear hcz34_2
                try clear hcz34_3
                try clear hcz34_4
                try clear hcz38_0
                try clear hcz38_1
                try clear hcz38_2
                try clear hcz38_3
                try clear hcz38_4
                try clear hcz44_0
                try clear hcz44_1
                try clear hcz44_2
                try clear hcz44_3
                try clear hcz44_4
                try clear hcz48_0
                try clear hcz48_1
                try clear hcz48_2
                try clear hcz48_3
                try clear hcz48_4
                try clear hcz55_0
                try clear hcz55_1
                try clear hcz55_2
                try clear hcz55_3
                try clear hcz55_4
                try clear hcz58_0
                try clear hcz58_1
                try clear hcz58_2
                try clear hcz58_3
                try clear hcz58_4
                try clear hcz63_0
                try clear hcz63_1
                try clear hcz66_0
                try clear hcz66_1
                try clear hcz66_10
                try clear hcz66_11
                try clear hcz66_12
                try clear hcz66_13
                try clear hcz66_14
                try clear hcz66_15
                try clear hcz66_16
                try clear hcz66_17
                try clear hcz66_2
                try clear hcz66_3
                try clear hcz66_4
                try clear hcz66_5
                try clear hcz66_6
                try clear hcz66_7
                try clear hcz66_8
                try clear hcz66_9
                try clear hcz71_0
                try clear hcz71_1
                try clear hcz74_0
                try clear hcz74_1
                try clear hcz74_10
                try clear hcz74_11
                try clear hcz74_12
                try clear hcz74_13
                try clear hcz74_14
                try clear hcz74_15
                try clear hcz74_16
                try clear hcz74_17
                try clear hcz74_2
                try clear hcz74_3
                try clear hcz74_4
                try clear hcz74_5
                try clear hcz74_6
                try clear hcz74_7
                try clear hcz74_8
                try clear hcz74_9
                try clear hcz78_0
                try clear hcz78_1
                try clear hcz81_0
                try clear hcz81_1
                try clear hcz81_10
                try clear hcz81_11
                try clear hcz81_12
                try clear hcz81_13
                try clear hcz81_14
                try clear hcz81_15
                try clear hcz81_16
                try clear hcz81_17
                try clear hcz81_2
                try clear hcz81_3
                try clear hcz81_4
                try clear hcz81_5
                try clear hcz81_6
                try clear hcz81_7
                try clear hcz81_8
                try clear hcz81_9
                try clear hcz88_0
                try clear hcz88_1
                try clear hcz88_10
                try clear hcz88_11
                try clear hcz88_12
                try clear hcz88_13
                try clear hcz88_14
                try clear hcz88_15
                try clear hcz88_16
                try clear hcz88_17
                try clear hcz88_2
                try clear hcz88_3
                try clear hcz88_4
                try clear hcz88_5
                try clear hcz88_6
                try clear hcz88_7
                try clear hcz88_8
                try clear hcz88_9
                try clear hcz91_0
                try clear hcz91_1
                try clear hcz96_0
                try clear hcz96_1
                try clear hcz96_10
                try clear hcz96_11
                try clear hcz96_12
                try clear hcz96_13
                try clear hcz96_14
                try clear hcz96_15
                try clear hcz96_16
                try clear hcz96_17
                try clear hcz96_2
                try clear hcz96_3
                try clear hcz96_4
                try clear hcz96_5
                try clear hcz96_6
                try clear hcz96_7
                try clear hcz96_8
                try clear hcz96_9
                try clear hfz13_0
                try clear hfz13_1
                try clear hfz13_10
                try clear hfz13_11
                try clear hfz13_12
                try clear hfz13_13
                try clear hfz13_14
                try clear hfz13_15
                try clear hfz13_16
                try clear hfz13_17
                try clear hfz13_2
                try clear hfz13_3
                try clear hfz13_4
                try clear hfz13_5
                try clear hfz13_6
                try clear hfz13_7
                try clear hfz13_8
                try clear hfz13_9
                try clear hfz16_0
                try clear hfz16_1
                try clear hfz20_0
                try clear hfz20_1
                try clear hfz20_10
                try clear hfz20_11
                try clear hfz20_12
                try clear hfz20_13
                try clear hfz20_14
                try clear hfz20_15
                try clear hfz20_16
                try clear hfz20_17
                try clear hfz20_2
                try clear hfz20_3
                try clear hfz20_4
                try clear hfz20_5
                try clear hfz20_6
                try clear hfz20_7
                try clear hfz20_8
                try clear hfz20_9
                try clear hfz25_0
                try clear hfz25_1
                try clear hfz25_2
                try clear hfz25_3
                try clear hfz25_4
                try clear hfz28_0
                try clear hfz28_1
                try clear hfz28_2
                try clear hfz28_3
                try clear hfz28_4
                try clear hfz34_0
                try clear hfz34_1
                try clear hfz34_2
                try clear hfz34_3
                try clear hfz34_4
                try clear hfz38_0
                try clear hfz38_1
                try clear hfz38_2
                try clear hfz38_3
                try clear hfz38_4
                try clear hfz44_0
                try clear hfz44_1
                try clear hfz44_2
                try clear hfz44_3
                try clear hfz44_4
                try clear hfz48_0
                try clear hfz48_1
                try clear hfz48_2
                try clear hfz48_3
                try clear hfz48_4
                try clear hfz55_0
                try clear hfz55_1
                try clear hfz55_2
                try clear hfz55_3
                try clear hfz55_4
                try clear hfz58_0
                try clear hfz58_1
                try clear hfz58_2
                try clear hfz58_3
                try clear hfz58_4
                try clear hfz63_0
                try clear hfz63_1
                try clear hfz66_0
                try clear hfz66_1
                try clear hfz66_10
                try clear hfz66_11
                try clear hfz66_12
                try clear hfz66_13
                try clear hfz66_14
                try clear hfz66_15
                try clear hfz66_16
                try clear hfz66_17
                try clear hfz66_2
                try clear hfz66_3
                try clear hfz66_4
                try clear hfz66_5
                try clear hfz66_6
                try clear hfz66_7
                try clear hfz66_8
                try clear hfz66_9
                try clear hfz71_0
                try clear hfz71_1
                try clear hfz74_0
                try clear hfz74_1
                try clear hfz74_10
                try clear hfz74_11
                try clear hfz74_12
                try clear hfz74_13
                try clear hfz74_14
                try clear hfz74_15
                try clear hfz74_16
                try clear hfz74_17
                try clear hfz74_2
                try clear hfz74_3
                try clear hfz74_4
                try clear hfz74_5
                try clear hfz74_6
                try clear hfz74_7
                try clear hfz74_8
                try clear hfz74_9
                try clear hfz78_0
                try clear hfz78_1
                try clear hfz81_0
                try clear hfz81_1
                try clear hfz81_10
                try clear hfz81_11
                try clear hfz81_12
                try clear hfz81_13
                try clear hfz81_14
                try clear hfz81_15
                try clear hfz81_16
                try clear hfz81_17
                try clear hfz81_2
                try clear hfz81_3
                try clear hfz81_4
                try clear hfz81_5
                try clear hfz81_6
                try clear hfz81_7
                try clear hfz81_8
                try clear hfz81_9
                try clear hfz88_0
                try clear hfz88_1
                try clear hfz88_10
                try clear hfz88_11
                try clear hfz88_12
                try clear hfz88_13
                try clear hfz88_14
                try clear hfz88_15
                try clear hfz88_16
                try clear hfz88_17
                try clear hfz88_2
                try clear hfz88_3
                try clear hfz88_4
                try clear hfz88_5
                try clear hfz88_6
                try clear hfz88_7
                try clear hfz88_8
                try clear hfz88_9
                try clear hfz91_0
                try clear hfz91_1
                try clear hfz96_0
                try clear hfz96_1
                try clear hfz96_10
                try clear hfz96_11
                try clear hfz96_12
                try clear hfz96_13
                try clear hfz96_14
                try clear hfz96_15
                try clear hfz96_16
                try clear hfz96_17
                try clear hfz96_2
                try clear hfz96_3
                try clear hfz96_4
                try clear hfz96_5
                try clear hfz96_6
                try clear hfz96_7
                try clear hfz96_8
                try clear hfz96_9
                try clear p2
                obtain ⟨kq, x9_96, rfl, HA, HJ96, BK151, BK152, BK153, BK154, HB⟩ := hcut
                cases kq with
                | zero => exact absurd HA.out (by simp [bourneref20_Maybe.j6])
                | succ kj96 =>
                 have H := HA.out
                 clear HA
                 simp only [bourneref20_Maybe.j6] at H
                 have HC100 := Aside0.mk H
                 clear H
                 go_upto_region 11 with (fail)
                 go_cut [10] (fun v10 wc => ∃ (kq : Nat) (x10_99 : Bool), v10 = .bool x10_99 ∧ Aside0 (bourneref20_Maybe.j7 kq x9_96 x10_99 a1_0 a1_1 a1_2 a1_3 a1_4 = some (r1, r2, r3, r4, r5)) ∧ Aside0 (kq ≤ kj96) ∧ Aside0 (wc.heap[gb151]? = some (.cells #[.string a0_0, .int .i64 a0_1, .int .i64 a0_2, .int .i64 a0_3, (.slice A0_4 l0_4.length c0_4), (.slice A0_5 l0_5.length c0_5), (.slice A0_6 l0_6.length c0_6), .int .i64 a0_7, .int .i64 a0_8, .int .i64 a0_9, .int .i64 a0_10, .int .i64 a0_11, .int .i64 a0_12, .int .i64 a0_13, .int .i64 a0_14, .int .i64 a0_15, .int .i64 a0_16, .int .i64 a0_17] 26 (0, 0))) ∧ Aside0 (wc.heap[gb152]? = some (.cells #[.int .i64 a1_0, .int .i64 a1_1, .int .i64 a1_2, .int .i64 a1_3, .int .i64 a1_4] 32 (0, 0))) ∧ Aside0 (wc.heap[gb153]? = some (.cells #[.int .i64 a2_0, .int .i64 a2_1] 30 (0, 0))) ∧ Aside0 (wc.heap[gb154]? = some (.cells #[.int .i64 0, .int .i64 0, .int .i64 0, .int .i64 0, .int .i64 0] 32 (0, 0))) ∧ Aside0 (Below w.heap.size w wc))
                 case first =>
                  have H := HC100.out
                  clear HC100
                  by_cases c101 : x10_58 = true
                  ·subst c101
                   have H1 : (bourneref20_Maybe.j7 kj96 x9_96 true a1_0 a1_1 a1_2 a1_3 a1_4) = some (r1, r2, r3, r4, r5) := by rw [if_pos rfl] at H; exact H
                   clear H
                   have H := H1
                   clear H1
                   as_aux_lemma =>
                    have H' := Aside0.mk H
                    clear H
                    go_wp2
                    go_meet
                    case rel => exact ⟨_, (true), (by first | rfl | (simp; done) | (simp [*]; done)), H', ⟨by have := HJ3.out; have := HJ28.out; have := HJ38.out; have := HJ48.out; have := HJ58.out; have := HJ81.out; have := HJ96.out; first | omega | exact Nat.le_refl _⟩, ⟨by (with_reducible repeat (first | refine blk_drewN ?_ _ | refine blk_drew ?_ | refine blk_alloc ?_ _)); exact BK151.out⟩, ⟨by (with_reducible repeat (first | refine blk_drewN ?_ _ | refine blk_drew ?_ | refine blk_alloc ?_ _)); exact BK152.out⟩, ⟨by (with_reducible repeat (first | refine blk_drewN ?_ _ | refine blk_drew ?_ | refine blk_alloc ?_ _)); exact BK153.out⟩, ⟨by (with_reducible repeat (first | refine blk_drewN ?_ _ | refine blk_drew ?_ | refine blk_alloc ?_ _)); exact BK154.out⟩, ⟨ahx⟩⟩
                  ·replace c101 := Bool.eq_false_iff.mpr c101
                   subst c101
                   have H1 : (if x11_81 = true then (bourneref20_Maybe.j7 kj96 x9_96 x7_28 a1_0 a1_1 a1_2 a1_3 a1_4) else (bourneref20_Maybe.j7 kj96 x9_96 false a1_0 a1_1 a1_2 a1_3 a1_4)) = some (r1, r2, r3, r4, r5) := by rw [if_neg (show ¬ (false = true) by decide)] at H; exact H
                   clear H
                   have H := H1
                   clear H1
                   by_cases c102 : x11_81 = true
                   ·subst c102
                    have H1 : (bourneref20_Maybe.j7 kj96 x9_96 x7_28 a1_0 a1_1 a1_2 a1_3 a1_4) = some (r1, r2, r3, r4, r5) := by rw [if_pos rfl] at H; exact H
                    clear H
                    have H := H1
                    clear H1
                    as_aux_lemma =>
                     have H' := Aside0.mk H
                     clear H
                     go_wp2
                     go_meet
                     case rel => exact ⟨_, (x7_28), (by first | rfl | (simp; done) | (simp [*]; done)), H', ⟨by have := HJ3.out; have := HJ28.out; have := HJ38.out; have := HJ48.out; have := HJ58.out; have := HJ81.out; have := HJ96.out; first | omega | exact Nat.le_refl _⟩, ⟨by (with_reducible repeat (first | refine blk_drewN ?_ _ | refine blk_drew ?_ | refine blk_alloc ?_ _)); exact BK151.out⟩, ⟨by (with_reducible repeat (first | refine blk_drewN ?_ _ | refine blk_drew ?_ | refine blk_alloc ?_ _)); exact BK152.out⟩, ⟨by (with_reducible repeat (first | refine blk_drewN ?_ _ | refine blk_drew ?_ | refine blk_alloc ?_ _)); exact BK153.out⟩, ⟨by (with_reducible repeat (first | refine blk_drewN ?_ _ | refine blk_drew ?_ | refine blk_alloc ?_ _)); exact BK154.out⟩, ⟨ahx⟩⟩
                   ·replace c102 := Bool.eq_false_iff.mpr c102
                    subst c102
                    have H1 : (bourneref20_Maybe.j7 kj96 x9_96 false a1_0 a1_1 a1_2 a1_3 a1_4) = some (r1, r2, r3, r4, r5) := by rw [if_neg (show ¬ (false = true) by decide)] at H; exact H
                    clear H
                    have H := H1
                    clear H1
                    as_aux_lemma =>
                     have H' := Aside0.mk H
                     clear H
                     go_wp2
                     go_meet
                     case rel => exact ⟨_, (false), (by first | rfl | (simp; done) | (simp [*]; done)), H', ⟨by have := HJ3.out; have := HJ28.out; have := HJ38.out; have := HJ48.out; have := HJ58.out; have := HJ81.out; have := HJ96.out; first | omega | exact Nat.le_refl _⟩, ⟨by (with_reducible repeat (first | refine blk_drewN ?_ _ | refine blk_drew ?_ | refine blk_alloc ?_ _)); exact BK151.out⟩, ⟨by (with_reducible repeat (first | refine blk_drewN ?_ _ | refine blk_drew ?_ | refine blk_alloc ?_ _)); exact BK152.out⟩, ⟨by (with_reducible repeat (first | refine blk_drewN ?_ _ | refine blk_drew ?_ | refine blk_alloc ?_ _)); exact BK153.out⟩, ⟨by (with_reducible repeat (first | refine blk_drewN ?_ _ | refine blk_drew ?_ | refine blk_alloc ?_ _)); exact BK154.out⟩, ⟨ahx⟩⟩
                 case rest =>
                  clear HC100
                  try clear c1
                  try clear c2
                  try clear p2
                  try clear c3
                  try clear c4
                  try clear c5
                  try clear c6
                  try clear c7
                  try clear c8
                  try clear c9
                  try clear c9b0
                  try clear c9b1
                  try clear c10
                  try clear c11
                  try clear c12
                  try clear c14
                  try clear c15
                  try clear c17
                  try clear c18
                  try clear c19
                  try clear c21
                  try clear c22
                  try clear c23
                  try clear c24
                  try clear c26
                  try clear c27
                  try clear c30
                  try clear c30b0
                  try clear c31
                  try clear c32
                  try clear c33
                  try clear c35
                  try clear c36
                  try clear c37
                  try clear c40
                  try clear c40b0
                  try clear c41
                  try clear c42
                  try clear c43
                  try clear c45
                  try clear c46
                  try clear c47
                  try clear c50
                  try clear c51
                  try clear c52
                  try clear c53
                  try clear c54
                  try clear c56
                  try clear c57
                  try clear c60
                  try clear c61
                  try clear c62
                  try clear c64
                  try clear c65
                  try clear c67
                  try clear c67b0
                  try clear c68
                  try clear c69
                  try clear c70
                  try clear c72
                  try clear c73
                  try clear c75
                  try clear c76
                  try clear c77
                  try clear c79
                  try clear c80
                  try clear c83
                  try clear c83b0
                  try clear c85
                  try clear c86
                  try clear c87
                  try clear c89
                  try clear c90
                  try clear c93
                  try clear c94
                  try clear c95
                  try clear c98
                  try clear c98b0
                  try clear c99
                  try clear c101
                  try clear c102
                  try clear hcz13_0
                  try clear hcz13_1
                  try clear hcz13_10
                  try clear hcz13_11
                  try clear hcz13_12
                  try clear hcz13_13
                  try clear hcz13_14
                  try clear hcz13_15
                  try clear hcz13_16
                  try clear hcz13_17
                  try clear hcz13_2
                  try clear hcz13_3
                  try clear hcz13_4
                  try clear hcz13_5
                  try clear hcz13_6
                  try clear hcz13_7
                  try clear hcz13_8
                  try clear hcz13_9
                  try clear hcz16_0
                  try clear hcz16_1
                  try clear hcz20_0
                  try clear hcz20_1
                  try clear hcz20_10
                  try clear hcz20_11
                  try clear hcz20_12
                  try clear hcz20_13
                  try clear hcz20_14
                  try clear hcz20_15
                  try clear hcz20_16
                  try clear hcz20_17
                  try clear hcz20_2
                  try clear hcz20_3
                  try clear hcz20_4
                  try clear hcz20_5
                  try clear hcz20_6
                  try clear hcz20_7
                  try clear hcz20_8
                  try clear hcz20_9
                  try clear hcz25_0
                  try clear hcz25_1
                  try clear hcz25_2
                  try clear hcz25_3
                  try clear hcz25_4
                  try clear hcz28_0
                  try clear hcz28_1
                  try clear hcz28_2
                  try clear hcz28_3
                  try clear hcz28_4
                  try clear hcz34_0
                  try clear hcz34_1
                  try clear hcz34_2
                  try clear hcz34_3
                  try clear hcz34_4
                  try clear hcz38_0
                  try clear hcz38_1
                  try clear hcz38_2
                  try clear hcz38_3
                  try clear hcz38_4
                  try clear hcz44_0
                  try clear hcz44_1
                  try clear hcz44_2
                  try clear hcz44_3
                  try clear hcz44_4
                  try clear hcz48_0
                  try clear hcz48_1
                  try clear hcz48_2
                  try clear hcz48_3
                  try clear hcz48_4
                  try clear hcz55_0
                  try clear hcz55_1
                  try clear hcz55_2
                  try clear hcz55_3
                  try clear hcz55_4
                  try clear hcz58_0
                  try clear hcz58_1
                  try clear hcz58_2
                  try clear hcz58_3
                  try clear hcz58_4
                  try clear hcz63_0
                  try clear hcz63_1
                  try clear hcz66_0
                  try clear hcz66_1
                  try clear hcz66_10
                  try clear hcz66_11
                  try clear hcz66_12
                  try clear hcz66_13
                  try clear hcz66_14
                  try clear hcz66_15
                  try clear hcz66_16
                  try clear hcz66_17
                  try clear hcz66_2
                  try clear hcz66_3
                  try clear hcz66_4
                  try clear hcz66_5
                  try clear hcz66_6
                  try clear hcz66_7
                  try clear hcz66_8
                  try clear hcz66_9
                  try clear hcz71_0
                  try clear hcz71_1
                  try clear hcz74_0
                  try clear hcz74_1
                  try clear hcz74_10
                  try clear hcz74_11
                  try clear hcz74_12
                  try clear hcz74_13
                  try clear hcz74_14
                  try clear hcz74_15
                  try clear hcz74_16
                  try clear hcz74_17
                  try clear hcz74_2
                  try clear hcz74_3
                  try clear hcz74_4
                  try clear hcz74_5
                  try clear hcz74_6
                  try clear hcz74_7
                  try clear hcz74_8
                  try clear hcz74_9
                  try clear hcz78_0
                  try clear hcz78_1
                  try clear hcz81_0
                  try clear hcz81_1
                  try clear hcz81_10
                  try clear hcz81_11
                  try clear hcz81_12
                  try clear hcz81_13
                  try clear hcz81_14
                  try clear hcz81_15
                  try clear hcz81_16
                  try clear hcz81_17
                  try clear hcz81_2
                  try clear hcz81_3
                  try clear hcz81_4
                  try clear hcz81_5
                  try clear hcz81_6
                  try clear hcz81_7
                  try clear hcz81_8
                  try clear hcz81_9
                  try clear hcz88_0
                  try clear hcz88_1
                  try clear hcz88_10
                  try clear hcz88_11
                  try clear hcz88_12
                  try clear hcz88_13
                  try clear hcz88_14
                  try clear hcz88_15
                  try clear hcz88_16
                  try clear hcz88_17
                  try clear hcz88_2
                  try clear hcz88_3
                  try clear hcz88_4
                  try clear hcz88_5
                  try clear hcz88_6
                  try clear hcz88_7
                  try clear hcz88_8
                  try clear hcz88_9
                  try clear hcz91_0
                  try clear hcz91_1
                  try clear hcz96_0
                  try clear hcz96_1
                  try clear hcz96_10
                  try clear hcz96_11
                  try clear hcz96_12
                  try clear hcz96_13
                  try clear hcz96_14
                  try clear hcz96_15
                  try clear hcz96_16
                  try clear hcz96_17
                  try clear hcz96_2
                  try clear hcz96_3
                  try clear hcz96_4
                  try clear hcz96_5
                  try clear hcz96_6
                  try clear hcz96_7
                  try clear hcz96_8
                  try clear hcz96_9
                  try clear hfz13_0
                  try clear hfz13_1
                  try clear hfz13_10
                  try clear hfz13_11
                  try clear hfz13_12
                  try clear hfz13_13
                  try clear hfz13_14
                  try clear hfz13_15
                  try clear hfz13_16
                  try clear hfz13_17
                  try clear hfz13_2
                  try clear hfz13_3
                  try clear hfz13_4
                  try clear hfz13_5
                  try clear hfz13_6
                  try clear hfz13_7
                  try clear hfz13_8
                  try clear hfz13_9
                  try clear hfz16_0
                  try clear hfz16_1
                  try clear hfz20_0
                  try clear hfz20_1
                  try clear hfz20_10
                  try clear hfz20_11
                  try clear hfz20_12
                  try clear hfz20_13
                  try clear hfz20_14
                  try clear hfz20_15
                  try clear hfz20_16
                  try clear hfz20_17
                  try clear hfz20_2
                  try clear hfz20_3
                  try clear hfz20_4
                  try clear hfz20_5
                  try clear hfz20_6
                  try clear hfz20_7
                  try clear hfz20_8
                  try clear hfz20_9
                  try clear hfz25_0
                  try clear hfz25_1
                  try clear hfz25_2
                  try clear hfz25_3
                  try clear hfz25_4
                  try clear hfz28_0
                  try clear hfz28_1
                  try clear hfz28_2
                  try clear hfz28_3
                  try clear hfz28_4
                  try clear hfz34_0
                  try clear hfz34_1
                  try clear hfz34_2
                  try clear hfz34_3
                  try clear hfz34_4
                  try clear hfz38_0
                  try clear hfz38_1
                  try clear hfz38_2
                  try clear hfz38_3
                  try clear hfz38_4
                  try clear hfz44_0
                  try clear hfz44_1
                  try clear hfz44_2
                  try clear hfz44_3
                  try clear hfz44_4
                  try clear hfz48_0
                  try clear hfz48_1
                  try clear hfz48_2
                  try clear hfz48_3
                  try clear hfz48_4
                  try clear hfz55_0
                  try clear hfz55_1
                  try clear hfz55_2
                  try clear hfz55_3
                  try clear hfz55_4
                  try clear hfz58_0
                  try clear hfz58_1
                  try clear hfz58_2
                  try clear hfz58_3
                  try clear hfz58_4
                  try clear hfz63_0
                  try clear hfz63_1
                  try clear hfz66_0
                  try clear hfz66_1
                  try clear hfz66_10
                  try clear hfz66_11
                  try clear hfz66_12
                  try clear hfz66_13
                  try clear hfz66_14
                  try clear hfz66_15
                  try clear hfz66_16
                  try clear hfz66_17
                  try clear hfz66_2
                  try clear hfz66_3
                  try clear hfz66_4
                  try clear hfz66_5
                  try clear hfz66_6
                  try clear hfz66_7
                  try clear hfz66_8
                  try clear hfz66_9
                  try clear hfz71_0
                  try clear hfz71_1
                  try clear hfz74_0
                  try clear hfz74_1
                  try clear hfz74_10
                  try clear hfz74_11
                  try clear hfz74_12
                  try clear hfz74_13
                  try clear hfz74_14
                  try clear hfz74_15
                  try clear hfz74_16
                  try clear hfz74_17
                  try clear hfz74_2
                  try clear hfz74_3
                  try clear hfz74_4
                  try clear hfz74_5
                  try clear hfz74_6
                  try clear hfz74_7
                  try clear hfz74_8
                  try clear hfz74_9
                  try clear hfz78_0
                  try clear hfz78_1
                  try clear hfz81_0
                  try clear hfz81_1
                  try clear hfz81_10
                  try clear hfz81_11
                  try clear hfz81_12
                  try clear hfz81_13
                  try clear hfz81_14
                  try clear hfz81_15
                  try clear hfz81_16
                  try clear hfz81_17
                  try clear hfz81_2
                  try clear hfz81_3
                  try clear hfz81_4
                  try clear hfz81_5
                  try clear hfz81_6
                  try clear hfz81_7
                  try clear hfz81_8
                  try clear hfz81_9
                  try clear hfz88_0
                  try clear hfz88_1
                  try clear hfz88_10
                  try clear hfz88_11
                  try clear hfz88_12
                  try clear hfz88_13
                  try clear hfz88_14
                  try clear hfz88_15
                  try clear hfz88_16
                  try clear hfz88_17
                  try clear hfz88_2
                  try clear hfz88_3
                  try clear hfz88_4
                  try clear hfz88_5
                  try clear hfz88_6
                  try clear hfz88_7
                  try clear hfz88_8
                  try clear hfz88_9
                  try clear hfz91_0
                  try clear hfz91_1
                  try clear hfz96_0
                  try clear hfz96_1
                  try clear hfz96_10
                  try clear hfz96_11
                  try clear hfz96_12
                  try clear hfz96_13
                  try clear hfz96_14
                  try clear hfz96_15
                  try clear hfz96_16
                  try clear hfz96_17
                  try clear hfz96_2
                  try clear hfz96_3
                  try clear hfz96_4
                  try clear hfz96_5
                  try clear hfz96_6
                  try clear hfz96_7
                  try clear hfz96_8
                  try clear hfz96_9
                  try clear p2
                  obtain ⟨kq, x10_99, rfl, HA, HJ99, BK151, BK152, BK153, BK154, HB⟩ := hcut
                  cases kq with
                  | zero => exact absurd HA.out (by simp [bourneref20_Maybe.j7])
                  | succ kj99 =>
                   have H := HA.out
                   clear HA
                   simp only [bourneref20_Maybe.j7] at H
                   have HC103 := Aside0.mk H
                   clear H
                   go_upto_region 12 with (fail)
                   go_cut [94] (fun v94 wc => ∃ (kq : Nat) (x94_102 : Bool), v94 = .bool x94_102 ∧ Aside0 (bourneref20_Maybe.j8 kq x9_96 x94_102 a1_0 a1_1 a1_2 a1_3 a1_4 = some (r1, r2, r3, r4, r5)) ∧ Aside0 (kq ≤ kj99) ∧ Aside0 (wc.heap[gb151]? = some (.cells #[.string a0_0, .int .i64 a0_1, .int .i64 a0_2, .int .i64 a0_3, (.slice A0_4 l0_4.length c0_4), (.slice A0_5 l0_5.length c0_5), (.slice A0_6 l0_6.length c0_6), .int .i64 a0_7, .int .i64 a0_8, .int .i64 a0_9, .int .i64 a0_10, .int .i64 a0_11, .int .i64 a0_12, .int .i64 a0_13, .int .i64 a0_14, .int .i64 a0_15, .int .i64 a0_16, .int .i64 a0_17] 26 (0, 0))) ∧ Aside0 (wc.heap[gb152]? = some (.cells #[.int .i64 a1_0, .int .i64 a1_1, .int .i64 a1_2, .int .i64 a1_3, .int .i64 a1_4] 32 (0, 0))) ∧ Aside0 (wc.heap[gb153]? = some (.cells #[.int .i64 a2_0, .int .i64 a2_1] 30 (0, 0))) ∧ Aside0 (wc.heap[gb154]? = some (.cells #[.int .i64 0, .int .i64 0, .int .i64 0, .int .i64 0, .int .i64 0] 32 (0, 0))) ∧ Aside0 (Below w.heap.size w wc))
                   case first =>
                    have H := HC103.out
                    clear HC103
                    by_cases c104 : x9_96 = true
                    ·subst c104
                     have H1 : (bourneref20_Maybe.j8 kj99 true x10_99 a1_0 a1_1 a1_2 a1_3 a1_4) = some (r1, r2, r3, r4, r5) := by rw [if_pos rfl] at H; exact H
                     clear H
                     have H := H1
                     clear H1
                     as_aux_lemma =>
                      have H' := Aside0.mk H
                      clear H
                      go_wp2
                      go_meet
                      case rel => exact ⟨_, (x10_99), (by first | rfl | (simp; done) | (simp [*]; done)), H', ⟨by have := HJ3.out; have := HJ28.out; have := HJ38.out; have := HJ48.out; have := HJ58.out; have := HJ81.out; have := HJ96.out; have := HJ99.out; first | omega | exact Nat.le_refl _⟩, ⟨by (with_reducible repeat (first | refine blk_drewN ?_ _ | refine blk_drew ?_ | refine blk_alloc ?_ _)); exact BK151.out⟩, ⟨by (with_reducible repeat (first | refine blk_drewN ?_ _ | refine blk_drew ?_ | refine blk_alloc ?_ _)); exact BK152.out⟩, ⟨by (with_reducible repeat (first | refine blk_drewN ?_ _ | refine blk_drew ?_ | refine blk_alloc ?_ _)); exact BK153.out⟩, ⟨by (with_reducible repeat (first | refine blk_drewN ?_ _ | refine blk_drew ?_ | refine blk_alloc ?_ _)); exact BK154.out⟩, ⟨ahx⟩⟩
                    ·replace c104 := Bool.eq_false_iff.mpr c104
                     subst c104
                     have H1 : (bourneref20_Maybe.j8 kj99 false false a1_0 a1_1 a1_2 a1_3 a1_4) = some (r1, r2, r3, r4, r5) := by rw [if_neg (show ¬ (false = true) by decide)] at H; exact H
                     clear H
                     have H := H1
                     clear H1
                     as_aux_lemma =>
                      have H' := Aside0.mk H
                      clear H
                      go_wp2
                      go_meet
                      case rel => exact ⟨_, (false), (by first | rfl | (simp; done) | (simp [*]; done)), H', ⟨by have := HJ3.out; have := HJ28.out; have := HJ38.out; have := HJ48.out; have := HJ58.out; have := HJ81.out; have := HJ96.out; have := HJ99.out; first | omega | exact Nat.le_refl _⟩, ⟨by (with_reducible repeat (first | refine blk_drewN ?_ _ | refine blk_drew ?_ | refine blk_alloc ?_ _)); exact BK151.out⟩, ⟨by (with_reducible repeat (first | refine blk_drewN ?_ _ | refine blk_drew ?_ | refine blk_alloc ?_ _)); exact BK152.out⟩, ⟨by (with_reducible repeat (first | refine blk_drewN ?_ _ | refine blk_drew ?_ | refine blk_alloc ?_ _)); exact BK153.out⟩, ⟨by (with_reducible repeat (first | refine blk_drewN ?_ _ | refine blk_drew ?_ | refine blk_alloc ?_ _)); exact BK154.out⟩, ⟨ahx⟩⟩
                   case rest =>
                    clear HC103
                    try clear c1
                    try clear c2
                    try clear p2
                    try clear c3
                    try clear c4
                    try clear c5
                    try clear c6
                    try clear c7
                    try clear c8
                    try clear c9
                    try clear c9b0
                    try clear c9b1
                    try clear c10
                    try clear c11
                    try clear c12
                    try clear c14
                    try clear c15
                    try clear c17
                    try clear c18
                    try clear c19
                    try clear c21
                    try clear c22
                    try clear c23
                    try clear c24
                    try clear c26
                    try clear c27
                    try clear c30
                    try clear c30b0
                    try clear c31
                    try clear c32
                    try clear c33
                    try clear c35
                    try clear c36
                    try clear c37
                    try clear c40
                    try clear c40b0
                    try clear c41
                    try clear c42
                    try clear c43
                    try clear c45
                    try clear c46
                    try clear c47
                    try clear c50
                    try clear c51
                    try clear c52
                    try clear c53
                    try clear c54
                    try clear c56
                    try clear c57
                    try clear c60
                    try clear c61
                    try clear c62
                    try clear c64
                    try clear c65
                    try clear c67
                    try clear c67b0
                    try clear c68
                    try clear c69
                    try clear c70
                    try clear c72
                    try clear c73
                    try clear c75
                    try clear c76
                    try clear c77
                    try clear c79
                    try clear c80
                    try clear c83
                    try clear c83b0
                    try clear c85
                    try clear c86
                    try clear c87
                    try clear c89
                    try clear c90
                    try clear c93
                    try clear c94
                    try clear c95
                    try clear c98
                    try clear c98b0
                    try clear c99
                    try clear c101
                    try clear c102
                    try clear c104
                    try clear hcz13_0
                    try clear hcz13_1
                    try clear hcz13_10
                    try clear hcz13_11
                    try clear hcz13_12
                    try clear hcz13_13
                    try clear hcz13_14
                    try clear hcz13_15
                    try clear hcz13_16
                    try clear hcz13_17
                    try clear hcz13_2
                    try clear hcz13_3
                    try clear hcz13_4
                    try clear hcz13_5
                    try clear hcz13_6
                    try clear hcz13_7
                    try clear hcz13_8
                    try clear hcz13_9
                    try clear hcz16_0
                    try clear hcz16_1
                    try clear hcz20_0
                    try clear hcz20_1
                    try clear hcz20_10
                    try clear hcz20_11
                    try clear hcz20_12
                    try clear hcz20_13
                    try clear hcz20_14
                    try clear hcz20_15
                    try clear hcz20_16
                    try clear hcz20_17
                    try clear hcz20_2
                    try clear hcz20_3
                    try clear hcz20_4
                    try clear hcz20_5
                    try clear hcz20_6
                    try clear hcz20_7
                    try clear hcz20_8
                    try clear hcz20_9
                    try clear hcz25_0
                    try clear hcz25_1
                    try clear hcz25_2
                    try clear hcz25_3
                    try clear hcz25_4
                    try clear hcz28_0
                    try clear hcz28_1
                    try clear hcz28_2
                    try clear hcz28_3
                    try clear hcz28_4
                    try clear hcz34_0
                    try clear hcz34_1
                    try clear hcz34_2
                    try clear hcz34_3
                    try clear hcz34_4
                    try clear hcz38_0
                    try clear hcz38_1
                    try clear hcz38_2
                    try clear hcz38_3
                    try clear hcz38_4
                    try clear hcz44_0
                    try clear hcz44_1
                    try clear hcz44_2
                    try clear hcz44_3
                    try clear hcz44_4
                    try clear hcz48_0
                    try clear hcz48_1
                    try clear hcz48_2
                    try clear hcz48_3
                    try clear hcz48_4
                    try clear hcz55_0
                    try clear hcz55_1
                    try clear hcz55_2
                    try clear hcz55_3
                    try clear hcz55_4
                    try clear hcz58_0
                    try clear hcz58_1
                    try clear hcz58_2
                    try clear hcz58_3
                    try clear hcz58_4
                    try clear hcz63_0
                    try clear hcz63_1
                    try clear hcz66_0
                    try clear hcz66_1
                    try clear hcz66_10
                    try clear hcz66_11
                    try clear hcz66_12
                    try clear hcz66_13
                    try clear hcz66_14
                    try clear hcz66_15
                    try clear hcz66_16
                    try clear hcz66_17
                    try clear hcz66_2
                    try clear hcz66_3
                    try clear hcz66_4
                    try clear hcz66_5
                    try clear hcz66_6
                    try clear hcz66_7
                    try clear hcz66_8
                    try clear hcz66_9
                    try clear hcz71_0
                    try clear hcz71_1
                    try clear hcz74_0
                    try clear hcz74_1
                    try clear hcz74_10
                    try clear hcz74_11
                    try clear hcz74_12
                    try clear hcz74_13
                    try clear hcz74_14
                    try clear hcz74_15
                    try clear hcz74_16
                    try clear hcz74_17
                    try clear hcz74_2
                    try clear hcz74_3
                    try clear hcz74_4
                    try clear hcz74_5
                    try clear hcz74_6
                    try clear hcz74_7
                    try clear hcz74_8
                    try clear hcz74_9
                    try clear hcz78_0
                    try clear hcz78_1
                    try clear hcz81_0
                    try clear hcz81_1
                    try clear hcz81_10
                    try clear hcz81_11
                    try clear hcz81_12
                    try clear hcz81_13
                    try clear hcz81_14
                    try clear hcz81_15
                    try clear hcz81_16
                    try clear hcz81_17
                    try clear hcz81_2
                    try clear hcz81_3
                    try clear hcz81_4
                    try clear hcz81_5
                    try clear hcz81_6
                    try clear hcz81_7
                    try clear hcz81_8
                    try clear hcz81_9
                    try clear hcz88_0
                    try clear hcz88_1
                    try clear hcz88_10
                    try clear hcz88_11
                    try clear hcz88_12
                    try clear hcz88_13
                    try clear hcz88_14
                    try clear hcz88_15
                    try clear hcz88_16
                    try clear hcz88_17
                    try clear hcz88_2
                    try clear hcz88_3
                    try clear hcz88_4
                    try clear hcz88_5
                    try clear hcz88_6
                    try clear hcz88_7
                    try clear hcz88_8
                    try clear hcz88_9
                    try clear hcz91_0
                    try clear hcz91_1
                    try clear hcz96_0
                    try clear hcz96_1
                    try clear hcz96_10
                    try clear hcz96_11
                    try clear hcz96_12
                    try clear hcz96_13
                    try clear hcz96_14
                    try clear hcz96_15
                    try clear hcz96_16
                    try clear hcz96_17
                    try clear hcz96_2
                    try clear hcz96_3
                    try clear hcz96_4
                    try clear hcz96_5
                    try clear hcz96_6
                    try clear hcz96_7
                    try clear hcz96_8
                    try clear hcz96_9
                    try clear hfz13_0
                    try clear hfz13_1
                    try clear hfz13_10
                    try clear hfz13_11
                    try clear hfz13_12
                    try clear hfz13_13
                    try clear hfz13_14
                    try clear hfz13_15
                    try clear hfz13_16
                    try clear hfz13_17
                    try clear hfz13_2
                    try clear hfz13_3
                    try clear hfz13_4
                    try clear hfz13_5
                    try clear hfz13_6
                    try clear hfz13_7
                    try clear hfz13_8
                    try clear hfz13_9
                    try clear hfz16_0
                    try clear hfz16_1
                    try clear hfz20_0
                    try clear hfz20_1
                    try clear hfz20_10
                    try clear hfz20_11
                    try clear hfz20_12
                    try clear hfz20_13
                    try clear hfz20_14
                    try clear hfz20_15
                    try clear hfz20_16
                    try clear hfz20_17
                    try clear hfz20_2
                    try clear hfz20_3
                    try clear hfz20_4
                    try clear hfz20_5
                    try clear hfz20_6
                    try clear hfz20_7
                    try clear hfz20_8
                    try clear hfz20_9
                    try clear hfz25_0
                    try clear hfz25_1
                    try clear hfz25_2
                    try clear hfz25_3
                    try clear hfz25_4
                    try clear hfz28_0
                    try clear hfz28_1
                    try clear hfz28_2
                    try clear hfz28_3
                    try clear hfz28_4
                    try clear hfz34_0
                    try clear hfz34_1
                    try clear hfz34_2
                    try clear hfz34_3
                    try clear hfz34_4
                    try clear hfz38_0
                    try clear hfz38_1
                    try clear hfz38_2
                    try clear hfz38_3
                    try clear hfz38_4
                    try clear hfz44_0
                    try clear hfz44_1
                    try clear hfz44_2
                    try clear hfz44_3
                    try clear hfz44_4
                    try clear hfz48_0
                    try clear hfz48_1
                    try clear hfz48_2
                    try clear hfz48_3
                    try clear hfz48_4
                    try clear hfz55_0
                    try clear hfz55_1
                    try clear hfz55_2
                    try clear hfz55_3
                    try clear hfz55_4
                    try clear hfz58_0
                    try clear hfz58_1
                    try clear hfz58_2
                    try clear hfz58_3
                    try clear hfz58_4
                    try clear hfz63_0
                    try clear hfz63_1
                    try clear hfz66_0
                    try clear hfz66_1
                    try clear hfz66_10
                    try clear hfz66_11
                    try clear hfz66_12
                    try clear hfz66_13
                    try clear hfz66_14
                    try clear hfz66_15
                    try clear hfz66_16
                    try clear hfz66_17
                    try clear hfz66_2
                    try clear hfz66_3
                    try clear hfz66_4
                    try clear hfz66_5
                    try clear hfz66_6
                    try clear hfz66_7
                    try clear hfz66_8
                    try clear hfz66_9
                    try clear hfz71_0
                    try clear hfz71_1
                    try clear hfz74_0
                    try clear hfz74_1
                    try clear hfz74_10
                    try clear hfz74_11
                    try clear hfz74_12
                    try clear hfz74_13
                    try clear hfz74_14
                    try clear hfz74_15
                    try clear hfz74_16
                    try clear hfz74_17
                    try clear hfz74_2
                    try clear hfz74_3
                    try clear hfz74_4
                    try clear hfz74_5
                    try clear hfz74_6
                    try clear hfz74_7
                    try clear hfz74_8
                    try clear hfz74_9
                    try clear hfz78_0
                    try clear hfz78_1
                    try clear hfz81_0
                    try clear hfz81_1
                    try clear hfz81_10
                    try clear hfz81_11
                    try clear hfz81_12
                    try clear hfz81_13
                    try clear hfz81_14
                    try clear hfz81_15
                    try clear hfz81_16
                    try clear hfz81_17
                    try clear hfz81_2
                    try clear hfz81_3
                    try clear hfz81_4
                    try clear hfz81_5
                    try clear hfz81_6
                    try clear hfz81_7
                    try clear hfz81_8
                    try clear hfz81_9
                    try clear hfz88_0
                    try clear hfz88_1
                    try clear hfz88_10
                    try clear hfz88_11
                    try clear hfz88_12
                    try clear hfz88_13
                    try clear hfz88_14
                    try clear hfz88_15
                    try clear hfz88_16
                    try clear hfz88_17
                    try clear hfz88_2
                    try clear hfz88_3
                    try clear hfz88_4
                    try clear hfz88_5
                    try clear hfz88_6
                    try clear hfz88_7
                    try clear hfz88_8
                    try clear hfz88_9
                    try clear hfz91_0
                    try clear hfz91_1
                    try clear hfz96_0
                    try clear hfz96_1
                    try clear hfz96_10
                    try clear hfz96_11
                    try clear hfz96_12
                    try clear hfz96_13
                    try clear hfz96_14
                    try clear hfz96_15
                    try clear hfz96_16
                    try clear hfz96_17
                    try clear hfz96_2
                    try clear hfz96_3
                    try clear hfz96_4
                    try clear hfz96_5
                    try clear hfz96_6
                    try clear hfz96_7
                    try clear hfz96_8
                    try clear hfz96_9
                    try clear p2
                    obtain ⟨kq, x94_102, rfl, HA, HJ102, BK151, BK152, BK153, BK154, HB⟩ := hcut
                    cases kq with
                    | zero => exact absurd HA.out (by simp [bourneref20_Maybe.j8])
                    | succ kj102 =>
                     have H := HA.out
                     clear HA
                     simp only [bourneref20_Maybe.j8] at H
                     by_cases c105 : x94_102 = true
                     ·subst c105
                      have H1 : (some (a1_0, a1_1, a1_2, 0, 1)) = some (r1, r2, r3, r4, r5) := by rw [if_pos rfl] at H; exact H
                      clear H
                      have H := H1
                      clear H1
                      as_aux_lemma =>
                       simp only [Option.some.injEq, Prod.mk.injEq] at H
                       obtain ⟨rfl, rfl, rfl, rfl, rfl⟩ := H
                       have hnb106 := NB152_151.out
                       have hnc106 := NB151_152.out
                       have hnb107 := NB152_153.out
                       have hnc107 := NB153_152.out
                       have hnb108 := NB152_154.out
                       have hnc108 := NB154_152.out
                       have hcz109_0 : wc.cell? ⟨gb152, 0, none⟩ = some (.int .i64 a1_0) := (blk_cell BK152.out 0).trans rfl
                       have hcz109_1 : wc.cell? ⟨gb152, 1, none⟩ = some (.int .i64 a1_1) := (blk_cell BK152.out 1).trans rfl
                       have hcz109_2 : wc.cell? ⟨gb152, 2, none⟩ = some (.int .i64 a1_2) := (blk_cell BK152.out 2).trans rfl
                       have hcz109_3 : wc.cell? ⟨gb152, 3, none⟩ = some (.int .i64 a1_3) := (blk_cell BK152.out 3).trans rfl
                       have hcz109_4 : wc.cell? ⟨gb152, 4, none⟩ = some (.int .i64 a1_4) := (blk_cell BK152.out 4).trans rfl
                       have hfz109_0 := blk_frozen BK152.out 0
                       have hfz109_1 := blk_frozen BK152.out 1
                       have hfz109_2 := blk_frozen BK152.out 2
                       have hfz109_3 := blk_frozen BK152.out 3
                       have hfz109_4 := blk_frozen BK152.out 4
                       have hnb110 := NB154_151.out
                       have hnc110 := NB151_154.out
                       have hnb111 := NB154_153.out
                       have hnc111 := NB153_154.out
                       have hcz112_0 : wc.cell? ⟨gb154, 0, none⟩ = some (.int .i64 0) := (blk_cell BK154.out 0).trans rfl
                       have hcz112_1 : wc.cell? ⟨gb154, 1, none⟩ = some (.int .i64 0) := (blk_cell BK154.out 1).trans rfl
                       have hcz112_2 : wc.cell? ⟨gb154, 2, none⟩ = some (.int .i64 0) := (blk_cell BK154.out 2).trans rfl
                       have hcz112_3 : wc.cell? ⟨gb154, 3, none⟩ = some (.int .i64 0) := (blk_cell BK154.out 3).trans rfl
                       have hcz112_4 : wc.cell? ⟨gb154, 4, none⟩ = some (.int .i64 0) := (blk_cell BK154.out 4).trans rfl
                       have hfz112_0 := blk_frozen BK154.out 0
                       have hfz112_1 := blk_frozen BK154.out 1
                       have hfz112_2 := blk_frozen BK154.out 2
                       have hfz112_3 := blk_frozen BK154.out 3
                       have hfz112_4 := blk_frozen BK154.out 4
                       go_wp2
                       refine bodyPost_ret (results_cell_row rfl _ _ gb154 32 #[.int .i64 a1_0, .int .i64 a1_1, .int .i64 a1_2, .int .i64 0, .int .i64 1] (0, 0) _ rfl (by (with_reducible repeat (first | refine blk_drewN ?_ _ | refine blk_drew ?_ | refine blk_alloc ?_ _)); refine blk_put (cs := #[.int .i64 a1_0, .int .i64 a1_1, .int .i64 a1_2, .int .i64 0, .int .i64 0]) ?_ 4 _ rfl; (with_reducible repeat (first | refine blk_drewN ?_ _ | refine blk_drew ?_ | refine blk_alloc ?_ _)); refine blk_put (cs := #[.int .i64 a1_0, .int .i64 a1_1, .int .i64 a1_2, .int .i64 0, .int .i64 0]) ?_ 3 _ rfl; (with_reducible repeat (first | refine blk_drewN ?_ _ | refine blk_drew ?_ | refine blk_alloc ?_ _)); refine blk_put (cs := #[.int .i64 a1_0, .int .i64 a1_1, .int .i64 0, .int .i64 0, .int .i64 0]) ?_ 2 _ rfl; (with_reducible repeat (first | refine blk_drewN ?_ _ | refine blk_drew ?_ | refine blk_alloc ?_ _)); refine blk_put (cs := #[.int .i64 a1_0, .int .i64 0, .int .i64 0, .int .i64 0, .int .i64 0]) ?_ 1 _ rfl; (with_reducible repeat (first | refine blk_drewN ?_ _ | refine blk_drew ?_ | refine blk_alloc ?_ _)); refine blk_put (cs := #[.int .i64 0, .int .i64 0, .int .i64 0, .int .i64 0, .int .i64 0]) ?_ 0 _ rfl; (with_reducible repeat (first | refine blk_drewN ?_ _ | refine blk_drew ?_ | refine blk_alloc ?_ _)); refine blk_far ?_ NB154_152.out _; (with_reducible repeat (first | refine blk_drewN ?_ _ | refine blk_drew ?_ | refine blk_alloc ?_ _)); refine blk_far ?_ NB154_152.out _; (with_reducible repeat (first | refine blk_drewN ?_ _ | refine blk_drew ?_ | refine blk_alloc ?_ _)); exact BK154.out) Try.underlying32 rfl (by kernel_rfl)) rfl ?_
                       exact ⟨by first | rfl | (simp [errW_none, errW_some] <;> rfl) | (simp [*, errW_none, errW_some] <;> rfl), ahx⟩
                     ·replace c105 := Bool.eq_false_iff.mpr c105
                      subst c105
                      have H1 : (if x9_96 = true then (some (a1_0, a1_1, a1_2, 1, 1)) else (some (a1_0, a1_1, a1_2, 0, 0))) = some (r1, r2, r3, r4, r5) := by rw [if_neg (show ¬ (false = true) by decide)] at H; exact H
                      clear H
                      have H := H1
                      clear H1
                      by_cases c113 : x9_96 = true
                      ·subst c113
                       have H1 : (some (a1_0, a1_1, a1_2, 1, 1)) = some (r1, r2, r3, r4, r5) := by rw [if_pos rfl] at H; exact H
                       clear H
                       have H := H1
                       clear H1
                       as_aux_lemma =>
                        simp only [Option.some.injEq, Prod.mk.injEq] at H
                        obtain ⟨rfl, rfl, rfl, rfl, rfl⟩ := H
                        have hnb114 := NB152_151.out
                        have hnc114 := NB151_152.out
                        have hnb115 := NB152_153.out
                        have hnc115 := NB153_152.out
                        have hnb116 := NB152_154.out
                        have hnc116 := NB154_152.out
                        have hcz117_0 : wc.cell? ⟨gb152, 0, none⟩ = some (.int .i64 a1_0) := (blk_cell BK152.out 0).trans rfl
                        have hcz117_1 : wc.cell? ⟨gb152, 1, none⟩ = some (.int .i64 a1_1) := (blk_cell BK152.out 1).trans rfl
                        have hcz117_2 : wc.cell? ⟨gb152, 2, none⟩ = some (.int .i64 a1_2) := (blk_cell BK152.out 2).trans rfl
                        have hcz117_3 : wc.cell? ⟨gb152, 3, none⟩ = some (.int .i64 a1_3) := (blk_cell BK152.out 3).trans rfl
                        have hcz117_4 : wc.cell? ⟨gb152, 4, none⟩ = some (.int .i64 a1_4) := (blk_cell BK152.out 4).trans rfl
                        have hfz117_0 := blk_frozen BK152.out 0
                        have hfz117_1 := blk_frozen BK152.out 1
                        have hfz117_2 := blk_frozen BK152.out 2
                        have hfz117_3 := blk_frozen BK152.out 3
                        have hfz117_4 := blk_frozen BK152.out 4
                        have hnb118 := NB154_151.out
                        have hnc118 := NB151_154.out
                        have hnb119 := NB154_153.out
                        have hnc119 := NB153_154.out
                        have hcz120_0 : wc.cell? ⟨gb154, 0, none⟩ = some (.int .i64 0) := (blk_cell BK154.out 0).trans rfl
                        have hcz120_1 : wc.cell? ⟨gb154, 1, none⟩ = some (.int .i64 0) := (blk_cell BK154.out 1).trans rfl
                        have hcz120_2 : wc.cell? ⟨gb154, 2, none⟩ = some (.int .i64 0) := (blk_cell BK154.out 2).trans rfl
                        have hcz120_3 : wc.cell? ⟨gb154, 3, none⟩ = some (.int .i64 0) := (blk_cell BK154.out 3).trans rfl
                        have hcz120_4 : wc.cell? ⟨gb154, 4, none⟩ = some (.int .i64 0) := (blk_cell BK154.out 4).trans rfl
                        have hfz120_0 := blk_frozen BK154.out 0
                        have hfz120_1 := blk_frozen BK154.out 1
                        have hfz120_2 := blk_frozen BK154.out 2
                        have hfz120_3 := blk_frozen BK154.out 3
                        have hfz120_4 := blk_frozen BK154.out 4
                        go_wp2
                        refine bodyPost_ret (results_cell_row rfl _ _ gb154 32 #[.int .i64 a1_0, .int .i64 a1_1, .int .i64 a1_2, .int .i64 1, .int .i64 1] (0, 0) _ rfl (by (with_reducible repeat (first | refine blk_drewN ?_ _ | refine blk_drew ?_ | refine blk_alloc ?_ _)); refine blk_put (cs := #[.int .i64 a1_0, .int .i64 a1_1, .int .i64 a1_2, .int .i64 1, .int .i64 0]) ?_ 4 _ rfl; (with_reducible repeat (first | refine blk_drewN ?_ _ | refine blk_drew ?_ | refine blk_alloc ?_ _)); refine blk_put (cs := #[.int .i64 a1_0, .int .i64 a1_1, .int .i64 a1_2, .int .i64 0, .int .i64 0]) ?_ 3 _ rfl; (with_reducible repeat (first | refine blk_drewN ?_ _ | refine blk_drew ?_ | refine blk_alloc ?_ _)); refine blk_put (cs := #[.int .i64 a1_0, .int .i64 a1_1, .int .i64 0, .int .i64 0, .int .i64 0]) ?_ 2 _ rfl; (with_reducible repeat (first | refine blk_drewN ?_ _ | refine blk_drew ?_ | refine blk_alloc ?_ _)); refine blk_put (cs := #[.int .i64 a1_0, .int .i64 0, .int .i64 0, .int .i64 0, .int .i64 0]) ?_ 1 _ rfl; (with_reducible repeat (first | refine blk_drewN ?_ _ | refine blk_drew ?_ | refine blk_alloc ?_ _)); refine blk_put (cs := #[.int .i64 0, .int .i64 0, .int .i64 0, .int .i64 0, .int .i64 0]) ?_ 0 _ rfl; (with_reducible repeat (first | refine blk_drewN ?_ _ | refine blk_drew ?_ | refine blk_alloc ?_ _)); refine blk_far ?_ NB154_152.out _; (with_reducible repeat (first | refine blk_drewN ?_ _ | refine blk_drew ?_ | refine blk_alloc ?_ _)); refine blk_far ?_ NB154_152.out _; (with_reducible repeat (first | refine blk_drewN ?_ _ | refine blk_drew ?_ | refine blk_alloc ?_ _)); exact BK154.out) Try.underlying32 rfl (by kernel_rfl)) rfl ?_
                        exact ⟨by first | rfl | (simp [errW_none, errW_some] <;> rfl) | (simp [*, errW_none, errW_some] <;> rfl), ahx⟩
                      ·replace c113 := Bool.eq_false_iff.mpr c113
                       subst c113
                       have H1 : (some (a1_0, a1_1, a1_2, 0, 0)) = some (r1, r2, r3, r4, r5) := by rw [if_neg (show ¬ (false = true) by decide)] at H; exact H
                       clear H
                       have H := H1
                       clear H1
                       as_aux_lemma =>
                        simp only [Option.some.injEq, Prod.mk.injEq] at H
                        obtain ⟨rfl, rfl, rfl, rfl, rfl⟩ := H
                        have hnb121 := NB152_151.out
                        have hnc121 := NB151_152.out
                        have hnb122 := NB152_153.out
                        have hnc122 := NB153_152.out
                        have hnb123 := NB152_154.out
                        have hnc123 := NB154_152.out
                        have hcz124_0 : wc.cell? ⟨gb152, 0, none⟩ = some (.int .i64 a1_0) := (blk_cell BK152.out 0).trans rfl
                        have hcz124_1 : wc.cell? ⟨gb152, 1, none⟩ = some (.int .i64 a1_1) := (blk_cell BK152.out 1).trans rfl
                        have hcz124_2 : wc.cell? ⟨gb152, 2, none⟩ = some (.int .i64 a1_2) := (blk_cell BK152.out 2).trans rfl
                        have hcz124_3 : wc.cell? ⟨gb152, 3, none⟩ = some (.int .i64 a1_3) := (blk_cell BK152.out 3).trans rfl
                        have hcz124_4 : wc.cell? ⟨gb152, 4, none⟩ = some (.int .i64 a1_4) := (blk_cell BK152.out 4).trans rfl
                        have hfz124_0 := blk_frozen BK152.out 0
                        have hfz124_1 := blk_frozen BK152.out 1
                        have hfz124_2 := blk_frozen BK152.out 2
                        have hfz124_3 := blk_frozen BK152.out 3
                        have hfz124_4 := blk_frozen BK152.out 4
                        have hnb125 := NB154_151.out
                        have hnc125 := NB151_154.out
                        have hnb126 := NB154_153.out
                        have hnc126 := NB153_154.out
                        have hcz127_0 : wc.cell? ⟨gb154, 0, none⟩ = some (.int .i64 0) := (blk_cell BK154.out 0).trans rfl
                        have hcz127_1 : wc.cell? ⟨gb154, 1, none⟩ = some (.int .i64 0) := (blk_cell BK154.out 1).trans rfl
                        have hcz127_2 : wc.cell? ⟨gb154, 2, none⟩ = some (.int .i64 0) := (blk_cell BK154.out 2).trans rfl
                        have hcz127_3 : wc.cell? ⟨gb154, 3, none⟩ = some (.int .i64 0) := (blk_cell BK154.out 3).trans rfl
                        have hcz127_4 : wc.cell? ⟨gb154, 4, none⟩ = some (.int .i64 0) := (blk_cell BK154.out 4).trans rfl
                        have hfz127_0 := blk_frozen BK154.out 0
                        have hfz127_1 := blk_frozen BK154.out 1
                        have hfz127_2 := blk_frozen BK154.out 2
                        have hfz127_3 := blk_frozen BK154.out 3
                        have hfz127_4 := blk_frozen BK154.out 4
                        go_wp2
                        refine bodyPost_ret (results_cell_row rfl _ _ gb154 32 #[.int .i64 a1_0, .int .i64 a1_1, .int .i64 a1_2, .int .i64 0, .int .i64 0] (0, 0) _ rfl (by (with_reducible repeat (first | refine blk_drewN ?_ _ | refine blk_drew ?_ | refine blk_alloc ?_ _)); refine blk_put (cs := #[.int .i64 a1_0, .int .i64 a1_1, .int .i64 a1_2, .int .i64 0, .int .i64 0]) ?_ 4 _ rfl; (with_reducible repeat (first | refine blk_drewN ?_ _ | refine blk_drew ?_ | refine blk_alloc ?_ _)); refine blk_put (cs := #[.int .i64 a1_0, .int .i64 a1_1, .int .i64 a1_2, .int .i64 0, .int .i64 0]) ?_ 3 _ rfl; (with_reducible repeat (first | refine blk_drewN ?_ _ | refine blk_drew ?_ | refine blk_alloc ?_ _)); refine blk_put (cs := #[.int .i64 a1_0, .int .i64 a1_1, .int .i64 0, .int .i64 0, .int .i64 0]) ?_ 2 _ rfl; (with_reducible repeat (first | refine blk_drewN ?_ _ | refine blk_drew ?_ | refine blk_alloc ?_ _)); refine blk_put (cs := #[.int .i64 a1_0, .int .i64 0, .int .i64 0, .int .i64 0, .int .i64 0]) ?_ 1 _ rfl; (with_reducible repeat (first | refine blk_drewN ?_ _ | refine blk_drew ?_ | refine blk_alloc ?_ _)); refine blk_put (cs := #[.int .i64 0, .int .i64 0, .int .i64 0, .int .i64 0, .int .i64 0]) ?_ 0 _ rfl; (with_reducible repeat (first | refine blk_drewN ?_ _ | refine blk_drew ?_ | refine blk_alloc ?_ _)); refine blk_far ?_ NB154_152.out _; (with_reducible repeat (first | refine blk_drewN ?_ _ | refine blk_drew ?_ | refine blk_alloc ?_ _)); refine blk_far ?_ NB154_152.out _; (with_reducible repeat (first | refine blk_drewN ?_ _ | refine blk_drew ?_ | refine blk_alloc ?_ _)); exact BK154.out) Try.underlying32 rfl (by kernel_rfl)) rfl ?_
                        exact ⟨by first | rfl | (simp [errW_none, errW_some] <;> rfl) | (simp [*, errW_none, errW_some] <;> rfl), ahx⟩

end Go.Proofs.Ytndancjnfdhbfaa.C
