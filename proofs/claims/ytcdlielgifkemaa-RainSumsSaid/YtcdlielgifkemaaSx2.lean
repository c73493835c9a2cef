import Derived.Test.YtcdlielgifkemaaProg
import Derived.Below
import Derived.Deep.Draws
import Derived.Deep.AppendLies
import Derived.Maps.AppendAt
import Derived.OwnWalk
import Derived.Laws.BytesArg
import Derived.Laws.MakeOwn
import Derived.Laws.OwnMore
import Derived.Deep.OwnRows
import Derived.Tactics
import Derived.Lib.ConvBytes
import Derived.Laws.Slices
import Derived.WalkKit
import Derived.KernelRfl
import Derived.RowKit3
import Derived.Deep.LoopGhost
import Derived.Deep.QuietTactic
import Derived.BigQuiet
import Derived.WideLaws
import Derived.Deep.DeepCutAuto
import Derived.Deep.CutBlock
import Derived.Deep.RegionHeld3
import Derived.Laws.Rows
import Derived.Lib.AppendStr
import Derived.ArgAppend
import Derived.Laws.IdiomCopy
import Derived.OrdersHeld
import Derived.Laws.BitsLemmas
import Derived.RowKit
import Derived.Test.YtcdlielgifkemaaWWords
import Derived.Test.YtcdlielgifkemaaWLast
import Derived.Test.YtcdlielgifkemaaWMore
import Derived.Test.YtcdlielgifkemaaRm
import Derived.Test.YtcdlielgifkemaaNf
import Derived.Test.YtcdlielgifkemaaQz
import Derived.Test.YtcdlielgifkemaaWl
-- Written by a program of this session (wip/tools/pp.py) out of the translation; Lean checks it.
namespace Go.Proofs.Ytcdlielgifkemaa.S
open Go.RowKit Go.Proofs.YtcdlielgifkemaaW.PrintWords Go.Proofs.YtcdlielgifkemaaW.PrintLast Go.Proofs.YtcdlielgifkemaaW.PrintMore
open Go.Proofs.Ytcdlielgifkemaa.S
attribute [local go_sem] max2_int min2_int max_two min_two max_three min_three max_four min_four   -- for this text's walks alone
set_option linter.unusedVariables false
set_option linter.unusedSimpArgs false



def errW : Option Int → Value
  | none => .nilIface
  | some c => .iface 0 (.int .i64 c)
theorem errW_none : errW none = .nilIface := rfl
theorem errW_some (c : Int) : errW (some c) = .iface 0 (.int .i64 c) := rfl

theorem info26 : (Try.prog.info? 26).map (fun i => (i.zero, i.size, i.bytes)) = some (some (.agg #[(.int .i64 0), (.int .i64 0)]), 2, 16) := by kernel_rfl
-- the values' own types

end Go.Proofs.Ytcdlielgifkemaa.S

-- Written by a program of this session (wip/tools/pp.py) out of the translation; Lean checks it.
namespace Go.Proofs.Ytcdlielgifkemaa.S
open Go.RowKit Go.Proofs.YtcdlielgifkemaaW.PrintWords Go.Proofs.YtcdlielgifkemaaW.PrintLast Go.Proofs.YtcdlielgifkemaaW.PrintMore
open Go.Proofs.Ytcdlielgifkemaa.S
attribute [local go_sem] max2_int min2_int max_two min_two max_three min_three max_four min_four   -- for this text's walks alone
set_option linter.unusedVariables false
set_option linter.unusedSimpArgs false

theorem eqA26 (d : Nat) (w : World) (x0 y0 : Int) (x1 y1 : Int) :
    (Op.equalIn (d + 2) 26 (.agg #[.int .i64 x0, .int .i64 x1]) (.agg #[.int .i64 y0, .int .i64 y1])).run Try.prog w = .ok (x0 == y0 && (x1 == y1)) w := by
  refine eqA_of Try.underlying26 (by kernel_rfl) ?_
  refine eqf_cons (by rfl) (by go_simp; rfl) (by go_simp; rfl) (by go_simp) ?_
  exact eqf_last (by rfl) (by go_simp; rfl) (by go_simp; rfl) (by go_simp)
end Go.Proofs.Ytcdlielgifkemaa.S

-- Written by a program of this session (wip/tools/pp.py) out of the translation; Lean checks it.
namespace Go.Proofs.Ytcdlielgifkemaa.S
open Go.RowKit Go.Proofs.YtcdlielgifkemaaW.PrintWords Go.Proofs.YtcdlielgifkemaaW.PrintLast Go.Proofs.YtcdlielgifkemaaW.PrintMore
open Go.Proofs.Ytcdlielgifkemaa.S
attribute [local go_sem] max2_int min2_int max_two min_two max_three min_three max_four min_four   -- for this text's walks alone
set_option linter.unusedVariables false
set_option linter.unusedSimpArgs false

attribute [local go_sem high] eqA26
/-! ### bournelaw26_RainSums: function 3 -/
mutual
def bournelaw26_RainSums.j0 : Nat → List (S26) → Int → List Bool → Bool → Bool → Option (Bool)
 | 0, _, _, _, _, _ => none
 | k + 1, x0, x1, x2, x7, x24 => if x24 = true then (some x7) else (bournelaw26_RainSums.l0 k x0 x1 x2 x7 0 0)
def bournelaw26_RainSums.l0 : Nat → List (S26) → Int → List Bool → Bool → Int → Int → Option (Bool)
 | 0, _, _, _, _, _, _ => none
 | k + 1, x0, x1, x2, x7, x8, x9 => if x9 < (x0.length : Int) then (if 0 ≤ x9 then (if ((rd_T26 x0 x9).f0) < (-1125899906842624) then (bournelaw26_RainSums.j2 k x0 x1 x2 x7 x8 x9 true) else (if ((rd_T26 x0 x9).f1) > 1125899906842624 then (bournelaw26_RainSums.j2 k x0 x1 x2 x7 x8 x9 true) else ((span_Right.f ((rd_T26 x0 x9).f0) ((rd_T26 x0 x9).f1)).bind fun t105 => (bournelaw26_RainSums.j2 k x0 x1 x2 x7 x8 x9 (!t105))))) else (none)) else ((rain_Sum.f x0).bind fun bt110 => (if x7 = true then (if 0 ≤ x1 then (if x1 ≤ (x0.length : Int) then ((rain_Sum.f (x0.take (x1 : Int).toNat)).bind fun bt117 => ((rain_Sum.f (x0.drop (x1 : Int).toNat)).bind fun bt123 => ((span_Add.f bt117.1 bt117.2 bt123.1 bt123.2).bind fun bt125 => (if (bt110.1 == bt125.1 && (bt110.2 == bt125.2)) = true then ((span_Has.f bt110.1 bt110.2 x8).bind fun t127 => (some t127)) else (some false))))) else (none)) else (none)) else (some false)))
def bournelaw26_RainSums.j2 : Nat → List (S26) → Int → List Bool → Bool → Int → Int → Bool → Option (Bool)
 | 0, _, _, _, _, _, _, _ => none
 | k + 1, x0, x1, x2, x7, x8, x9, x53 => if x53 = true then (some x7) else (if x9 < (x2.length : Int) then (if 0 ≤ x9 then (if rdOf false x2 x9 = true then (if x9 < (x0.length : Int) then (bournelaw26_RainSums.l0 k x0 x1 x2 x7 (wrap64 (x8 + ((rd_T26 x0 x9).f1))) (wrap64 (x9 + 1))) else (none)) else (if x9 < (x0.length : Int) then (bournelaw26_RainSums.l0 k x0 x1 x2 x7 (wrap64 (x8 + ((rd_T26 x0 x9).f0))) (wrap64 (x9 + 1))) else (none))) else (none)) else (if 0 ≤ x9 then (if x9 < (x0.length : Int) then (bournelaw26_RainSums.l0 k x0 x1 x2 x7 (wrap64 (x8 + ((rd_T26 x0 x9).f0))) (wrap64 (x9 + 1))) else (none)) else (none)))
end
def bournelaw26_RainSums.f (k : Nat) (l0 : List (S26)) (a1 : Int) (l2 : List Bool) : Option (Bool) := (bournelaw26_small.f).bind fun t101 => (if (l0.length : Int) > 100 then (bournelaw26_RainSums.j0 k l0 a1 l2 t101 true) else (if a1 < 0 then (bournelaw26_RainSums.j0 k l0 a1 l2 t101 true) else (bournelaw26_RainSums.j0 k l0 a1 l2 t101 (decide (a1 > (l0.length : Int))))))
def bournelaw26_RainSums.T14 : Bool × List (List Nat × List Nat) := (true, [([], []), ([0], [0]), ([1], [1]), ([1], [1]), ([1], [1]), ([3, 4, 1], [1, 3, 4]), ([5, 1, 1], [1, 5]), ([1], [1]), ([1], [1]), ([7, 8, 1], [1, 7, 8]), ([9, 6, 1], [1, 9]), ([6, 10, 10, 1], [1, 6, 10]), ([2, 11, 1], [1, 2, 11]), ([1, 12], [1, 12]), ([13, 11], [13]), ([14], [14]), ([14], [14]), ([15, 16, 14, 14], [14, 15, 16]), ([14, 17], [14, 17]), ([18, 17, 0, 1, 2, 3, 4, 5, 6, 7, 8, 9, 10, 11, 12, 13, 14, 15, 16, 17, 18], [18])])
def bournelaw26_RainSums.B14 : List Nat := [0, 1, 3, 3, 3, 27, 59, 3, 3, 387, 1019, 2043, 4095, 8191, 16383, 32767, 32767, 131071, 262143, 524287]
theorem bournelaw26_RainSums.tab14 : rtab .any (opsOf Try.f3 14) = bournelaw26_RainSums.T14 := by kernel_rfl
theorem bournelaw26_RainSums.bits14 : waitsOk bournelaw26_RainSums.T14.2 bournelaw26_RainSums.B14 = true := by kernel_rfl
set_option maxHeartbeats 8000000 in
set_option maxRecDepth 100000 in
theorem bournelaw26_RainSums.calls (k : Nat) (A0 : Option Addr) (c0 : Nat) (l0 : List (S26)) (a1 : Int) (A2 : Option Addr) (c2 : Nat) (l2 : List Bool) (r : Bool) (w : World) (hr0 : Kd.C k26 w A0 l0.length l0) (hc0 : l0.length ≤ c0) (hr2 : Kd.C Kd.bool w A2 l2.length l2) (hc2 : l2.length ≤ c2) (h : bournelaw26_RainSums.f k l0 a1 l2 = some r) (hr : Aside0 (r = true)) :
  Calls Try.prog 3 #[.slice A0 l0.length c0, .int .i64 a1, .slice A2 l2.length c2] w fun e w' => e = .returned (.bool r) ∧ Below w.heap.size w w' := by
 have hu26 := Try.underlying26; have HR0 := Aside0.mk hr0
 have HC0 := Aside0.mk hc0
 clear hr0 hc0; have HR2 := Aside0.mk hr2
 have HC2 := Aside0.mk hc2
 clear hr2 hc2; have HB := Aside0.mk (Below.refl w.heap.size w)
 have H : ((bournelaw26_small.f).bind fun t101 => (if (l0.length : Int) > 100 then (bournelaw26_RainSums.j0 k l0 a1 l2 t101 true) else (if a1 < 0 then (bournelaw26_RainSums.j0 k l0 a1 l2 t101 true) else (bournelaw26_RainSums.j0 k l0 a1 l2 t101 (decide (a1 > (l0.length : Int))))))) = some r := h
 clear h; replace H := Option.bind_eq_some_iff.mp H; obtain ⟨t101, A40, H⟩ := H; replace H : (if (l0.length : Int) > 100 then (bournelaw26_RainSums.j0 k l0 a1 l2 t101 true) else (if a1 < 0 then (bournelaw26_RainSums.j0 k l0 a1 l2 t101 true) else (bournelaw26_RainSums.j0 k l0 a1 l2 t101 (decide (a1 > (l0.length : Int)))))) = some r := H
 have A4 := Aside0.mk A40
 clear A40; have HC5 := Aside0.mk H
 clear H; go_enter Try.func3, Try.ntmps3
 go_upto_region 2 with (first | ((first | ((with_reducible refine gate_callee (f := 8) rfl ?_); refine goesL_ (some 11) rfl rfl Try.func8 (by kernel_rfl) rfl #[] rfl (by first | done | rfl) ?_) | go_at_call 8); (with_reducible refine (bournelaw26_small.calls  t101 _ A4.out).mono ?_); rintro e w6 ⟨rfl, hb⟩; (first | with_reducible refine ⟨_, rfl, ?_⟩ | skip); have n0_ := Aside0.mk (below_step ahx hb); clear HB; have HB := n0_; clear n0_; (try clear hb); (try clear hb2); (try clear hk); (try clear hi)))
 (try simp only [Act.put, zA, zB, zC]); go_cut [24] (fun v24 wc => ∃ (kq : Nat) (x24_4 : Bool), v24 = .bool x24_4 ∧ Aside0 (bournelaw26_RainSums.j0 kq l0 a1 l2 t101 x24_4 = some r) ∧ Aside0 (kq ≤ k) ∧ Aside0 (Below w.heap.size w wc))
 case first =>
  have H := HC5.out; clear HC5
  by_cases c7 : (l0.length : Int) > 100
  ·rw [if_pos c7] at H
   have c7b0 : decide (100 < (l0.length : Int)) = true := decide_eq_true c7
   have c7b1 : decide (100 < l0.length) = true := decide_eq_true (by omega)
   clear c7; (first | rw [c7b0] | (simp only [i64_w, i32_w]; rw [c7b0]) | skip); have H' := Aside0.mk H; clear H; go_wp2
   go_meet
   case rel => exact ⟨_, (true), (by first | rfl | (simp; done) | (simp [*]; done)), H', ⟨by first | omega | exact Nat.le_refl _⟩, ⟨ahx⟩⟩
  ·rw [if_neg c7] at H
   have c7b0 : decide (100 < (l0.length : Int)) = false := decide_eq_false c7
   have c7b1 : decide (100 < l0.length) = false := decide_eq_false (by omega)
   clear c7; (first | rw [c7b0] | (simp only [i64_w, i32_w]; rw [c7b0]) | skip)
   by_cases c8 : a1 < 0
   ·rw [if_pos c8] at H
    have c8b0 : decide (a1 < 0) = true := decide_eq_true c8
    clear c8; have H' := Aside0.mk H; clear H; go_wp2
    go_meet
    case rel => exact ⟨_, (true), (by first | rfl | (simp; done) | (simp [*]; done)), H', ⟨by first | omega | exact Nat.le_refl _⟩, ⟨ahx⟩⟩
   ·rw [if_neg c8] at H
    have c8b0 : decide (a1 < 0) = false := decide_eq_false c8
    clear c8; have H' := Aside0.mk H; clear H; go_wp2
    go_meet
    case rel => exact ⟨_, (decide (a1 > (l0.length : Int))), (by first | rfl | (simp; done) | (simp [*]; done)), H', ⟨by first | omega | exact Nat.le_refl _⟩, ⟨ahx⟩⟩
 case rest =>
  clear HC5; try clear c2
  try clear p2
  try clear c3
  try clear c7
  try clear c7b0
  try clear c7b1
  try clear c8
  try clear c8b0
  obtain ⟨kq, x24_4, rfl, HA, HJ4, HB⟩ := hcut
  cases kq with
  | zero => exact absurd HA.out (by simp [bournelaw26_RainSums.j0])
  | succ kj4 =>
   have H := HA.out; clear HA; simp only [bournelaw26_RainSums.j0] at H
   by_cases c9 : x24_4 = true
   ·subst c9; have H1 : (some t101) = some r := by rw [if_pos rfl] at H; exact H
    clear H; have H := H1; clear H1; obtain rfl := Option.some.inj H
    go_wp2
    go_ret
    exact ⟨by first | rfl | (simp [errW_none, errW_some] <;> rfl) | (simp [*, errW_none, errW_some] <;> rfl), ahx⟩
   ·replace c9 := Bool.eq_false_iff.mpr c9
    subst c9; have H1 : (bournelaw26_RainSums.l0 kj4 l0 a1 l2 t101 0 0) = some r := by rw [if_neg (show ¬ (false = true) by decide)] at H; exact H
    clear H; have H := H1; clear H1; have H' := Aside0.mk H; clear H; go_wp2
    go_loopg [8, 9] kj4 (fun kq v8 v9 w' => ∃ (x8_2 : Int) (x9_2 : Int), v8 = .int .i64 x8_2 ∧ v9 = .int .i64 x9_2 ∧ Aside0 (bournelaw26_RainSums.l0 kq l0 a1 l2 t101 x8_2 x9_2 = some r) ∧ Aside0 (kq ≤ kj4) ∧ Aside0 (Below w.heap.size w w'))
    case atStart => exact ⟨(0), (0), (by first | rfl | (simp; done) | (simp [*]; done)), (by first | rfl | (simp; done) | (simp [*]; done)), H', ⟨Nat.le_refl _⟩, ⟨ahx⟩⟩
    case round =>
     clear H'; try clear c2
     try clear p2
     try clear c3
     try clear c7
     try clear c7b0
     try clear c7b1
     try clear c8
     try clear c8b0
     try clear c9
     try clear p2
     obtain ⟨x8_2, x9_2, rfl, rfl, HA, HK2, HB⟩ := hrel
     cases gk with
     | zero => exact absurd HA.out (by simp [bournelaw26_RainSums.l0])
     | succ k2 =>
      have H := HA.out; clear HA; simp only [bournelaw26_RainSums.l0] at H
      by_cases c10 : x9_2 < (l0.length : Int)
      ·rw [if_pos c10] at H
       have c10b0 : decide (x9_2 < (l0.length : Int)) = true := decide_eq_true c10
       clear c10; have HC11 := Aside0.mk H
       clear H; go_upto_region 8 with (fail)
       go_cut [53] (fun v53 wc => ∃ (kq : Nat) (x53_10 : Bool), v53 = .bool x53_10 ∧ Aside0 (bournelaw26_RainSums.j2 kq l0 a1 l2 t101 x8_2 x9_2 x53_10 = some r) ∧ Aside0 (kq ≤ k2) ∧ Aside0 (Below w.heap.size w wc))
       case first =>
        have H := HC11.out; clear HC11
        by_cases c12 : 0 ≤ x9_2
        ·rw [if_pos c12] at H
         have c12b0 : decide (0 ≤ x9_2) = true := decide_eq_true c12
         clear c12; (first | rw [c12b0] | (simp only [i64_w, i32_w]; rw [c12b0]) | skip)
         by_cases c13 : ((rd_T26 l0 x9_2).f0) < (-1125899906842624)
         ·rw [if_pos c13] at H
          have c13b0 : decide (((rd_T26 l0 x9_2).f0) < (-1125899906842624)) = true := decide_eq_true c13
          clear c13; have H' := Aside0.mk H; clear H; have p102 : 0 ≤ (x9_2 : Int) := of_decide_eq_true (by first | (with_reducible assumption) | assumption)
          have q102 : x9_2 < (l0.length : Int) := of_decide_eq_true (by first | (with_reducible assumption) | assumption)
          obtain ⟨ad102, e102, hx102_0, hx102_1⟩ := at_T26 HR0.out x9_2 p102 q102
          cases e102
          replace hx102_0 := (HB.out.cell (World.block_lt_of_cell? w _ hx102_0)).trans hx102_0
          replace hx102_1 := (HB.out.cell (World.block_lt_of_cell? w _ hx102_1)).trans hx102_1
          replace p102 := eq_true p102
          replace q102 := eq_true q102
          go_wp2
          go_meet
          case rel => exact ⟨_, (true), (by first | rfl | (simp; done) | (simp [*]; done)), H', ⟨by have := HJ4.out; have := HK2.out; first | omega | exact Nat.le_refl _⟩, ⟨ahx⟩⟩
         ·rw [if_neg c13] at H
          have c13b0 : decide (((rd_T26 l0 x9_2).f0) < (-1125899906842624)) = false := decide_eq_false c13
          clear c13
          by_cases c14 : ((rd_T26 l0 x9_2).f1) > 1125899906842624
          ·rw [if_pos c14] at H
           have c14b0 : decide (1125899906842624 < ((rd_T26 l0 x9_2).f1)) = true := decide_eq_true c14
           clear c14; have H' := Aside0.mk H; clear H; have p102 : 0 ≤ (x9_2 : Int) := of_decide_eq_true (by first | (with_reducible assumption) | assumption)
           have q102 : x9_2 < (l0.length : Int) := of_decide_eq_true (by first | (with_reducible assumption) | assumption)
           obtain ⟨ad102, e102, hx102_0, hx102_1⟩ := at_T26 HR0.out x9_2 p102 q102
           cases e102
           replace hx102_0 := (HB.out.cell (World.block_lt_of_cell? w _ hx102_0)).trans hx102_0
           replace hx102_1 := (HB.out.cell (World.block_lt_of_cell? w _ hx102_1)).trans hx102_1
           replace p102 := eq_true p102
           replace q102 := eq_true q102
           have p103 : 0 ≤ (x9_2 : Int) := of_decide_eq_true (by first | (with_reducible assumption) | assumption)
           have q103 : x9_2 < (l0.length : Int) := of_decide_eq_true (by first | (with_reducible assumption) | assumption)
           obtain ⟨ad103, e103, hx103_0, hx103_1⟩ := at_T26 HR0.out x9_2 p103 q103
           obtain rfl : ad102 = ad103 := (by injection e103)
           replace hx103_0 := (HB.out.cell (World.block_lt_of_cell? w _ hx103_0)).trans hx103_0
           replace hx103_1 := (HB.out.cell (World.block_lt_of_cell? w _ hx103_1)).trans hx103_1
           replace p103 := eq_true p103
           replace q103 := eq_true q103
           go_wp2
           go_meet
           case rel => exact ⟨_, (true), (by first | rfl | (simp; done) | (simp [*]; done)), H', ⟨by have := HJ4.out; have := HK2.out; first | omega | exact Nat.le_refl _⟩, ⟨ahx⟩⟩
          ·rw [if_neg c14] at H
           have c14b0 : decide (1125899906842624 < ((rd_T26 l0 x9_2).f1)) = false := decide_eq_false c14
           clear c14; replace H := Option.bind_eq_some_iff.mp H; obtain ⟨t105, A150, H⟩ := H; replace H : (bournelaw26_RainSums.j2 k2 l0 a1 l2 t101 x8_2 x9_2 (!t105)) = some r := H
           have A15 := Aside0.mk A150
           clear A150; have H' := Aside0.mk H; clear H; have p102 : 0 ≤ (x9_2 : Int) := of_decide_eq_true (by first | (with_reducible assumption) | assumption)
           have q102 : x9_2 < (l0.length : Int) := of_decide_eq_true (by first | (with_reducible assumption) | assumption)
           obtain ⟨ad102, e102, hx102_0, hx102_1⟩ := at_T26 HR0.out x9_2 p102 q102
           cases e102
           replace hx102_0 := (HB.out.cell (World.block_lt_of_cell? w _ hx102_0)).trans hx102_0
           replace hx102_1 := (HB.out.cell (World.block_lt_of_cell? w _ hx102_1)).trans hx102_1
           replace p102 := eq_true p102
           replace q102 := eq_true q102
           have p103 : 0 ≤ (x9_2 : Int) := of_decide_eq_true (by first | (with_reducible assumption) | assumption)
           have q103 : x9_2 < (l0.length : Int) := of_decide_eq_true (by first | (with_reducible assumption) | assumption)
           obtain ⟨ad103, e103, hx103_0, hx103_1⟩ := at_T26 HR0.out x9_2 p103 q103
           obtain rfl : ad102 = ad103 := (by injection e103)
           replace hx103_0 := (HB.out.cell (World.block_lt_of_cell? w _ hx103_0)).trans hx103_0
           replace hx103_1 := (HB.out.cell (World.block_lt_of_cell? w _ hx103_1)).trans hx103_1
           replace p103 := eq_true p103
           replace q103 := eq_true q103
           have p104 : 0 ≤ (x9_2 : Int) := of_decide_eq_true (by first | (with_reducible assumption) | assumption)
           have q104 : x9_2 < (l0.length : Int) := of_decide_eq_true (by first | (with_reducible assumption) | assumption)
           obtain ⟨ad104, e104, hx104_0, hx104_1⟩ := at_T26 HR0.out x9_2 p104 q104
           obtain rfl : ad102 = ad104 := (by injection e104)
           replace hx104_0 := (HB.out.cell (World.block_lt_of_cell? w _ hx104_0)).trans hx104_0
           replace hx104_1 := (HB.out.cell (World.block_lt_of_cell? w _ hx104_1)).trans hx104_1
           replace p104 := eq_true p104
           replace q104 := eq_true q104
           go_wp2_with (first | (go_at_call 9; (with_reducible refine (span_Right.calls ((rd_T26 l0 x9_2).f0) ((rd_T26 l0 x9_2).f1) t105 _ A15.out).mono ?_); rintro e w16 ⟨rfl, hb⟩; have n0_ := Aside0.mk (below_step ahx hb); clear HB; have HB := n0_; clear n0_; (try clear hb); (try clear hb2); (try clear hk); (try clear hi)))
           go_meet
           case rel => exact ⟨_, (!t105), (by first | rfl | (simp; done) | (simp [*]; done)), H', ⟨by have := HJ4.out; have := HK2.out; first | omega | exact Nat.le_refl _⟩, ⟨ahx⟩⟩
        ·rw [if_neg c12] at H
         exact NF.go H hr.out (by repeat' first | exact NF.none | exact NF.ff | refine NF.ite ?_ ?_ | refine NF.bind (fun _ => ?_))
       case rest =>
        clear HC11; try clear c1
        try clear p1
        try clear q1
        try clear hx1
        try clear c2
        try clear p2
        try clear c3
        try clear c7
        try clear c7b0
        try clear c7b1
        try clear c8
        try clear c8b0
        try clear c9
        try clear c10
        try clear c10b0
        try clear p10
        try clear q10
        try clear hx10
        try clear c12
        try clear c12b0
        try clear c13
        try clear c13b0
        try clear c14
        try clear c14b0
        try clear hx102_0
        try clear hx102_1
        try clear hx103_0
        try clear hx103_1
        try clear hx104_0
        try clear hx104_1
        try clear p102
        try clear p103
        try clear p104
        try clear p2
        try clear q102
        try clear q103
        try clear q104
        obtain ⟨kq, x53_10, rfl, HA, HJ10, HB⟩ := hcut
        cases kq with
        | zero => exact absurd HA.out (by simp [bournelaw26_RainSums.j2])
        | succ kj10 =>
         have H := HA.out; clear HA; simp only [bournelaw26_RainSums.j2] at H
         by_cases c17 : x53_10 = true
         ·subst c17; have H1 : (some t101) = some r := by rw [if_pos rfl] at H; exact H
          clear H; have H := H1; clear H1; obtain rfl := Option.some.inj H
          go_wp2
          go_ret
          exact ⟨by first | rfl | (simp [errW_none, errW_some] <;> rfl) | (simp [*, errW_none, errW_some] <;> rfl), ahx⟩
         ·replace c17 := Bool.eq_false_iff.mpr c17
          subst c17; have H1 : (if x9_2 < (l2.length : Int) then (if 0 ≤ x9_2 then (if rdOf false l2 x9_2 = true then (if x9_2 < (l0.length : Int) then (bournelaw26_RainSums.l0 kj10 l0 a1 l2 t101 (wrap64 (x8_2 + ((rd_T26 l0 x9_2).f1))) (wrap64 (x9_2 + 1))) else (none)) else (if x9_2 < (l0.length : Int) then (bournelaw26_RainSums.l0 kj10 l0 a1 l2 t101 (wrap64 (x8_2 + ((rd_T26 l0 x9_2).f0))) (wrap64 (x9_2 + 1))) else (none))) else (none)) else (if 0 ≤ x9_2 then (if x9_2 < (l0.length : Int) then (bournelaw26_RainSums.l0 kj10 l0 a1 l2 t101 (wrap64 (x8_2 + ((rd_T26 l0 x9_2).f0))) (wrap64 (x9_2 + 1))) else (none)) else (none))) = some r := by rw [if_neg (show ¬ (false = true) by decide)] at H; exact H
          clear H; have H := H1; clear H1
          by_cases c18 : x9_2 < (l2.length : Int)
          ·rw [if_pos c18] at H
           have c18b0 : decide (x9_2 < (l2.length : Int)) = true := decide_eq_true c18
           clear c18
           by_cases c19 : 0 ≤ x9_2
           ·rw [if_pos c19] at H
            have c19b0 : decide (0 ≤ x9_2) = true := decide_eq_true c19
            clear c19; obtain ⟨bq20, hbq20⟩ : ∃ b_ : Bool, b_ = (rdOf false l2 x9_2) := ⟨_, rfl⟩
            replace H : (if bq20 = true then (if x9_2 < (l0.length : Int) then (bournelaw26_RainSums.l0 kj10 l0 a1 l2 t101 (wrap64 (x8_2 + ((rd_T26 l0 x9_2).f1))) (wrap64 (x9_2 + 1))) else (none)) else (if x9_2 < (l0.length : Int) then (bournelaw26_RainSums.l0 kj10 l0 a1 l2 t101 (wrap64 (x8_2 + ((rd_T26 l0 x9_2).f0))) (wrap64 (x9_2 + 1))) else (none))) = some r := by rw [← hbq20] at H; exact H
            have Nbq20 := Aside0.mk hbq20
            clear hbq20
            by_cases c21 : bq20 = true
            ·subst c21; have H1 : (if x9_2 < (l0.length : Int) then (bournelaw26_RainSums.l0 kj10 l0 a1 l2 t101 (wrap64 (x8_2 + ((rd_T26 l0 x9_2).f1))) (wrap64 (x9_2 + 1))) else (none)) = some r := by rw [if_pos rfl] at H; exact H
             clear H; have H := H1; clear H1
             by_cases c22 : x9_2 < (l0.length : Int)
             ·rw [if_pos c22] at H
              have c22b0 : decide (x9_2 < (l0.length : Int)) = true := decide_eq_true c22
              clear c22; have H' := Aside0.mk H; clear H; have p106 : 0 ≤ (x9_2 : Int) := of_decide_eq_true (by first | (with_reducible assumption) | assumption)
              have q106 : x9_2 < (l2.length : Int) := of_decide_eq_true (by first | (with_reducible assumption) | assumption)
              obtain ⟨ad106, e106, hx106_0⟩ := Kd.at_bool HR2.out x9_2 p106 q106
              (try rw [← Nbq20.out] at hx106_0)
              cases e106
              replace hx106_0 := (HB.out.cell (World.block_lt_of_cell? w _ hx106_0)).trans hx106_0
              replace p106 := eq_true p106
              replace q106 := eq_true q106
              have p107 : 0 ≤ (x9_2 : Int) := of_decide_eq_true (by first | (with_reducible assumption) | assumption)
              have q107 : x9_2 < (l0.length : Int) := of_decide_eq_true (by first | (with_reducible assumption) | assumption)
              obtain ⟨ad107, e107, hx107_0, hx107_1⟩ := at_T26 HR0.out x9_2 p107 q107
              cases e107
              replace hx107_0 := (HB.out.cell (World.block_lt_of_cell? w _ hx107_0)).trans hx107_0
              replace hx107_1 := (HB.out.cell (World.block_lt_of_cell? w _ hx107_1)).trans hx107_1
              replace p107 := eq_true p107
              replace q107 := eq_true q107
              go_wp2
              go_roundg kj10
              case measure => have := HJ4.out; have := HK2.out; have := HJ10.out; omega
              case rel => exact ⟨(wrap64 (x8_2 + ((rd_T26 l0 x9_2).f1))), (wrap64 (x9_2 + 1)), (by first | rfl | (simp; done) | (simp [*]; done)), (by first | rfl | (simp; done) | (simp [*]; done)), H', ⟨by have := HJ4.out; have := HK2.out; have := HJ10.out; omega⟩, ⟨ahx⟩⟩
             ·rw [if_neg c22] at H
              exact NF.go H hr.out (by repeat' first | exact NF.none | exact NF.ff | refine NF.ite ?_ ?_ | refine NF.bind (fun _ => ?_))
            ·replace c21 := Bool.eq_false_iff.mpr c21
             subst c21; have H1 : (if x9_2 < (l0.length : Int) then (bournelaw26_RainSums.l0 kj10 l0 a1 l2 t101 (wrap64 (x8_2 + ((rd_T26 l0 x9_2).f0))) (wrap64 (x9_2 + 1))) else (none)) = some r := by rw [if_neg (show ¬ (false = true) by decide)] at H; exact H
             clear H; have H := H1; clear H1
             by_cases c23 : x9_2 < (l0.length : Int)
             ·rw [if_pos c23] at H
              have c23b0 : decide (x9_2 < (l0.length : Int)) = true := decide_eq_true c23
              clear c23; have H' := Aside0.mk H; clear H; have p106 : 0 ≤ (x9_2 : Int) := of_decide_eq_true (by first | (with_reducible assumption) | assumption)
              have q106 : x9_2 < (l2.length : Int) := of_decide_eq_true (by first | (with_reducible assumption) | assumption)
              obtain ⟨ad106, e106, hx106_0⟩ := Kd.at_bool HR2.out x9_2 p106 q106
              (try rw [← Nbq20.out] at hx106_0)
              cases e106
              replace hx106_0 := (HB.out.cell (World.block_lt_of_cell? w _ hx106_0)).trans hx106_0
              replace p106 := eq_true p106
              replace q106 := eq_true q106
              have p108 : 0 ≤ (x9_2 : Int) := of_decide_eq_true (by first | (with_reducible assumption) | assumption)
              have q108 : x9_2 < (l0.length : Int) := of_decide_eq_true (by first | (with_reducible assumption) | assumption)
              obtain ⟨ad108, e108, hx108_0, hx108_1⟩ := at_T26 HR0.out x9_2 p108 q108
              cases e108
              replace hx108_0 := (HB.out.cell (World.block_lt_of_cell? w _ hx108_0)).trans hx108_0
              replace hx108_1 := (HB.out.cell (World.block_lt_of_cell? w _ hx108_1)).trans hx108_1
              replace p108 := eq_true p108
              replace q108 := eq_true q108
              go_wp2
              go_roundg kj10
              case measure => have := HJ4.out; have := HK2.out; have := HJ10.out; omega
              case rel => exact ⟨(wrap64 (x8_2 + ((rd_T26 l0 x9_2).f0))), (wrap64 (x9_2 + 1)), (by first | rfl | (simp; done) | (simp [*]; done)), (by first | rfl | (simp; done) | (simp [*]; done)), H', ⟨by have := HJ4.out; have := HK2.out; have := HJ10.out; omega⟩, ⟨ahx⟩⟩
             ·rw [if_neg c23] at H
              exact NF.go H hr.out (by repeat' first | exact NF.none | exact NF.ff | refine NF.ite ?_ ?_ | refine NF.bind (fun _ => ?_))
           ·rw [if_neg c19] at H
            exact NF.go H hr.out (by repeat' first | exact NF.none | exact NF.ff | refine NF.ite ?_ ?_ | refine NF.bind (fun _ => ?_))
          ·rw [if_neg c18] at H
           have c18b0 : decide (x9_2 < (l2.length : Int)) = false := decide_eq_false c18
           clear c18
           by_cases c24 : 0 ≤ x9_2
           ·rw [if_pos c24] at H
            have c24b0 : decide (0 ≤ x9_2) = true := decide_eq_true c24
            clear c24
            by_cases c25 : x9_2 < (l0.length : Int)
            ·rw [if_pos c25] at H
             have c25b0 : decide (x9_2 < (l0.length : Int)) = true := decide_eq_true c25
             clear c25; have H' := Aside0.mk H; clear H; have p109 : 0 ≤ (x9_2 : Int) := of_decide_eq_true (by first | (with_reducible assumption) | assumption)
             have q109 : x9_2 < (l0.length : Int) := of_decide_eq_true (by first | (with_reducible assumption) | assumption)
             obtain ⟨ad109, e109, hx109_0, hx109_1⟩ := at_T26 HR0.out x9_2 p109 q109
             cases e109
             replace hx109_0 := (HB.out.cell (World.block_lt_of_cell? w _ hx109_0)).trans hx109_0
             replace hx109_1 := (HB.out.cell (World.block_lt_of_cell? w _ hx109_1)).trans hx109_1
             replace p109 := eq_true p109
             replace q109 := eq_true q109
             go_wp2
             go_roundg kj10
             case measure => have := HJ4.out; have := HK2.out; have := HJ10.out; omega
             case rel => exact ⟨(wrap64 (x8_2 + ((rd_T26 l0 x9_2).f0))), (wrap64 (x9_2 + 1)), (by first | rfl | (simp; done) | (simp [*]; done)), (by first | rfl | (simp; done) | (simp [*]; done)), H', ⟨by have := HJ4.out; have := HK2.out; have := HJ10.out; omega⟩, ⟨ahx⟩⟩
            ·rw [if_neg c25] at H
             exact NF.go H hr.out (by repeat' first | exact NF.none | exact NF.ff | refine NF.ite ?_ ?_ | refine NF.bind (fun _ => ?_))
           ·rw [if_neg c24] at H
            exact NF.go H hr.out (by repeat' first | exact NF.none | exact NF.ff | refine NF.ite ?_ ?_ | refine NF.bind (fun _ => ?_))
      ·rw [if_neg c10] at H
       have c10b0 : decide (x9_2 < (l0.length : Int)) = false := decide_eq_false c10
       clear c10; replace H := Option.bind_eq_some_iff.mp H; obtain ⟨⟨t110, t111⟩, A260, H⟩ := H
       replace H : (if t101 = true then (if 0 ≤ a1 then (if a1 ≤ (l0.length : Int) then ((rain_Sum.f (l0.take (a1 : Int).toNat)).bind fun bt117 => ((rain_Sum.f (l0.drop (a1 : Int).toNat)).bind fun bt123 => ((span_Add.f bt117.1 bt117.2 bt123.1 bt123.2).bind fun bt125 => (if (t110 == bt125.1 && (t111 == bt125.2)) = true then ((span_Has.f t110 t111 x8_2).bind fun t127 => (some t127)) else (some false))))) else (none)) else (none)) else (some false)) = some r := H
       have A26 := Aside0.mk A260
       clear A260
       by_cases c27 : t101 = true
       ·subst c27; have H1 : (if 0 ≤ a1 then (if a1 ≤ (l0.length : Int) then ((rain_Sum.f (l0.take (a1 : Int).toNat)).bind fun bt117 => ((rain_Sum.f (l0.drop (a1 : Int).toNat)).bind fun bt123 => ((span_Add.f bt117.1 bt117.2 bt123.1 bt123.2).bind fun bt125 => (if (t110 == bt125.1 && (t111 == bt125.2)) = true then ((span_Has.f t110 t111 x8_2).bind fun t127 => (some t127)) else (some false))))) else (none)) else (none)) = some r := by rw [if_pos rfl] at H; exact H
        clear H; have H := H1; clear H1
        by_cases c28 : 0 ≤ a1
        ·rw [if_pos c28] at H
         have c28b0 := eq_true c28
         have c28b1 : decide (0 ≤ a1) = true := decide_eq_true c28
         clear c28
         by_cases c29 : a1 ≤ (l0.length : Int)
         ·rw [if_pos c29] at H
          have c29b0 := eq_true c29
          have c29b1 : decide (a1 ≤ (l0.length : Int)) = true := decide_eq_true c29
          clear c29; obtain ⟨y113, hy113⟩ : ∃ y_ : List (S26), y_ = (l0.take (a1 : Int).toNat) := ⟨_, rfl⟩
          replace H : ((rain_Sum.f y113).bind fun bt117 => ((rain_Sum.f (l0.drop (a1 : Int).toNat)).bind fun bt123 => ((span_Add.f bt117.1 bt117.2 bt123.1 bt123.2).bind fun bt125 => (if (t110 == bt125.1 && (t111 == bt125.2)) = true then ((span_Has.f t110 t111 x8_2).bind fun t127 => (some t127)) else (some false))))) = some r := by first | (rw [hy113]; with_reducible exact H) | (have H2_ := (Option.bind_some _ _).symm.trans H; rw [hy113]; with_reducible exact H2_) | (have H2_ := (Option.bind_some _ _).symm.trans H; with_reducible exact H2_) | with_reducible exact H | (rw [hy113]; exact H) | exact H
          have Ny113 := Aside0.mk hy113
          clear hy113; replace H := Option.bind_eq_some_iff.mp H; obtain ⟨⟨t117, t118⟩, A300, H⟩ := H
          replace H : ((rain_Sum.f (l0.drop (a1 : Int).toNat)).bind fun bt123 => ((span_Add.f t117 t118 bt123.1 bt123.2).bind fun bt125 => (if (t110 == bt125.1 && (t111 == bt125.2)) = true then ((span_Has.f t110 t111 x8_2).bind fun t127 => (some t127)) else (some false)))) = some r := H
          have A30 := Aside0.mk A300
          clear A300; have c31b0 := eq_true (of_decide_eq_true (by first | (with_reducible assumption) | assumption) : 0 ≤ a1)
          have c32b0 := eq_true (of_decide_eq_true (by first | (with_reducible assumption) | assumption) : a1 ≤ (l0.length : Int))
          obtain ⟨y119, hy119⟩ : ∃ y_ : List (S26), y_ = (l0.drop (a1 : Int).toNat) := ⟨_, rfl⟩
          replace H : ((rain_Sum.f y119).bind fun bt123 => ((span_Add.f t117 t118 bt123.1 bt123.2).bind fun bt125 => (if (t110 == bt125.1 && (t111 == bt125.2)) = true then ((span_Has.f t110 t111 x8_2).bind fun t127 => (some t127)) else (some false)))) = some r := by first | (rw [hy119]; with_reducible exact H) | (have H2_ := (Option.bind_some _ _).symm.trans H; rw [hy119]; with_reducible exact H2_) | (have H2_ := (Option.bind_some _ _).symm.trans H; with_reducible exact H2_) | with_reducible exact H | (rw [hy119]; exact H) | exact H
          have Ny119 := Aside0.mk hy119
          clear hy119; replace H := Option.bind_eq_some_iff.mp H; obtain ⟨⟨t123, t124⟩, A330, H⟩ := H
          replace H : ((span_Add.f t117 t118 t123 t124).bind fun bt125 => (if (t110 == bt125.1 && (t111 == bt125.2)) = true then ((span_Has.f t110 t111 x8_2).bind fun t127 => (some t127)) else (some false))) = some r := H
          have A33 := Aside0.mk A330
          clear A330; replace H := Option.bind_eq_some_iff.mp H; obtain ⟨⟨t125, t126⟩, A340, H⟩ := H
          replace H : (if (t110 == t125 && (t111 == t126)) = true then ((span_Has.f t110 t111 x8_2).bind fun t127 => (some t127)) else (some false)) = some r := H
          have A34 := Aside0.mk A340
          clear A340
          by_cases c35 : (t110 == t125 && (t111 == t126)) = true
          ·rw [if_pos c35] at H
           have c35b0 : (t110 == t125 && (t111 == t126)) = true := c35
           (try (have c35b1 : decide (t110 = t125 && (t111 == t126)) = true := by simpa using c35)); (try (have c35b2 : (t110 == t125 && (t111 == t126)) = true := by simpa using c35)); clear c35; replace H := Option.bind_eq_some_iff.mp H; obtain ⟨t127, A360, H⟩ := H; replace H : (some t127) = some r := H
           have A36 := Aside0.mk A360
           clear A360; obtain rfl := Option.some.inj H
           try go_wp2_with (first | ((first | ((with_reducible refine gate_callee (f := 10) rfl ?_); refine goesL_ (some 80) rfl rfl Try.func10 (by kernel_rfl) rfl #[.slice A0 l0.length c0] rfl (by first | done | rfl) ?_) | go_at_call 10); (with_reducible refine (rain_Sum.calls _ _ l0 t110 t111 _ ?side1 ?side2 A26.out).mono ?_); (case side1 => repeat (first | exact (Kd.C_below HR0.out HB.out) | (with_reducible refine Kd.C_alloc ?_ _) | (with_reducible refine Kd.C_drewN ?_ _) | (with_reducible refine Kd.C_drew ?_))); (case side2 => exact HC0.out); rintro e w37 ⟨rfl, hb⟩; (first | with_reducible refine ⟨_, rfl, ?_⟩ | skip); have n0_ := Aside0.mk (below_step ahx hb); clear HB; have HB := n0_; clear n0_; (try clear hb); (try clear hb2); (try clear hk); (try clear hi)) | ((with_reducible refine gate_dst (N := 10) rfl ?_); (try (refine gate_guard (by rfl) ?_; dsimp only)); refine box_event ?hg (N := 10) ?hd (cs := #[.int .i64 0, .int .i64 0]) (t := 26) ?hr ?_; (case hd => rfl); (case hg => rfl); (case hr => first | (go_simp; done) | (go_simp; rfl)); intro gb112 hg w38 hbox hb; have n0_ := Aside0.mk (below_step ahx hb); have n1_ := Aside0.mk (hbox); have n2_ := Aside0.mk ((by rw [hg]; exact (below_size ahx) : w.heap.size ≤ gb112)); have n3_ := Aside0.mk ((by rw [hg]; exact (below_size ahx) : w.heap.size ≤ gb112)); clear HB; have HB := n0_; have BK112 := n1_; have GW112 := n2_; have GE112 := n3_; clear n0_ n1_ n2_ n3_; clear hb hbox hg; have hcz39_0 : w38.cell? ⟨gb112, 0, none⟩ = some (.int .i64 0) := (blk_cell BK112.out 0).trans rfl; have hcz39_1 : w38.cell? ⟨gb112, 1, none⟩ = some (.int .i64 0) := (blk_cell BK112.out 1).trans rfl; have hfz39_0 := blk_frozen BK112.out 0; have hfz39_1 := blk_frozen BK112.out 1))
           have n0_ : Aside0 (((w38.setCell ⟨gb112, 0, none⟩ (.int .i64 t110)).setCell ⟨gb112, 1, none⟩ (.int .i64 t111)).heap[gb112]? = some (.cells #[.int .i64 t110, .int .i64 t111] 26 (0, 0))) := ⟨by (with_reducible repeat (first | refine blk_drewN ?_ _ | refine blk_drew ?_ | refine blk_alloc ?_ _)); refine blk_put (cs := #[.int .i64 t110, .int .i64 0]) ?_ 1 _ rfl; (with_reducible repeat (first | refine blk_drewN ?_ _ | refine blk_drew ?_ | refine blk_alloc ?_ _)); refine blk_put (cs := #[.int .i64 0, .int .i64 0]) ?_ 0 _ rfl; (with_reducible repeat (first | refine blk_drewN ?_ _ | refine blk_drew ?_ | refine blk_alloc ?_ _)); exact BK112.out⟩
           have n1_ : Aside0 (Below w.heap.size w ((w38.setCell ⟨gb112, 0, none⟩ (.int .i64 t110)).setCell ⟨gb112, 1, none⟩ (.int .i64 t111))) := ⟨ahx⟩
           (try clear BK112); (try clear HB); generalize ((w38.setCell ⟨gb112, 0, none⟩ (.int .i64 t110)).setCell ⟨gb112, 1, none⟩ (.int .i64 t111)) = w40 at n0_ n1_ ⊢
           have BK112 := n0_; have HB := n1_; clear n0_ n1_; have n0_ := Aside0.mk (blk_drew BK112.out); have n1_ := Aside0.mk (below_drew1 HB.out); clear BK112; clear HB; have BK112 := n0_; have HB := n1_; clear n0_ n1_; have q42 : (a1 : Int) ≤ ((l0.length : Int) : Int) := of_decide_eq_true (by first | (with_reducible assumption) | assumption)
           obtain ⟨i042, hi042, _, hsz42, _⟩ := info_parts info26
           have hroom42 : l0.length ≤ c0 := HC0.out
           have hC42 : Kd.C k26 _ A0 l0.length l0 := HR0.out
           have hcut42 := cut_to (P := Try.prog) 22 26 .i64 Try.underlying22 hi042 A0 l0.length c0 a1 (of_decide_eq_true (by first | (with_reducible assumption) | assumption)) q42 hroom42
           have hr42 := Kd.C_take (m := (a1 : Int).toNat) hC42 (by omega)
           have hy42 : y113.length = (a1 : Int).toNat := (by rw [Ny113.out, List.length_take]; omega)
           rw [← Ny113.out] at hr42
           rw [← hy42] at hcut42
           have HR116 := Aside0.mk hr42
           have HC116 := Aside0.mk (show y113.length ≤ c0 from by omega)
           clear hr42 hC42 hroom42 hi042 hsz42; have KY42 := Aside0.mk hy42
           clear hy42; replace q42 := eq_true q42
           have q43 : (a1 : Int) ≤ ((l0.length : Int) : Int) := of_decide_eq_true (by first | (with_reducible assumption) | assumption)
           obtain ⟨i043, hi043, _, hsz43, _⟩ := info_parts info26
           have hroom43 : l0.length ≤ c0 := HC0.out
           have hC43 : Kd.C k26 _ A0 l0.length l0 := HR0.out
           have q043 : (0 : Int) ≤ (a1 : Int) := of_decide_eq_true (by first | (with_reducible assumption) | assumption)
           have hcut43 := cut_from (P := Try.prog) 22 26 .i64 Try.underlying22 hi043 2 hsz43 A0 l0.length c0 a1 q043 q43
           have hr43 := Kd.C_drop (m := (a1 : Int).toNat) (c := c0) hC43 (by omega) hroom43
           obtain ⟨A43, hA43⟩ : ∃ A1, A1 = (if c0 = (a1 : Int).toNat then A0 else (A0 : Option Addr).map (·.add ((a1 : Int).toNat * 2))) := ⟨_, rfl⟩
           obtain ⟨c43, hc43⟩ : ∃ c1, c1 = c0 - (a1 : Int).toNat := ⟨_, rfl⟩
           have hy43 : y119.length = l0.length - (a1 : Int).toNat := (by rw [Ny119.out, List.length_drop] <;> omega)
           rw [show (l0).drop (a1 : Int).toNat = y119 from Ny119.out.symm] at hr43
           replace hr43 : Kd.C k26 _ A43 y119.length y119 := (by rw [hA43]; exact hr43)
           rw [← hy43, ← hA43, ← hc43] at hcut43
           have HR122 := Aside0.mk hr43
           have HC122 := Aside0.mk (show y119.length ≤ c43 from by rw [hy43, hc43]; exact Nat.sub_le_sub_right hroom43 _)
           clear hr43 hC43 hroom43 hi043 hsz43 hc43; have KY43 := Aside0.mk hy43
           have KA43 := Aside0.mk hA43
           clear hy43 hA43; replace q43 := eq_true q43
           refine start_ (n := 20) (S := fun w' => w'.cell? ⟨gb112, 0, none⟩ = some (.int .i64 t110) ∧ w'.cell? ⟨gb112, 1, none⟩ = some (.int .i64 t111)) (ds := []) #[false, false, false, false, false, false, false, false, false, false, false, false, false, false, false, false, false, false, false, false] (by kernel_rfl) rfl rfl ⟨(blk_cell BK112.out 0).trans rfl, (blk_cell BK112.out 1).trans rfl⟩ (fun hHeld => ?_); refine with_tabW bournelaw26_RainSums.tab14 bournelaw26_RainSums.bits14 (fun HT_ HW_ => ?_)
           generalize w40.drew = w41 at BK112 HB HR116 HR122 hHeld ⊢
           as_aux_lemma =>
           refine pure_ (i := 0) (N := some 81) (v := ?_) (a' := ?_) #[true, false, false, false, false, false, false, false, false, false, false, false, false, false, false, false, false, false, false, false] rfl rfl (any_of HT_.out (by kernel_rfl)) (fun _ _ _ h => h) (Or.inl ⟨by rfl, ?_⟩) ?_ ?_; rotate_left
           ·intro w'; go_simp; with_reducible rfl
           rotate_left
           ·simp only [Act.put, zA, zB, zC, i64_w, i32_w]; rfl
           as_aux_lemma =>
           refine pure_ (i := 1) (N := some 82) (v := ?_) (a' := ?_) #[true, true, false, false, false, false, false, false, false, false, false, false, false, false, false, false, false, false, false, false] rfl rfl (any_of HT_.out (by kernel_rfl)) (fun _ _ _ h => h) (Or.inl ⟨by rfl, ?_⟩) ?_ ?_; rotate_left
           ·intro w'; go_simp; with_reducible rfl
           rotate_left
           ·simp only [Act.put, zA, zB, zC, i64_w, i32_w]; rfl
           as_aux_lemma =>
           refine pure_ (i := 3) (N := some 84) (v := ?_) (a' := ?_) #[true, true, false, true, false, false, false, false, false, false, false, false, false, false, false, false, false, false, false, false] rfl rfl (any_of HT_.out (by kernel_rfl)) (fun _ _ _ h => h) (Or.inl ⟨by rfl, ?_⟩) ?_ ?_; rotate_left
           ·intro w'; go_simp; with_reducible rfl
           rotate_left
           ·simp only [Act.put, zA, zB, zC, i64_w, i32_w]; rfl
           as_aux_lemma =>
           refine pure_ (i := 4) (N := some 85) (v := ?_) (a' := ?_) #[true, true, false, true, true, false, false, false, false, false, false, false, false, false, false, false, false, false, false, false] rfl rfl (any_of HT_.out (by kernel_rfl)) (fun _ _ _ h => h) (Or.inl ⟨by rfl, ?_⟩) ?_ ?_; rotate_left
           ·intro w'; go_simp; with_reducible rfl
           rotate_left
           ·simp only [Act.put, zA, zB, zC, i64_w, i32_w]; rfl
           as_aux_lemma =>
           refine pure_ (i := 5) (N := some 86) (v := ?_) (a' := ?_) #[true, true, false, true, true, true, false, false, false, false, false, false, false, false, false, false, false, false, false, false] rfl rfl (any_of HT_.out (by kernel_rfl)) (fun _ _ _ h => h) (Or.inl ⟨by rfl, ?_⟩) ?_ ?_; rotate_left
           ·intro w'; go_simp; with_reducible rfl
           rotate_left
           ·simp only [Act.put, zA, zB, zC, i64_w, i32_w]; rfl
           as_aux_lemma =>
           refine pure_ (i := 7) (N := some 88) (v := ?_) (a' := ?_) #[true, true, false, true, true, true, false, true, false, false, false, false, false, false, false, false, false, false, false, false] rfl rfl (any_of HT_.out (by kernel_rfl)) (fun _ _ _ h => h) (Or.inl ⟨by rfl, ?_⟩) ?_ ?_; rotate_left
           ·intro w'; go_simp; with_reducible rfl
           rotate_left
           ·simp only [Act.put, zA, zB, zC, i64_w, i32_w]; rfl
           as_aux_lemma =>
           refine pure_ (i := 8) (N := some 89) (v := ?_) (a' := ?_) #[true, true, false, true, true, true, false, true, true, false, false, false, false, false, false, false, false, false, false, false] rfl rfl (any_of HT_.out (by kernel_rfl)) (fun _ _ _ h => h) (Or.inl ⟨by rfl, ?_⟩) ?_ ?_; rotate_left
           ·intro w'; go_simp; with_reducible rfl
           rotate_left
           ·simp only [Act.put, zA, zB, zC, i64_w, i32_w]; rfl
           as_aux_lemma =>
           refine pure_ (i := 9) (N := some 90) (v := ?_) (a' := ?_) #[true, true, false, true, true, true, false, true, true, true, false, false, false, false, false, false, false, false, false, false] rfl rfl (any_of HT_.out (by kernel_rfl)) (fun _ _ _ h => h) (Or.inl ⟨by rfl, ?_⟩) ?_ ?_; rotate_left
           ·intro w'; go_simp; with_reducible rfl
           rotate_left
           ·simp only [Act.put, zA, zB, zC, i64_w, i32_w]; rfl
           as_aux_lemma =>
           refine take_ (i := 2) (N := some 83) (v := ?_) (a' := ?_) #[true, true, true, true, true, true, false, true, true, true, false, false, false, false, false, false, false, false, false, false] rfl rfl (take_ofW HT_.out HW_.out (by kernel_rfl)) (fun _ _ _ h => h) (Or.inl ⟨by rfl, ?_⟩) hHeld ?_ ?_; rotate_left
           ·rintro w' ⟨s0, s1⟩
            go_simp; with_reducible rfl
           rotate_left
           ·simp only [Act.put, zA, zB, zC, i64_w, i32_w]; rfl
           as_aux_lemma =>
           refine one_ (i := 6) (N := some 87) #[true, true, true, true, true, true, true, true, true, true, false, false, false, false, false, false, false, false, false, false] rfl rfl (one_of HT_.out (by kernel_rfl)) (by decide) (fun K hK => ?_)
           refine goes_ Try.func10 (by kernel_rfl) rfl #[.slice A0 y113.length c0] (by rfl) rfl rfl (by (try simp only [List.map_toArray, List.map_cons, List.map_nil]); first | done | rfl | (simp only [List.length_drop, List.length_take]; rfl)) ?_; with_reducible refine (rain_Sum.calls _ _ y113 t117 t118 _ ?side1 ?side2 A30.out).mono ?_
           (case side1 => repeat (first | exact (Kd.C_below HR116.out HB.out) | (with_reducible refine Kd.C_alloc ?_ _) | (with_reducible refine Kd.C_drewN ?_ _) | (with_reducible refine Kd.C_drew ?_))); (case side2 => exact HC116.out); rintro e w44 ⟨rfl, hb⟩
           refine ⟨_, rfl, ?_⟩
           have n0_ := Aside0.mk (blk_below (g := gb112) (o := .cells #[.int .i64 t110, .int .i64 t111] 26 (0, 0)) abx hb); have n1_ := Aside0.mk (below_step ahx hb); clear BK112; clear HB; have BK112 := n0_; have HB := n1_; clear n0_ n1_; (try clear hb); (try clear hb2); (try clear hk); (try clear hi); refine hK.out _ _ ⟨(blk_cell BK112.out 0).trans rfl, (blk_cell BK112.out 1).trans rfl⟩ (fun hHeld => ?_)
           clear hK K
           as_aux_lemma =>
           refine norm_ (a' := ?_) ?_ ?_; rotate_left
           ·show Act.put _ (some 87) _ = _; simp only [Act.put, zA, zB, zC, i64_w, i32_w]; rfl
           as_aux_lemma =>
           refine one_ (i := 10) (N := some 91) #[true, true, true, true, true, true, true, true, true, true, true, false, false, false, false, false, false, false, false, false] rfl rfl (one_of HT_.out (by kernel_rfl)) (by decide) (fun K hK => ?_)
           refine goes_ Try.func10 (by kernel_rfl) rfl #[.slice A43 y119.length c43] (by rfl) rfl rfl (by (try simp only [List.map_toArray, List.map_cons, List.map_nil]); first | done | rfl | (simp only [List.length_drop, List.length_take]; rfl)) ?_; with_reducible refine (rain_Sum.calls _ _ y119 t123 t124 _ ?side1 ?side2 A33.out).mono ?_
           (case side1 => repeat (first | exact (Kd.C_below HR122.out HB.out) | (with_reducible refine Kd.C_alloc ?_ _) | (with_reducible refine Kd.C_drewN ?_ _) | (with_reducible refine Kd.C_drew ?_))); (case side2 => exact HC122.out); rintro e w45 ⟨rfl, hb⟩
           refine ⟨_, rfl, ?_⟩
           have n0_ := Aside0.mk (blk_below (g := gb112) (o := .cells #[.int .i64 t110, .int .i64 t111] 26 (0, 0)) abx hb); have n1_ := Aside0.mk (below_step ahx hb); clear BK112; clear HB; have BK112 := n0_; have HB := n1_; clear n0_ n1_; (try clear hb); (try clear hb2); (try clear hk); (try clear hi); refine hK.out _ _ ⟨(blk_cell BK112.out 0).trans rfl, (blk_cell BK112.out 1).trans rfl⟩ (fun hHeld => ?_)
           clear hK K
           as_aux_lemma =>
           refine norm_ (a' := ?_) ?_ ?_; rotate_left
           ·show Act.put _ (some 91) _ = _; simp only [Act.put, zA, zB, zC, i64_w, i32_w]; rfl
           as_aux_lemma =>
           refine one_ (i := 11) (N := some 92) #[true, true, true, true, true, true, true, true, true, true, true, true, false, false, false, false, false, false, false, false] rfl rfl (one_of HT_.out (by kernel_rfl)) (by decide) (fun K hK => ?_)
           refine goes_ Try.func11 (by kernel_rfl) rfl #[.agg #[.int .i64 t117, .int .i64 t118], .agg #[.int .i64 t123, .int .i64 t124]] (by rfl) rfl rfl (by (try simp only [List.map_toArray, List.map_cons, List.map_nil]); first | done | rfl | (simp only [List.length_drop, List.length_take]; rfl)) ?_; with_reducible refine (span_Add.calls t117 t118 t123 t124 t125 t126 _ A34.out).mono ?_
           rintro e w46 ⟨rfl, hb⟩
           refine ⟨_, rfl, ?_⟩
           have n0_ := Aside0.mk (blk_below (g := gb112) (o := .cells #[.int .i64 t110, .int .i64 t111] 26 (0, 0)) abx hb); have n1_ := Aside0.mk (below_step ahx hb); clear BK112; clear HB; have BK112 := n0_; have HB := n1_; clear n0_ n1_; (try clear hb); (try clear hb2); (try clear hk); (try clear hi); refine hK.out _ _ ⟨(blk_cell BK112.out 0).trans rfl, (blk_cell BK112.out 1).trans rfl⟩ (fun hHeld => ?_)
           clear hK K
           as_aux_lemma =>
           refine norm_ (a' := ?_) ?_ ?_; rotate_left
           ·show Act.put _ (some 92) _ = _; simp only [Act.put, zA, zB, zC, i64_w, i32_w]; rfl
           as_aux_lemma =>
           refine pure_ (i := 12) (N := some 93) (v := ?_) (a' := ?_) #[true, true, true, true, true, true, true, true, true, true, true, true, true, false, false, false, false, false, false, false] rfl rfl (any_of HT_.out (by kernel_rfl)) (fun _ _ _ h => h) (Or.inl ⟨by rfl, ?_⟩) ?_ ?_; rotate_left
           ·intro w'; go_simp; with_reducible rfl
           rotate_left
           ·simp only [Act.put, zA, zB, zC, i64_w, i32_w]; rfl
           as_aux_lemma =>
           refine pure_ (i := 13) (N := some 94) (v := ?_) (a' := ?_) #[true, true, true, true, true, true, true, true, true, true, true, true, true, true, false, false, false, false, false, false] rfl rfl (any_of HT_.out (by kernel_rfl)) (fun _ _ _ h => h) (Or.inl ⟨by rfl, ?_⟩) ?_ ?_; rotate_left
           ·intro w'; go_simp; with_reducible rfl
           rotate_left
           ·simp only [Act.put, zA, zB, zC, i64_w, i32_w]; rfl
           as_aux_lemma =>
           refine pure_ (i := 14) (N := some 95) (v := ?_) (a' := ?_) #[true, true, true, true, true, true, true, true, true, true, true, true, true, true, true, false, false, false, false, false] rfl rfl (any_of HT_.out (by kernel_rfl)) (fun _ _ _ h => h) (Or.inl ⟨by rfl, ?_⟩) ?_ ?_; rotate_left
           ·intro w'; go_simp; with_reducible rfl
           rotate_left
           ·simp only [Act.put, zA, zB, zC, i64_w, i32_w]; rfl
           as_aux_lemma =>
           refine pure_ (i := 16) (N := some 97) (v := ?_) (a' := ?_) #[true, true, true, true, true, true, true, true, true, true, true, true, true, true, true, false, true, false, false, false] rfl rfl (any_of HT_.out (by kernel_rfl)) (fun _ _ _ h => h) (Or.inl ⟨by rfl, ?_⟩) ?_ ?_; rotate_left
           ·intro w'; go_simp; with_reducible rfl
           rotate_left
           ·simp only [Act.put, zA, zB, zC, i64_w, i32_w]; rfl
           as_aux_lemma =>
           refine take_ (i := 15) (N := some 96) (v := ?_) (a' := ?_) #[true, true, true, true, true, true, true, true, true, true, true, true, true, true, true, true, true, false, false, false] rfl rfl (take_ofW HT_.out HW_.out (by kernel_rfl)) (fun _ _ _ h => h) (Or.inl ⟨by rfl, ?_⟩) hHeld ?_ ?_; rotate_left
           ·rintro w' ⟨s0, s1⟩
            go_simp; with_reducible rfl
           rotate_left
           ·simp only [Act.put, zA, zB, zC, i64_w, i32_w]; rfl
           as_aux_lemma =>
           refine one_ (i := 17) (N := some 98) #[true, true, true, true, true, true, true, true, true, true, true, true, true, true, true, true, true, true, false, false] rfl rfl (one_of HT_.out (by kernel_rfl)) (by decide) (fun K hK => ?_)
           refine goes_ Try.func12 (by kernel_rfl) rfl #[.agg #[.int .i64 t110, .int .i64 t111], .int .i64 x8_2] (by rfl) rfl rfl (by (try simp only [List.map_toArray, List.map_cons, List.map_nil]); first | done | rfl | (simp only [List.length_drop, List.length_take]; rfl)) ?_; with_reducible refine (span_Has.calls t110 t111 x8_2 t127 _ A36.out).mono ?_
           rintro e w47 ⟨rfl, hb⟩
           refine ⟨_, rfl, ?_⟩
           have n0_ := Aside0.mk (blk_below (g := gb112) (o := .cells #[.int .i64 t110, .int .i64 t111] 26 (0, 0)) abx hb); have n1_ := Aside0.mk (below_step ahx hb); clear BK112; clear HB; have BK112 := n0_; have HB := n1_; clear n0_ n1_; (try clear hb); (try clear hb2); (try clear hk); (try clear hi); refine hK.out _ _ ⟨(blk_cell BK112.out 0).trans rfl, (blk_cell BK112.out 1).trans rfl⟩ (fun hHeld => ?_)
           clear hK K
           as_aux_lemma =>
           refine norm_ (a' := ?_) ?_ ?_; rotate_left
           ·show Act.put _ (some 98) _ = _; simp only [Act.put, zA, zB, zC, i64_w, i32_w]; rfl
           as_aux_lemma =>
           refine pure_ (i := 18) (N := some 99) (v := ?_) (a' := ?_) #[true, true, true, true, true, true, true, true, true, true, true, true, true, true, true, true, true, true, true, false] rfl rfl (any_of HT_.out (by kernel_rfl)) (fun _ _ _ h => h) (Or.inl ⟨by rfl, ?_⟩) ?_ ?_; rotate_left
           ·intro w'; go_simp; with_reducible rfl
           rotate_left
           ·simp only [Act.put, zA, zB, zC, i64_w, i32_w]; rfl
           as_aux_lemma =>
           refine pure_ (i := 19) (N := some 6) (v := ?_) (a' := ?_) #[true, true, true, true, true, true, true, true, true, true, true, true, true, true, true, true, true, true, true, true] rfl rfl (any_of HT_.out (by kernel_rfl)) (fun _ _ _ h => h) (Or.inl ⟨by rfl, ?_⟩) ?_ ?_; rotate_left
           ·intro w'; go_simp; with_reducible rfl
           rotate_left
           ·simp only [Act.put, zA, zB, zC, i64_w, i32_w]; rfl
           refine done_ (done_of HT_.out (by kernel_rfl)) ?_
           try go_wp2
           go_ret
           exact ⟨by first | rfl | (simp [errW_none, errW_some] <;> rfl) | (simp [*, errW_none, errW_some] <;> rfl), ahx⟩
          ·rw [if_neg c35] at H
           have c35b0 : (t110 == t125 && (t111 == t126)) = false := by simpa using c35
           (try (have c35b1 : decide (t110 = t125 && (t111 == t126)) = false := by simpa using c35)); (try (have c35b2 : (t110 == t125 && (t111 == t126)) = false := by simpa using c35)); (try (have c35b3 : ¬ (t110 = t125 && (t111 == t126)) := by simpa using c35)); clear c35; exact NF.go H hr.out (by repeat' first | exact NF.none | exact NF.ff | refine NF.ite ?_ ?_ | refine NF.bind (fun _ => ?_))
         ·rw [if_neg c29] at H
          exact NF.go H hr.out (by repeat' first | exact NF.none | exact NF.ff | refine NF.ite ?_ ?_ | refine NF.bind (fun _ => ?_))
        ·rw [if_neg c28] at H
         exact NF.go H hr.out (by repeat' first | exact NF.none | exact NF.ff | refine NF.ite ?_ ?_ | refine NF.bind (fun _ => ?_))
       ·replace c27 := Bool.eq_false_iff.mpr c27
        subst c27; have H1 : (some false) = some r := by rw [if_neg (show ¬ (false = true) by decide)] at H; exact H
        clear H; have H := H1; clear H1; exact NF.go H hr.out (by repeat' first | exact NF.none | exact NF.ff | refine NF.ite ?_ ?_ | refine NF.bind (fun _ => ?_))

end Go.Proofs.Ytcdlielgifkemaa.S
