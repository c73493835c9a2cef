/- The iterator of seep.turns: its closure's contract. -/
import Derived.RangeFuncNested
import Derived.RangeFuncBound
import Derived.RangeFuncCalls
import Derived.RangeFuncLeaves
import Derived.Shelf.Abstract
import Derived.Shelf.RegionOpen
import Derived.WalkKit
import Derived.OwnWalkIn
import Derived.TacticsInMore
import Derived.LoopNIn
import Derived.LoopIn
import Derived.Deep.QuietTactic
import Derived.BigQuiet
import Derived.Test.YtndancjnfdhbfaaEx
namespace Go.Proofs.Ytndancjnfdhbfaa.S
open Go.RowKit Go.Shelf Go.Proofs.YtndancjnfdhbfaaW.PrintWords Go.Proofs.YtndancjnfdhbfaaW.PrintMore
attribute [local go_sem] Oper.semAt_some
set_option linter.unusedVariables false
set_option linter.unusedSimpArgs false

/-- what the iterator looks at -/
def six (lo hi p b : Int) : List Int := [lo, sat (p - 1), p, b, sat (b + 1), hi]
/-- what it hands on, after k of them -/
def trn (lo hi p b : Int) (k : Nat) : List Int := ((six lo hi p b).take k).filter fun x => decide (lo ≤ x ∧ x ≤ hi)
theorem trn_len (lo hi p b : Int) (k : Nat) (h : k ≤ 6) : (trn lo hi p b k).length < 7 := by
  have h1 := List.length_filter_le (fun x => decide (lo ≤ x ∧ x ≤ hi)) ((six lo hi p b).take k)
  have h2 := List.length_take_le k (six lo hi p b)
  unfold trn; omega
theorem trn_succ (lo hi p b : Int) (k : Nat) (x : Int) (h : (six lo hi p b)[k]? = some x) : trn lo hi p b (k + 1) = if lo ≤ x ∧ x ≤ hi then trn lo hi p b k ++ [x] else trn lo hi p b k := by
  unfold trn
  rw [List.take_add_one, h, List.filter_append]
  by_cases hx : lo ≤ x ∧ x ≤ hi <;> simp [hx, List.filter]

def Kp2 (Bv Bl : Nat) (W W' : World) : Prop := W'.heap[Bv]? = W.heap[Bv]? ∧ W'.heap[Bl]? = W.heap[Bl]? ∧ W.heap.size ≤ W'.heap.size
theorem Kp2.trans {Bv Bl : Nat} {A B C : World} (h : Kp2 Bv Bl A B) (k : Kp2 Bv Bl B C) : Kp2 Bv Bl A C := ⟨k.1.trans h.1, k.2.1.trans h.2.1, Nat.le_trans h.2.2 k.2.2⟩
theorem Kp2.of_below {Bv Bl : Nat} {A B : World} (hv : Bv < A.heap.size) (hl : Bl < A.heap.size) (h : Below A.heap.size A B) : Kp2 Bv Bl A B := ⟨h.block _ hv, h.block _ hl, h.size⟩
theorem cell_of_block {W W' : World} {B i : Nat} (h : W'.heap[B]? = W.heap[B]?) : W'.cell? ⟨B, i, none⟩ = W.cell? ⟨B, i, none⟩ := by simp [World.cell?, h]
theorem grown_of_below {w w' : World} (h : Below w.heap.size w w') : w.grownBy w' none := ⟨h.os, h.tape, h.output, h.size, fun k hk _ => h.block k hk⟩

set_option maxRecDepth 100000 in
set_option maxHeartbeats 4000000 in
theorem turns1_in (hHas : ∀ (lo hi x : Int) (w : World), Calls Try.prog 22 #[.agg #[.int .i64 lo, .int .i64 hi], .int .i64 x] w fun e w' => e = .returned (.bool (decide (lo ≤ x ∧ x ≤ hi))) ∧ Below w.heap.size w w')
    (l Bv Bl : Nat) (lo hi p b : Int) (hp : I64 p) (hb : I64 b) (J Jx : List Int → World → Prop) (W : World)
    (hJ : AbidesFrom W.heap.size J)
    (hY : ∀ pre x W1, J pre W1 → pre.length < 7 → YieldAt Fence.wide 4 Try.prog l #[.int .i64 x] W1 fun e W' =>
      (e = .returned (.bool true) ∧ J (pre ++ [x]) W' ∧ Kp2 Bv Bl W1 W') ∨ (e = .returned (.bool false) ∧ Jx (pre ++ [x]) W'))
    (hv : Bv < W.heap.size) (hl : Bl < W.heap.size)
    (hv0 : W.cell? ⟨Bv, 0, none⟩ = some (.int .i64 lo)) (hv1 : W.cell? ⟨Bv, 1, none⟩ = some (.int .i64 hi))
    (hl0 : W.cell? ⟨Bl, 13, none⟩ = some (.int .i64 p)) (hl1 : W.cell? ⟨Bl, 14, none⟩ = some (.int .i64 b)) (h0 : J [] W) :
    CallsIn Fence.wide 5 Try.prog 33 #[.func (.yield l) #[] #[], .pointer (some ⟨Bv, 0, none⟩), .pointer (some ⟨Bl, 0, none⟩)] W fun e W' => (∃ v, e = .returned v) ∧
      ((∃ ys, ys = trn lo hi p b 6 ∧ J ys W') ∨ (∃ pre, True ∧ Jx pre W')) := by
  have hsub : ∀ (w : World) (n : Nat), Calls Try.prog 34 #[.int .i64 p, .int .i64 1] (w.drewN n) fun e w' => e = .returned (.int .i64 (sat (p - 1))) ∧ ∃ m, w' = (w.drewN n).drewN m := fun w n => (exact_Sub.calls p 1 (sat (p - 1)) (w.drewN n) (by unfold exact_Sub.f; rw [if_pos ⟨hp, by decide⟩])).mono fun e w' ⟨h1, h2⟩ => ⟨h1, h2.out⟩
  have hadd : ∀ (w : World) (n : Nat), Calls Try.prog 35 #[.int .i64 b, .int .i64 1] (w.drewN n) fun e w' => e = .returned (.int .i64 (sat (b + 1))) ∧ ∃ m, w' = (w.drewN n).drewN m := fun w n => (exact_Add.calls b 1 (sat (b + 1)) (w.drewN n) (by unfold exact_Add.f; rw [if_pos ⟨hb, by decide⟩])).mono fun e w' ⟨h1, h2⟩ => ⟨h1, h2.out⟩
  have hu30 := Try.underlying30
  have hu62 := Try.underlying62
  refine callsIn_of_wp Try.func33 rfl trivial ?_ rfl
  simp only [Try.ntmps33, List.size_toArray, List.length_cons, List.length_nil, Nat.reduceAdd, Nat.reduceSub, Array.replicate_succ, Array.replicate_zero, List.push_toArray, List.append_toArray, List.nil_append, List.cons_append]
  gi_wp2
  refine wpIn_wide.2 ?_
  go_quiet (first | ((go_at_call 34; exact Calls.quiet_of (hsub _ _))) | ((go_at_call 35; exact Calls.quiet_of (hadd _ _))))
  have hnx0 : Kp2 Bv Bl W (W.drewN nq) := ⟨rfl, rfl, by simp⟩
  gi_wp2
  gi_loopw [21] (fun i wr => ∃ k : Nat, k ≤ 6 ∧ i = .int .i64 k ∧ J (trn lo hi p b k) wr ∧ W.heap.size ≤ wr.heap.size ∧ Kp2 Bv Bl W wr)
    (fun i _ => 6 - (intOf i).toNat)
  case atStart => exact ⟨0, by omega, rfl, hJ _ _ _ none h0 (grown_of_below (pw_below_drewN (Below.refl _ _) _)) (fun r e => by cases e), by simp, ⟨rfl, rfl, by simp⟩⟩
  case round =>
    obtain ⟨k, hk, rfl, hJs, hsz, hnx⟩ := hrel
    have x0 : ∀ w : World, (Instr.index 62 (.agg #[.int .i64 lo, .int .i64 (sat (p - 1)), .int .i64 p, .int .i64 b, .int .i64 (sat (b + 1)), .int .i64 hi]) (.int .i64 0)).run Try.prog w = .ok (.int .i64 lo) w := fun w => by kernel_rfl
    have x1 : ∀ w : World, (Instr.index 62 (.agg #[.int .i64 lo, .int .i64 (sat (p - 1)), .int .i64 p, .int .i64 b, .int .i64 (sat (b + 1)), .int .i64 hi]) (.int .i64 1)).run Try.prog w = .ok (.int .i64 (sat (p - 1))) w := fun w => by kernel_rfl
    have x2 : ∀ w : World, (Instr.index 62 (.agg #[.int .i64 lo, .int .i64 (sat (p - 1)), .int .i64 p, .int .i64 b, .int .i64 (sat (b + 1)), .int .i64 hi]) (.int .i64 2)).run Try.prog w = .ok (.int .i64 p) w := fun w => by kernel_rfl
    have x3 : ∀ w : World, (Instr.index 62 (.agg #[.int .i64 lo, .int .i64 (sat (p - 1)), .int .i64 p, .int .i64 b, .int .i64 (sat (b + 1)), .int .i64 hi]) (.int .i64 3)).run Try.prog w = .ok (.int .i64 b) w := fun w => by kernel_rfl
    have x4 : ∀ w : World, (Instr.index 62 (.agg #[.int .i64 lo, .int .i64 (sat (p - 1)), .int .i64 p, .int .i64 b, .int .i64 (sat (b + 1)), .int .i64 hi]) (.int .i64 4)).run Try.prog w = .ok (.int .i64 (sat (b + 1))) w := fun w => by kernel_rfl
    have x5 : ∀ w : World, (Instr.index 62 (.agg #[.int .i64 lo, .int .i64 (sat (p - 1)), .int .i64 p, .int .i64 b, .int .i64 (sat (b + 1)), .int .i64 hi]) (.int .i64 5)).run Try.prog w = .ok (.int .i64 hi) w := fun w => by kernel_rfl
    have c0 := (cell_of_block (i := 0) hnx.1).trans hv0
    have c1 := (cell_of_block (i := 1) hnx.1).trans hv1
    by_cases h6 : k = 6
    · subst h6
      gi_wp2
      go_end0
      exact ⟨⟨_, rfl⟩, .inl ⟨_, rfl, hJs⟩⟩
    · obtain ⟨x, hx⟩ : ∃ x, (six lo hi p b)[k]? = some x := ⟨_, List.getElem?_eq_getElem (by simp [six]; omega)⟩
      have hsucc := trn_succ lo hi p b k x hx
      have hlen := trn_len lo hi p b k hk
      have hk' : k = 0 ∨ k = 1 ∨ k = 2 ∨ k = 3 ∨ k = 4 ∨ k = 5 := by omega
      by_cases hin : lo ≤ x ∧ x ≤ hi
      · rw [if_pos hin] at hsucc
        have hd : decide (lo ≤ x ∧ x ≤ hi) = true := decide_eq_true hin
        rcases hk' with rfl | rfl | rfl | rfl | rfl | rfl
        · obtain rfl : lo = x := Option.some.inj hx
          gi_wp2_with (refine ⟨trivial, ?_⟩; gi_at_call 22; refine (callsIn_wide.2 (hHas lo hi lo wr)).mono ?_; rintro e w' ⟨rfl, hbw⟩; rw [hd]; have hJ2 : J (trn lo hi p b 0) w' := hJ _ _ _ none hJs (grown_of_below hbw) (fun r e => by cases e); obtain ⟨fn, tmps, assign, body, hy, hR⟩ := hY _ lo w' hJ2 hlen)
          refine hR.mono ?_
          rintro e2 W3 (⟨rfl, hJ3, hk3⟩ | ⟨rfl, hJx3⟩)
          · gi_wp2
            go_roundw
            case rel => exact ⟨0 + 1, by omega, by simp, by rw [hsucc]; exact hJ3, Nat.le_trans hsz (Nat.le_trans hbw.size hk3.2.2), (hnx.trans (Kp2.of_below (by omega) (by omega) hbw)).trans hk3⟩
            case measure => simp [intOf]
          · gi_wp2
            refine bodyPost_ret (results_none rfl _ _ _) rfl ?_
            exact ⟨⟨_, rfl⟩, .inr ⟨_, trivial, hJx3⟩⟩
        · obtain rfl : (sat (p - 1)) = x := Option.some.inj hx
          gi_wp2_with (refine ⟨trivial, ?_⟩; gi_at_call 22; refine (callsIn_wide.2 (hHas lo hi (sat (p - 1)) wr)).mono ?_; rintro e w' ⟨rfl, hbw⟩; rw [hd]; have hJ2 : J (trn lo hi p b 1) w' := hJ _ _ _ none hJs (grown_of_below hbw) (fun r e => by cases e); obtain ⟨fn, tmps, assign, body, hy, hR⟩ := hY _ (sat (p - 1)) w' hJ2 hlen)
          refine hR.mono ?_
          rintro e2 W3 (⟨rfl, hJ3, hk3⟩ | ⟨rfl, hJx3⟩)
          · gi_wp2
            go_roundw
            case rel => exact ⟨1 + 1, by omega, by simp, by rw [hsucc]; exact hJ3, Nat.le_trans hsz (Nat.le_trans hbw.size hk3.2.2), (hnx.trans (Kp2.of_below (by omega) (by omega) hbw)).trans hk3⟩
            case measure => simp [intOf]
          · gi_wp2
            refine bodyPost_ret (results_none rfl _ _ _) rfl ?_
            exact ⟨⟨_, rfl⟩, .inr ⟨_, trivial, hJx3⟩⟩
        · obtain rfl : p = x := Option.some.inj hx
          gi_wp2_with (refine ⟨trivial, ?_⟩; gi_at_call 22; refine (callsIn_wide.2 (hHas lo hi p wr)).mono ?_; rintro e w' ⟨rfl, hbw⟩; rw [hd]; have hJ2 : J (trn lo hi p b 2) w' := hJ _ _ _ none hJs (grown_of_below hbw) (fun r e => by cases e); obtain ⟨fn, tmps, assign, body, hy, hR⟩ := hY _ p w' hJ2 hlen)
          refine hR.mono ?_
          rintro e2 W3 (⟨rfl, hJ3, hk3⟩ | ⟨rfl, hJx3⟩)
          · gi_wp2
            go_roundw
            case rel => exact ⟨2 + 1, by omega, by simp, by rw [hsucc]; exact hJ3, Nat.le_trans hsz (Nat.le_trans hbw.size hk3.2.2), (hnx.trans (Kp2.of_below (by omega) (by omega) hbw)).trans hk3⟩
            case measure => simp [intOf]
          · gi_wp2
            refine bodyPost_ret (results_none rfl _ _ _) rfl ?_
            exact ⟨⟨_, rfl⟩, .inr ⟨_, trivial, hJx3⟩⟩
        · obtain rfl : b = x := Option.some.inj hx
          gi_wp2_with (refine ⟨trivial, ?_⟩; gi_at_call 22; refine (callsIn_wide.2 (hHas lo hi b wr)).mono ?_; rintro e w' ⟨rfl, hbw⟩; rw [hd]; have hJ2 : J (trn lo hi p b 3) w' := hJ _ _ _ none hJs (grown_of_below hbw) (fun r e => by cases e); obtain ⟨fn, tmps, assign, body, hy, hR⟩ := hY _ b w' hJ2 hlen)
          refine hR.mono ?_
          rintro e2 W3 (⟨rfl, hJ3, hk3⟩ | ⟨rfl, hJx3⟩)
          · gi_wp2
            go_roundw
            case rel => exact ⟨3 + 1, by omega, by simp, by rw [hsucc]; exact hJ3, Nat.le_trans hsz (Nat.le_trans hbw.size hk3.2.2), (hnx.trans (Kp2.of_below (by omega) (by omega) hbw)).trans hk3⟩
            case measure => simp [intOf]
          · gi_wp2
            refine bodyPost_ret (results_none rfl _ _ _) rfl ?_
            exact ⟨⟨_, rfl⟩, .inr ⟨_, trivial, hJx3⟩⟩
        · obtain rfl : (sat (b + 1)) = x := Option.some.inj hx
          gi_wp2_with (refine ⟨trivial, ?_⟩; gi_at_call 22; refine (callsIn_wide.2 (hHas lo hi (sat (b + 1)) wr)).mono ?_; rintro e w' ⟨rfl, hbw⟩; rw [hd]; have hJ2 : J (trn lo hi p b 4) w' := hJ _ _ _ none hJs (grown_of_below hbw) (fun r e => by cases e); obtain ⟨fn, tmps, assign, body, hy, hR⟩ := hY _ (sat (b + 1)) w' hJ2 hlen)
          refine hR.mono ?_
          rintro e2 W3 (⟨rfl, hJ3, hk3⟩ | ⟨rfl, hJx3⟩)
          · gi_wp2
            go_roundw
            case rel => exact ⟨4 + 1, by omega, by simp, by rw [hsucc]; exact hJ3, Nat.le_trans hsz (Nat.le_trans hbw.size hk3.2.2), (hnx.trans (Kp2.of_below (by omega) (by omega) hbw)).trans hk3⟩
            case measure => simp [intOf]
          · gi_wp2
            refine bodyPost_ret (results_none rfl _ _ _) rfl ?_
            exact ⟨⟨_, rfl⟩, .inr ⟨_, trivial, hJx3⟩⟩
        · obtain rfl : hi = x := Option.some.inj hx
          gi_wp2_with (refine ⟨trivial, ?_⟩; gi_at_call 22; refine (callsIn_wide.2 (hHas lo hi hi wr)).mono ?_; rintro e w' ⟨rfl, hbw⟩; rw [hd]; have hJ2 : J (trn lo hi p b 5) w' := hJ _ _ _ none hJs (grown_of_below hbw) (fun r e => by cases e); obtain ⟨fn, tmps, assign, body, hy, hR⟩ := hY _ hi w' hJ2 hlen)
          refine hR.mono ?_
          rintro e2 W3 (⟨rfl, hJ3, hk3⟩ | ⟨rfl, hJx3⟩)
          · gi_wp2
            go_roundw
            case rel => exact ⟨5 + 1, by omega, by simp, by rw [hsucc]; exact hJ3, Nat.le_trans hsz (Nat.le_trans hbw.size hk3.2.2), (hnx.trans (Kp2.of_below (by omega) (by omega) hbw)).trans hk3⟩
            case measure => simp [intOf]
          · gi_wp2
            refine bodyPost_ret (results_none rfl _ _ _) rfl ?_
            exact ⟨⟨_, rfl⟩, .inr ⟨_, trivial, hJx3⟩⟩
      · rw [if_neg hin] at hsucc
        have hd : decide (lo ≤ x ∧ x ≤ hi) = false := decide_eq_false hin
        rcases hk' with rfl | rfl | rfl | rfl | rfl | rfl
        · obtain rfl : lo = x := Option.some.inj hx
          gi_wp2_with (refine ⟨trivial, ?_⟩; gi_at_call 22; refine (callsIn_wide.2 (hHas lo hi lo wr)).mono ?_; rintro e w' ⟨rfl, hbw⟩; rw [hd]; have hJ2 : J (trn lo hi p b 0) w' := hJ _ _ _ none hJs (grown_of_below hbw) (fun r e => by cases e))
          refine ⟨fun _ h => (by cases h), ?_⟩
          gi_wp2
          go_roundw
          case rel => exact ⟨0 + 1, by omega, by simp, by rw [hsucc]; exact hJ2, Nat.le_trans hsz hbw.size, hnx.trans (Kp2.of_below (by omega) (by omega) hbw)⟩
          case measure => simp [intOf]
        · obtain rfl : (sat (p - 1)) = x := Option.some.inj hx
          gi_wp2_with (refine ⟨trivial, ?_⟩; gi_at_call 22; refine (callsIn_wide.2 (hHas lo hi (sat (p - 1)) wr)).mono ?_; rintro e w' ⟨rfl, hbw⟩; rw [hd]; have hJ2 : J (trn lo hi p b 1) w' := hJ _ _ _ none hJs (grown_of_below hbw) (fun r e => by cases e))
          refine ⟨fun _ h => (by cases h), ?_⟩
          gi_wp2
          go_roundw
          case rel => exact ⟨1 + 1, by omega, by simp, by rw [hsucc]; exact hJ2, Nat.le_trans hsz hbw.size, hnx.trans (Kp2.of_below (by omega) (by omega) hbw)⟩
          case measure => simp [intOf]
        · obtain rfl : p = x := Option.some.inj hx
          gi_wp2_with (refine ⟨trivial, ?_⟩; gi_at_call 22; refine (callsIn_wide.2 (hHas lo hi p wr)).mono ?_; rintro e w' ⟨rfl, hbw⟩; rw [hd]; have hJ2 : J (trn lo hi p b 2) w' := hJ _ _ _ none hJs (grown_of_below hbw) (fun r e => by cases e))
          refine ⟨fun _ h => (by cases h), ?_⟩
          gi_wp2
          go_roundw
          case rel => exact ⟨2 + 1, by omega, by simp, by rw [hsucc]; exact hJ2, Nat.le_trans hsz hbw.size, hnx.trans (Kp2.of_below (by omega) (by omega) hbw)⟩
          case measure => simp [intOf]
        · obtain rfl : b = x := Option.some.inj hx
          gi_wp2_with (refine ⟨trivial, ?_⟩; gi_at_call 22; refine (callsIn_wide.2 (hHas lo hi b wr)).mono ?_; rintro e w' ⟨rfl, hbw⟩; rw [hd]; have hJ2 : J (trn lo hi p b 3) w' := hJ _ _ _ none hJs (grown_of_below hbw) (fun r e => by cases e))
          refine ⟨fun _ h => (by cases h), ?_⟩
          gi_wp2
          go_roundw
          case rel => exact ⟨3 + 1, by omega, by simp, by rw [hsucc]; exact hJ2, Nat.le_trans hsz hbw.size, hnx.trans (Kp2.of_below (by omega) (by omega) hbw)⟩
          case measure => simp [intOf]
        · obtain rfl : (sat (b + 1)) = x := Option.some.inj hx
          gi_wp2_with (refine ⟨trivial, ?_⟩; gi_at_call 22; refine (callsIn_wide.2 (hHas lo hi (sat (b + 1)) wr)).mono ?_; rintro e w' ⟨rfl, hbw⟩; rw [hd]; have hJ2 : J (trn lo hi p b 4) w' := hJ _ _ _ none hJs (grown_of_below hbw) (fun r e => by cases e))
          refine ⟨fun _ h => (by cases h), ?_⟩
          gi_wp2
          go_roundw
          case rel => exact ⟨4 + 1, by omega, by simp, by rw [hsucc]; exact hJ2, Nat.le_trans hsz hbw.size, hnx.trans (Kp2.of_below (by omega) (by omega) hbw)⟩
          case measure => simp [intOf]
        · obtain rfl : hi = x := Option.some.inj hx
          gi_wp2_with (refine ⟨trivial, ?_⟩; gi_at_call 22; refine (callsIn_wide.2 (hHas lo hi hi wr)).mono ?_; rintro e w' ⟨rfl, hbw⟩; rw [hd]; have hJ2 : J (trn lo hi p b 5) w' := hJ _ _ _ none hJs (grown_of_below hbw) (fun r e => by cases e))
          refine ⟨fun _ h => (by cases h), ?_⟩
          gi_wp2
          go_roundw
          case rel => exact ⟨5 + 1, by omega, by simp, by rw [hsucc]; exact hJ2, Nat.le_trans hsz hbw.size, hnx.trans (Kp2.of_below (by omega) (by omega) hbw)⟩
          case measure => simp [intOf]
end Go.Proofs.Ytndancjnfdhbfaa.S
