/- The reference's Least in closed form; contracts of the closed forms of the packages curve and bourneref10. -/
import Derived.Test.YtoiclhdkgalhcaaCw
namespace Go.Proofs.Ytoiclhdkgalhcaa.S
open Go.RowKit Go.Proofs.YtoiclhdkgalhcaaW.PrintWords Go.Proofs.YtoiclhdkgalhcaaW.PrintMore
instance (l : List S37) (n d : Int) : Decidable (slope l n d) :=
  decidable_of_iff (right l ∧ (0 ≤ n ∧ n ≤ 1125899906842624 ∧ 1 ≤ d ∧ d ≤ 1125899906842624) ∧ ∀ j, j < l.length → 1 ≤ j → ((rd_T37 l j).f1 - (rd_T37 l (j - 1 : Nat)).f1) * d ≤ n * ((rd_T37 l j).f0 - (rd_T37 l (j - 1 : Nat)).f0))
    ⟨fun h => ⟨h.1, h.2.1, fun j h1 h2 => h.2.2 j h2 h1⟩, fun h => ⟨h.1, h.2.1, fun j h1 h2 => h.2.2 j h2 h1⟩⟩
instance (a b : List S37) : Decidable (under a b) :=
  decidable_of_iff (right a ∧ right b ∧ (∀ j, j < a.length → (rd_T37 a j).f1 ≤ (atv b (rd_T37 a j).f0).1) ∧ (∀ j, j < b.length → (atv a (rd_T37 b j).f0).2 ≤ (rd_T37 b j).f1))
    ⟨fun h => ⟨h.1, h.2.1, fun j _ h2 => h.2.2.1 j h2, fun j _ h2 => h.2.2.2 j h2⟩, fun h => ⟨h.1, h.2.1, fun j h1 => h.2.2.1 j (Nat.zero_le _) h1, fun j h1 => h.2.2.2 j (Nat.zero_le _) h1⟩⟩
end Go.Proofs.Ytoiclhdkgalhcaa.S
namespace Go.Proofs.Ytoiclhdkgalhcaa.C
open Go.Proofs.Ytoiclhdkgalhcaa.S
open Go.RowKit Go.Proofs.YtoiclhdkgalhcaaW.PrintWords Go.Proofs.YtoiclhdkgalhcaaW.PrintLast Go.Proofs.YtoiclhdkgalhcaaW.PrintMore
theorem told {b : Bool} {p : Prop} [Decidable p] (h : b = true ↔ p) : b = decide p := by rw [Bool.eq_iff_iff, h, decide_eq_true_eq]
theorem curve_Slope_ok (l : List S37) (n d : Int) (hl : l.length < 4611686018427387904) : ∃ k, curve_Slope.f k l n d = some (decide (slope l n d)) := by
  obtain ⟨k, b, h, hb⟩ := curve_Slope_iff l n d hl
  exact ⟨k, by rw [h, told hb]⟩
theorem bourneref10_Slope_ok (l : List S37) (n d : Int) (hl : l.length < 4611686018427387904) : ∃ k, bourneref10_Slope.f k l n d = some (decide (slope l n d)) := by
  obtain ⟨k, b, h, hb⟩ := bourneref10_Slope_iff l n d hl
  exact ⟨k, by rw [h, told hb]⟩
theorem curve_Under_ok (a b : List S37) (h : a.length < 4611686018427387904 ∧ b.length < 4611686018427387904) : ∃ k, curve_Under.f k a b = some (decide (under a b)) := by
  obtain ⟨k, r, h, hb⟩ := curve_Under_iff a b h
  exact ⟨k, by rw [h, told hb]⟩
theorem bourneref10_Under_ok (a b : List S37) (h : a.length < 4611686018427387904 ∧ b.length < 4611686018427387904) : ∃ k, bourneref10_Under.f k a b = some (decide (under a b)) := by
  obtain ⟨k, r, h, hb⟩ := bourneref10_Under_iff a b h
  exact ⟨k, by rw [h, told hb]⟩
theorem rLeast_loop (l : List S37) (hR : right l) (y : Int) : ∀ (n : Nat) (lo hi : Int), 0 ≤ lo → lo ≤ hi → hi ≤ 1125899906842624 → hi - lo ≤ n → (∀ x, 0 ≤ x → x < lo → aval l x < y) → y ≤ aval l hi →
    Ev (fun k => bourneref10_Least.l0 k l y lo hi) (leastr l y) := by
  have hl := right_pos hR
  intro n
  induction n with
  | zero =>
    intro lo hi h0 h1 h2 h3 h4 h5
    obtain rfl : lo = hi := by omega
    rw [least_unique hR h0 h5 h4]
    exact Ev.step (f := fun _ => some (lo, true)) (fun k => by rw [bourneref10_Least.l0, if_neg (by omega)]) (Ev.now _)
  | succ n ih =>
    intro lo hi h0 h1 h2 h3 h4 h5
    by_cases hlt : lo < hi
    · have hm : wrap64 (Int.tdiv (wrap64 (lo + hi)) 2) = (lo + hi) / 2 := by
        rw [wid (x := lo + hi) (by omega) (by omega), Int.tdiv_eq_ediv_of_nonneg (by omega), wid (by omega) (by omega)]
      have e : ∀ k, bourneref10_Least.l0 (k + 1) l y lo hi = (bourneref10_At.f k l ((lo + hi) / 2)).bind fun t153 => (if t153 ≥ y then (bourneref10_Least.l0 k l y lo ((lo + hi) / 2)) else (bourneref10_Least.l0 k l y ((lo + hi) / 2 + 1) hi)) := by
        intro k
        rw [bourneref10_Least.l0, if_pos hlt, hm, wid (x := (lo + hi) / 2 + 1) (by omega) (by omega)]
      refine Ev.step e (Ev.bind (rAt_ev l ((lo + hi) / 2) (by omega) (by unfold I64; omega)) ?_)
      by_cases hc : aval l ((lo + hi) / 2) ≥ y
      · exact Ev.congr (fun k => by rw [if_pos hc]) (ih lo ((lo + hi) / 2) h0 (by omega) (by omega) (by omega) h4 hc)
      · refine Ev.congr (fun k => by rw [if_neg hc]) (ih ((lo + hi) / 2 + 1) hi (by omega) (by omega) h2 (by omega) (fun x hx0 hx1 => ?_) h5)
        have := aval_mono hR (show x ≤ (lo + hi) / 2 by omega)
        omega
    · obtain rfl : lo = hi := by omega
      rw [least_unique hR h0 h5 h4]
      exact Ev.step (f := fun _ => some (lo, true)) (fun k => by rw [bourneref10_Least.l0, if_neg (by omega)]) (Ev.now _)
theorem bourneref10_Least_ok (l : List S37) (y : Int) (hl : l.length < 4611686018427387904) : ∃ k, bourneref10_Least.f k l y = some (least l y) := by
  refine Ev.rounds ?_
  refine Ev.bind (rRight_ev l hl) ?_
  unfold least
  by_cases hR : right l
  · have hp := right_pos hR
    have hw := wpre (by omega : 0 < l.length) (by omega : l.length < 4611686018427387904)
    rw [if_pos hR]
    refine Ev.congr (f := fun k => bourneref10_Least.j0 k l y (decide (y > Y l (l.length - 1)))) (fun k => by rw [if_pos (decide_eq_true hR), hw, if_pos (by omega), if_pos (by omega)]) ?_
    by_cases hy : y > Y l (l.length - 1)
    · have : leastr l y = (0, false) := by unfold leastr; rw [if_pos ((iy_last hR y).2 hy)]
      rw [this, decide_eq_true hy]
      exact Ev.step (f := fun _ => some (0, false)) (fun k => by rw [bourneref10_Least.j0]; rfl) (Ev.now _)
    · have hx := right_in hR (l.length - 1) (by omega)
      have hx2 : 0 ≤ X l (l.length - 1) ∧ X l (l.length - 1) ≤ 1125899906842624 := ⟨hx.1, hx.2.1⟩
      rw [decide_eq_false hy]
      refine Ev.step (f := fun k => bourneref10_Least.l0 k l y 0 (X l (l.length - 1))) (fun k => ?_) (rLeast_loop l hR y (X l (l.length - 1)).toNat 0 _ (Int.le_refl _) hx2.1 hx2.2 (by omega) (fun x h0 h1 => by omega) ?_)
      · rw [bourneref10_Least.j0, if_neg (by simp), hw, if_pos (by omega), if_pos (by omega)]
      · rw [aval_point hR (by omega)]; omega
  · rw [if_neg hR]
    refine Ev.congr (f := fun k => bourneref10_Least.j0 k l y true) (fun k => by rw [if_neg (by simpa using hR)]) ?_
    exact Ev.step (f := fun _ => some (0, false)) (fun k => by rw [bourneref10_Least.j0]; rfl) (Ev.now _)
end Go.Proofs.Ytoiclhdkgalhcaa.C
set_option linter.unusedVariables false
namespace Go.Proofs.Ytoiclhdkgalhcaa.S
open Go.RowKit Go.Proofs.YtoiclhdkgalhcaaW.PrintWords Go.Proofs.YtoiclhdkgalhcaaW.PrintLast Go.Proofs.YtoiclhdkgalhcaaW.PrintMore
def curve_At.f (l0 : List (S37)) (a1 : Int) : Option (Int) := if l0.length < 4611686018427387904 then some (aval l0 a1) else none
theorem curve_At.calls (A0 : Option Addr) (c0 : Nat) (l0 : List (S37)) (a1 : Int) (r : Int) (w : World) (hr0 : Kd.C k37 w A0 l0.length l0) (hc0 : l0.length ≤ c0) (h : curve_At.f l0 a1 = some r) :
  Calls Try.prog 13 #[.slice A0 l0.length c0, .int .i64 a1] w fun e w' => e = .returned (.int .i64 r) ∧ Below w.heap.size w w' := by
  unfold curve_At.f at h
  split at h
  · rename_i hc
    obtain ⟨k, hk⟩ := C.curve_At_ok l0 a1 hc
    exact C.curve_At.calls k A0 c0 l0 a1 r w hr0 hc0 (hk.trans h)
  · cases h

def curve_Slope.f (l0 : List (S37)) (a1 : Int) (a2 : Int) : Option (Bool) := if l0.length < 4611686018427387904 then some (decide (slope l0 a1 a2)) else none
theorem curve_Slope.calls (A0 : Option Addr) (c0 : Nat) (l0 : List (S37)) (a1 : Int) (a2 : Int) (r : Bool) (w : World) (hr0 : Kd.C k37 w A0 l0.length l0) (hc0 : l0.length ≤ c0) (h : curve_Slope.f l0 a1 a2 = some r) :
  Calls Try.prog 15 #[.slice A0 l0.length c0, .int .i64 a1, .int .i64 a2] w fun e w' => e = .returned (.bool r) ∧ Below w.heap.size w w' := by
  unfold curve_Slope.f at h
  split at h
  · rename_i hc
    obtain ⟨k, hk⟩ := C.curve_Slope_ok l0 a1 a2 hc
    exact C.curve_Slope.calls k A0 c0 l0 a1 a2 r w hr0 hc0 (hk.trans h)
  · cases h

def curve_Under.f (l0 : List (S37)) (l1 : List (S37)) : Option (Bool) := if l0.length < 4611686018427387904 ∧ l1.length < 4611686018427387904 then some (decide (under l0 l1)) else none
theorem curve_Under.calls (A0 : Option Addr) (c0 : Nat) (l0 : List (S37)) (A1 : Option Addr) (c1 : Nat) (l1 : List (S37)) (r : Bool) (w : World) (hr0 : Kd.C k37 w A0 l0.length l0) (hc0 : l0.length ≤ c0) (hr1 : Kd.C k37 w A1 l1.length l1) (hc1 : l1.length ≤ c1) (h : curve_Under.f l0 l1 = some r) :
  Calls Try.prog 17 #[.slice A0 l0.length c0, .slice A1 l1.length c1] w fun e w' => e = .returned (.bool r) ∧ Below w.heap.size w w' := by
  unfold curve_Under.f at h
  split at h
  · rename_i hc
    obtain ⟨k, hk⟩ := C.curve_Under_ok l0 l1 hc
    exact C.curve_Under.calls k A0 c0 l0 A1 c1 l1 r w hr0 hc0 hr1 hc1 (hk.trans h)
  · cases h

def bourneref10_Right.f (l0 : List (S37)) : Option (Bool) := if l0.length < 4611686018427387904 then some (decide (right l0)) else none
theorem bourneref10_Right.calls (A0 : Option Addr) (c0 : Nat) (l0 : List (S37)) (r : Bool) (w : World) (hr0 : Kd.C k37 w A0 l0.length l0) (hc0 : l0.length ≤ c0) (h : bourneref10_Right.f l0 = some r) :
  Calls Try.prog 12 #[.slice A0 l0.length c0] w fun e w' => e = .returned (.bool r) ∧ Below w.heap.size w w' := by
  unfold bourneref10_Right.f at h
  split at h
  · rename_i hc
    obtain ⟨k, hk⟩ := C.bourneref10_Right_ok l0 hc
    exact C.bourneref10_Right.calls k A0 c0 l0 r w hr0 hc0 (hk.trans h)
  · cases h

def bourneref10_At.f (l0 : List (S37)) (a1 : Int) : Option (Int) := if l0.length < 4611686018427387904 ∧ I64 a1 then some (aval l0 a1) else none
theorem bourneref10_At.calls (A0 : Option Addr) (c0 : Nat) (l0 : List (S37)) (a1 : Int) (r : Int) (w : World) (hr0 : Kd.C k37 w A0 l0.length l0) (hc0 : l0.length ≤ c0) (h : bourneref10_At.f l0 a1 = some r) :
  Calls Try.prog 14 #[.slice A0 l0.length c0, .int .i64 a1] w fun e w' => e = .returned (.int .i64 r) ∧ Below w.heap.size w w' := by
  unfold bourneref10_At.f at h
  split at h
  · rename_i hc
    obtain ⟨k, hk⟩ := C.bourneref10_At_ok l0 a1 hc
    exact C.bourneref10_At.calls k A0 c0 l0 a1 r w hr0 hc0 (hk.trans h)
  · cases h

def bourneref10_Least.f (l0 : List (S37)) (a1 : Int) : Option (Int × Bool) := if l0.length < 4611686018427387904 then some (least l0 a1) else none
theorem bourneref10_Least.calls (A0 : Option Addr) (c0 : Nat) (l0 : List (S37)) (a1 : Int) (r1 : Int) (r2 : Bool) (w : World) (hr0 : Kd.C k37 w A0 l0.length l0) (hc0 : l0.length ≤ c0) (h : bourneref10_Least.f l0 a1 = some (r1, r2)) :
  Calls Try.prog 10 #[.slice A0 l0.length c0, .int .i64 a1] w fun e w' => e = .returned (.tuple #[.int .i64 r1, .bool r2]) ∧ Below w.heap.size w w' := by
  unfold bourneref10_Least.f at h
  split at h
  · rename_i hc
    obtain ⟨k, hk⟩ := C.bourneref10_Least_ok l0 a1 hc
    exact C.bourneref10_Least.calls k A0 c0 l0 a1 r1 r2 w hr0 hc0 (hk.trans h)
  · cases h

def bourneref10_Slope.f (l0 : List (S37)) (a1 : Int) (a2 : Int) : Option (Bool) := if l0.length < 4611686018427387904 then some (decide (slope l0 a1 a2)) else none
theorem bourneref10_Slope.calls (A0 : Option Addr) (c0 : Nat) (l0 : List (S37)) (a1 : Int) (a2 : Int) (r : Bool) (w : World) (hr0 : Kd.C k37 w A0 l0.length l0) (hc0 : l0.length ≤ c0) (h : bourneref10_Slope.f l0 a1 a2 = some r) :
  Calls Try.prog 16 #[.slice A0 l0.length c0, .int .i64 a1, .int .i64 a2] w fun e w' => e = .returned (.bool r) ∧ Below w.heap.size w w' := by
  unfold bourneref10_Slope.f at h
  split at h
  · rename_i hc
    obtain ⟨k, hk⟩ := C.bourneref10_Slope_ok l0 a1 a2 hc
    exact C.bourneref10_Slope.calls k A0 c0 l0 a1 a2 r w hr0 hc0 (hk.trans h)
  · cases h

def bourneref10_Under.f (l0 : List (S37)) (l1 : List (S37)) : Option (Bool) := if l0.length < 4611686018427387904 ∧ l1.length < 4611686018427387904 then some (decide (under l0 l1)) else none
theorem bourneref10_Under.calls (A0 : Option Addr) (c0 : Nat) (l0 : List (S37)) (A1 : Option Addr) (c1 : Nat) (l1 : List (S37)) (r : Bool) (w : World) (hr0 : Kd.C k37 w A0 l0.length l0) (hc0 : l0.length ≤ c0) (hr1 : Kd.C k37 w A1 l1.length l1) (hc1 : l1.length ≤ c1) (h : bourneref10_Under.f l0 l1 = some r) :
  Calls Try.prog 18 #[.slice A0 l0.length c0, .slice A1 l1.length c1] w fun e w' => e = .returned (.bool r) ∧ Below w.heap.size w w' := by
  unfold bourneref10_Under.f at h
  split at h
  · rename_i hc
    obtain ⟨k, hk⟩ := C.bourneref10_Under_ok l0 l1 hc
    exact C.bourneref10_Under.calls k A0 c0 l0 A1 c1 l1 r w hr0 hc0 hr1 hc1 (hk.trans h)
  · cases h

end Go.Proofs.Ytoiclhdkgalhcaa.S
