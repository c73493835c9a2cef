/- sort.Search over a curve's points, and the two function values that curve hands to it. -/
import Derived.Test.YtoiclhdkgalhcaaKd
import Derived.Shelf.RegionOpenPlain
namespace Go.Proofs.Ytoiclhdkgalhcaa.S
open Go.RowKit Go.Shelf Go.Proofs.YtoiclhdkgalhcaaW.PrintWords Go.Proofs.YtoiclhdkgalhcaaW.PrintLast Go.Proofs.YtoiclhdkgalhcaaW.PrintMore
set_option linter.unusedVariables false
set_option linter.unusedSimpArgs false
/-- the first index below n at which p holds; n, if there is none -/
def fi (p : Nat → Bool) : Nat → Nat
  | 0 => 0
  | n + 1 => if fi p n < n then fi p n else if p n then n else n + 1
theorem fi_le (p : Nat → Bool) (n : Nat) : fi p n ≤ n := by
  induction n with
  | zero => exact Nat.le_refl _
  | succ n ih => unfold fi; (repeat' split) <;> omega
theorem fi_hit (p : Nat → Bool) (n : Nat) (h : fi p n < n) : p (fi p n) = true := by
  induction n with
  | zero => omega
  | succ n ih =>
    unfold fi at h ⊢
    by_cases h1 : fi p n < n
    · rw [if_pos h1]; exact ih h1
    · rw [if_neg h1] at h ⊢
      by_cases h2 : p n = true
      · rw [if_pos h2]; exact h2
      · rw [if_neg h2] at h; omega
theorem fi_eq (p : Nat → Bool) (n r : Nat) (hr : r ≤ n) (h1 : ∀ t, t < r → p t = false) (h2 : r < n → p r = true) : fi p n = r := by
  induction n with
  | zero => unfold fi; omega
  | succ n ih =>
    unfold fi
    rcases Nat.lt_or_ge r n with h | h
    · rw [ih (by omega) (fun _ => h2 (by omega)), if_pos h]
    · have : fi p n = n := by
        have hl := fi_le p n
        rcases Nat.lt_or_ge (fi p n) n with h3 | h3
        · exact absurd (fi_hit p n h3) (by simp [h1 _ (by omega : fi p n < r)])
        · omega
      rw [this, if_neg (by omega)]
      rcases Nat.lt_or_ge r (n + 1) with h4 | h4
      · obtain rfl : r = n := by omega
        rw [h2 (by omega), if_pos rfl]
      · rw [h1 n (by omega), if_neg (by simp)]; omega

set_option maxHeartbeats 4000000 in
set_option maxRecDepth 1000000 in
theorem Search_calls (gf : Nat) (lb : Array Value) (eg : ∀ args w, (callFunc gf args).run Try.prog w = .ok (.enter gf args) w) (p : Nat → Bool) (n : Nat) (hbig : n < 4611686018427387904) (w : World)
    (hp : ∀ (q i : Nat), i < n → Calls Try.prog gf (#[.int .i64 i] ++ lb) (w.drewN q) fun e w' => e = .returned (.bool (p i)) ∧ ∃ m, w' = (w.drewN q).drewN m)
    (hmono : ∀ a b, a ≤ b → b < n → p a = true → p b = true) :
    Calls Try.prog 22 #[.int .i64 n, .func (.func gf) #[] lb] w fun e w' => e = .returned (.int .i64 (fi p n)) ∧ ∃ m, w' = w.drewN m := by
  have HP := Aside0.mk hp
  have HM := Aside0.mk hmono
  clear hp hmono
  go_enter Try.func22, Try.ntmps22
  go_wp2
  go_loopg [5, 6] n (fun g s5 s6 wr => ∃ lo hi q : Nat, s5 = .int .i64 lo ∧ s6 = .int .i64 hi ∧ lo ≤ hi ∧ hi ≤ n ∧ hi - lo ≤ g ∧ wr = w.drewN q ∧ Aside0 (∀ t, t < lo → p t = false) ∧ Aside0 (∀ t, hi ≤ t → t < n → p t = true))
  case atStart => exact ⟨0, n, 0, rfl, rfl, Nat.zero_le _, Nat.le_refl _, by omega, rfl, Aside0.mk fun t ht => absurd ht (Nat.not_lt_zero _), Aside0.mk fun t h1 h2 => by omega⟩
  case round =>
    obtain ⟨lo, hi, q, rfl, rfl, hlh, hin, hg, rfl, h1, h2⟩ := hrel
    by_cases hlt : lo < hi
    · have hcall := HP.out q ((lo + hi) / 2) (by omega)
      generalize hy : p ((lo + hi) / 2) = y at hcall
      have Y := Aside0.mk hy
      clear hy
      cases y with
      | true =>
        go_wp2_with (go_at_fn gf; refine hcall.mono ?_; rintro e w' ⟨rfl, m, rfl⟩)
        go_roundg ((lo + hi) / 2 - lo)
        case measure => omega
        case rel =>
          refine ⟨lo, (lo + hi) / 2, _, rfl, by rw [show ((lo : Int) + (hi : Int)) / 2 = (((lo + hi) / 2 : Nat) : Int) by omega], by omega, by omega, Nat.le_refl _, rfl, h1, Aside0.mk fun t ht htn => HM.out _ t ht htn Y.out⟩
      | false =>
        go_wp2_with (go_at_fn gf; refine hcall.mono ?_; rintro e w' ⟨rfl, m, rfl⟩)
        go_roundg (hi - ((lo + hi) / 2 + 1))
        case measure => omega
        case rel =>
          refine ⟨(lo + hi) / 2 + 1, hi, _, by rw [show ((lo : Int) + (hi : Int)) / 2 + 1 = (((lo + hi) / 2 + 1 : Nat) : Int) by omega], rfl, by omega, hin, Nat.le_refl _, rfl, Aside0.mk fun t ht => ?_, h2⟩
          cases hc : p t with
          | false => rfl
          | true => exact absurd (HM.out t ((lo + hi) / 2) (by omega) (by omega) hc) (by simp [Y.out])
    · have : hi = lo := by omega
      subst this
      go_wp2
      go_ret
      rw [fi_eq p n hi hin h1.out (fun h => h2.out hi (Nat.le_refl _) h)]
      exact ⟨rfl, _, rfl⟩

set_option maxHeartbeats 4000000 in
theorem at1_calls (Bc Bx : Nat) (A : Option Addr) (c : Nat) (l : List S37) (x : Int) (w : World) (h1 : w.cell? ⟨Bc, 0, none⟩ = some (.slice A l.length c)) (h2 : w.cell? ⟨Bx, 0, none⟩ = some (.int .i64 x)) (hr : Kd.C k37 w A l.length l) (i : Nat) (hi : i < l.length) :
    Calls Try.prog 31 #[.int .i64 i, .pointer (some ⟨Bc, 0, none⟩), .pointer (some ⟨Bx, 0, none⟩)] w fun e w' => e = .returned (.bool (decide (x ≤ (rd_T37 l i).f0))) ∧ ∃ m, w' = w.drewN m := by
  have hu37 := Try.underlying37
  obtain ⟨ad, rfl, e1, e2⟩ := at_T37 hr i (by omega) (by omega)
  clear hr
  simp only [Int.toNat_natCast] at e1 e2
  go_enter Try.func31, Try.ntmps31
  go_wp2
  go_quiet (fail)
  go_wp2
  go_ret
  exact ⟨rfl, _, rfl⟩

set_option maxHeartbeats 4000000 in
theorem least1_calls (Bc Bx : Nat) (A : Option Addr) (c : Nat) (l : List S37) (x : Int) (w : World) (h1 : w.cell? ⟨Bc, 0, none⟩ = some (.slice A l.length c)) (h2 : w.cell? ⟨Bx, 0, none⟩ = some (.int .i64 x)) (hr : Kd.C k37 w A l.length l) (i : Nat) (hi : i < l.length) :
    Calls Try.prog 23 #[.int .i64 i, .pointer (some ⟨Bc, 0, none⟩), .pointer (some ⟨Bx, 0, none⟩)] w fun e w' => e = .returned (.bool (decide (x ≤ (rd_T37 l i).f1))) ∧ ∃ m, w' = w.drewN m := by
  have hu37 := Try.underlying37
  obtain ⟨ad, rfl, e1, e2⟩ := at_T37 hr i (by omega) (by omega)
  clear hr
  simp only [Int.toNat_natCast] at e1 e2
  go_enter Try.func23, Try.ntmps23
  go_wp2
  go_quiet (fail)
  go_wp2
  go_ret
  exact ⟨rfl, _, rfl⟩
end Go.Proofs.Ytoiclhdkgalhcaa.S
