/- A curve; its value at a number, rounded down and up: curve.at in closed form, with its contract. -/
import Derived.Test.YtoiclhdkgalhcaaSr
import Derived.Test.YtoiclhdkgalhcaaEx
import Derived.Deep.RegionHeld3
import Derived.Deep.DrawnRows
namespace Go.Proofs.Ytoiclhdkgalhcaa.S
open Go.RowKit Go.Shelf Go.Proofs.YtoiclhdkgalhcaaW.PrintWords Go.Proofs.YtoiclhdkgalhcaaW.PrintLast Go.Proofs.YtoiclhdkgalhcaaW.PrintMore
set_option linter.unusedVariables false
set_option linter.unusedSimpArgs false
attribute [local go_sem ↓] Go.wp_at_zero Go.wp_at_succ
/-- a point within the bounds -/
def inb (p : S37) : Prop := 0 ≤ p.f0 ∧ p.f0 ≤ 1125899906842624 ∧ 0 ≤ p.f1 ∧ p.f1 ≤ 1125899906842624
instance (p : S37) : Decidable (inb p) := inferInstanceAs (Decidable (_ ∧ _))
/-- the points behind p are in order -/
def asc : S37 → List S37 → Prop
  | _, [] => True
  | p, q :: l => p.f0 < q.f0 ∧ p.f1 ≤ q.f1 ∧ inb q ∧ asc q l
instance asc.dec : (p : S37) → (l : List S37) → Decidable (asc p l)
  | _, [] => isTrue trivial
  | p, q :: l => by
    have := asc.dec q l
    unfold asc
    exact inferInstance
/-- a curve -/
def right : List S37 → Prop
  | [] => False
  | p :: l => inb p ∧ asc p l ∧ l.length < 32
instance : (l : List S37) → Decidable (right l)
  | [] => isFalse id
  | p :: l => inferInstanceAs (Decidable (_ ∧ _ ∧ _))
theorem asc_at : ∀ (l : List S37) (p : S37) (i : Nat), asc p l → i < l.length → (rd_T37 (p :: l) i).f0 < (rd_T37 (p :: l) (i + 1 : Nat)).f0 ∧ (rd_T37 (p :: l) i).f1 ≤ (rd_T37 (p :: l) (i + 1 : Nat)).f1 ∧ inb (rd_T37 (p :: l) (i + 1 : Nat))
  | [], _, i, _, h => absurd h (by simp)
  | q :: l, p, 0, ⟨h1, h2, h3, h4⟩, _ => ⟨h1, h2, h3⟩
  | q :: l, p, i + 1, ⟨h1, h2, h3, h4⟩, h => by
    exact asc_at l q i h4 (by simpa using h)
theorem right_pos {l : List S37} (h : right l) : 0 < l.length ∧ l.length ≤ 32 := by
  cases l with
  | nil => exact h.elim
  | cons p l => have := h.2.2; simp; omega
theorem right_in {l : List S37} (h : right l) (i : Nat) (hi : i < l.length) : inb (rd_T37 l i) := by
  cases l with
  | nil => exact h.elim
  | cons p l =>
    cases i with
    | zero => exact h.1
    | succ i => exact (asc_at l p i h.2.1 (by simpa using hi)).2.2
theorem right_step {l : List S37} (h : right l) (i : Nat) (hi : i + 1 < l.length) : (rd_T37 l i).f0 < (rd_T37 l (i + 1 : Nat)).f0 ∧ (rd_T37 l i).f1 ≤ (rd_T37 l (i + 1 : Nat)).f1 := by
  cases l with
  | nil => exact h.elim
  | cons p l =>
    have := asc_at l p i h.2.1 (by simpa using hi)
    exact ⟨this.1, this.2.1⟩
theorem right_le {l : List S37} (h : right l) (i j : Nat) (hij : i ≤ j) (hj : j < l.length) : (rd_T37 l i).f0 ≤ (rd_T37 l j).f0 ∧ (rd_T37 l i).f1 ≤ (rd_T37 l j).f1 := by
  induction j with
  | zero => obtain rfl : i = 0 := by omega
            exact ⟨Int.le_refl _, Int.le_refl _⟩
  | succ j ih =>
    rcases Nat.lt_or_ge i (j + 1) with h1 | h1
    · have h2 := ih (by omega) (by omega)
      have h3 := right_step h j hj
      exact ⟨by omega, by omega⟩
    · obtain rfl : i = j + 1 := by omega
      exact ⟨Int.le_refl _, Int.le_refl _⟩
theorem frac_le {a n d : Int} (ha : 0 ≤ a) (h0 : 0 ≤ n) (h1 : n ≤ d) (hd : 0 < d) : 0 ≤ a * n / d ∧ a * n / d ≤ a := by
  refine ⟨Int.ediv_nonneg (Int.mul_nonneg ha h0) (by omega), ?_⟩
  have := Int.ediv_le_ediv hd (Int.mul_le_mul_of_nonneg_left h1 ha)
  rwa [Int.mul_ediv_cancel _ (by omega)] at this
/-- the value between two points, rounded down and up -/
def seg (p q : S37) (x : Int) : Int × Int :=
  (p.f1 + (q.f1 - p.f1) * (x - p.f0) / (q.f0 - p.f0), if (q.f1 - p.f1) * (x - p.f0) % (q.f0 - p.f0) > 0 then p.f1 + (q.f1 - p.f1) * (x - p.f0) / (q.f0 - p.f0) + 1 else p.f1 + (q.f1 - p.f1) * (x - p.f0) / (q.f0 - p.f0))
/-- the first point that is not left of x -/
def ix (l : List S37) (x : Int) : Nat := fi (fun j => decide (x ≤ (rd_T37 l j).f0)) l.length
/-- the value at x, rounded down and up -/
def atv (l : List S37) (x : Int) : Int × Int :=
  if ix l x = 0 then ((rd_T37 l 0).f1, (rd_T37 l 0).f1)
  else if ix l x = l.length then ((rd_T37 l ((ix l x - 1 : Nat) : Int)).f1, (rd_T37 l ((ix l x - 1 : Nat) : Int)).f1)
  else seg (rd_T37 l ((ix l x - 1 : Nat) : Int)) (rd_T37 l (ix l x)) x
theorem fi_before {p : Nat → Bool} {n t : Nat} (h : t < fi p n) : p t = false := by
  induction n with
  | zero => unfold fi at h; omega
  | succ n ih =>
    unfold fi at h
    by_cases h1 : fi p n < n
    · rw [if_pos h1] at h; exact ih h
    · have hn : fi p n = n := by have := fi_le p n; omega
      rw [if_neg h1] at h
      by_cases h2 : p n = true
      · rw [if_pos h2] at h; exact ih (by omega)
      · rw [if_neg h2] at h
        rcases Nat.lt_or_ge t n with h3 | h3
        · exact ih (by omega)
        · obtain rfl : t = n := by omega
          simpa using h2
theorem ix_between {l : List S37} {x : Int} {j : Nat} (hR : right l) (hj : ix l x = j + 1) (hl : j + 1 < l.length) : (rd_T37 l j).f0 < x ∧ x ≤ (rd_T37 l (j + 1 : Nat)).f0 := by
  have h1 := fi_before (p := fun j => decide (x ≤ (rd_T37 l j).f0)) (n := l.length) (t := j) (by unfold ix at hj; omega)
  have h2 := fi_hit (fun j => decide (x ≤ (rd_T37 l j).f0)) l.length (by unfold ix at hj; omega)
  unfold ix at hj
  rw [hj] at h2
  simp only [decide_eq_false_iff_not, decide_eq_true_eq] at h1 h2
  exact ⟨by omega, h2⟩
def curve_at.f (l0 : List (S37)) (a1 : Int) : Option (Int × Int) := if right l0 then some (atv l0 a1) else none
set_option maxHeartbeats 8000000 in
set_option maxRecDepth 100000 in
theorem curve_at.calls (A0 : Option Addr) (c0 : Nat) (l0 : List (S37)) (a1 : Int) (r1 : Int) (r2 : Int) (w : World) (hr0 : Kd.C k37 w A0 l0.length l0) (hc0 : l0.length ≤ c0) (h : curve_at.f l0 a1 = some (r1, r2)) :
    Calls Try.prog 25 #[.slice A0 l0.length c0, .int .i64 a1] w fun e w' => e = .returned (.tuple #[.int .i64 r1, .int .i64 r2]) ∧ Below w.heap.size w w' := by
  unfold curve_at.f at h
  by_cases hR : right l0
  case neg => rw [if_neg hR] at h; cases h
  rw [if_pos hR] at h
  have hlen := right_pos hR
  have HS : ∀ W : World, Kd.C k37 W A0 l0.length l0 → ∀ Bc Bx : Nat, W.cell? ⟨Bc, 0, none⟩ = some (.slice A0 l0.length c0) → W.cell? ⟨Bx, 0, none⟩ = some (.int .i64 a1) →
      Calls Try.prog 22 #[.int .i64 l0.length, .func (.func 31) #[] #[.pointer (some ⟨Bc, 0, none⟩), .pointer (some ⟨Bx, 0, none⟩)]] W fun e w' => e = .returned (.int .i64 (ix l0 a1)) ∧ ∃ m, w' = W.drewN m := by
    intro W hK Bc Bx h1 h2
    refine Search_calls 31 _ (enters_of Try.func31 (by kernel_rfl) rfl) (fun j => decide (a1 ≤ (rd_T37 l0 j).f0)) l0.length (by omega) W (fun q i hi => ?_) (fun a b hab hb hp => ?_)
    · exact at1_calls Bc Bx A0 c0 l0 a1 _ (by simpa using h1) (by simpa using h2) (Kd.C_drewN hK q) i hi
    · have := right_le hR a b hab hb
      simp only [decide_eq_true_eq] at hp ⊢
      omega
  have hu37 := Try.underlying37
  have hfin : ∀ W : World, (∃ m, W = ((w.alloc (.cells #[.slice A0 l0.length c0] 22)).alloc (.cells #[.int .i64 a1] 3)).drewN m) → Below w.heap.size w W ∧ W.cell? ⟨w.heap.size, 0, none⟩ = some (.slice A0 l0.length c0) ∧ W.cell? ⟨w.heap.size + 1, 0, none⟩ = some (.int .i64 a1) ∧ Kd.C k37 W A0 l0.length l0 ∧ W.heap.size = w.heap.size + 2 := by
    rintro W ⟨m, rfl⟩
    exact ⟨pw_below_drewN (below_alloc (below_alloc (Below.refl _ _) _) _) _, by simp, by simp, Kd.C_drewN (Kd.C_alloc (Kd.C_alloc hr0 _) _) _, by simp⟩
  by_cases i0 : ix l0 a1 = 0
  · unfold atv at h
    rw [if_pos i0] at h
    rw [i0] at HS
    cases h
    as_aux_lemma =>
    go_enter Try.func25, Try.ntmps25
    go_wp2_with (go_at_call 22; refine (HS _ (Kd.C_alloc (Kd.C_alloc hr0 _) _) _ _ (by simp) (by simp)).mono ?_; rintro e W ⟨rfl, hd⟩; obtain ⟨hbW, hcB, hcX, hCW, hsz⟩ := hfin W hd; clear hd; obtain ⟨ad, rfl, e1', e2'⟩ := at_T37 hCW 0 (by omega) (by omega); have e2 : W.cell? ⟨ad.block, ad.off + 1, none⟩ = some (.int .i64 (rd_T37 l0 0).f1) := e2'; clear e1' e2')
    go_quiet (fail)
    go_wp2
    go_ret2
    exact ⟨rfl, pw_below_drewN hbW _⟩
  by_cases i1 : ix l0 a1 = l0.length
  · unfold atv at h
    rw [if_neg i0, if_pos i1] at h
    obtain ⟨j, hj⟩ : ∃ j, ix l0 a1 = j + 1 := ⟨ix l0 a1 - 1, by omega⟩
    rw [hj] at HS h
    rw [Nat.add_sub_cancel] at h
    cases h
    have hjl : l0.length = j + 1 := by omega
    as_aux_lemma =>
    rw [hjl] at HS hfin hr0 hlen
    rw [hjl]
    go_enter Try.func25, Try.ntmps25
    go_wp2_with (go_at_call 22; refine (HS _ (Kd.C_alloc (Kd.C_alloc hr0 _) _) _ _ (by simp) (by simp)).mono ?_; rintro e W ⟨rfl, hd⟩; obtain ⟨hbW, hcB, hcX, hCW, hsz⟩ := hfin W hd; clear hd; obtain ⟨ad, rfl, e1, e2⟩ := at_T37 hCW j (by omega) (by omega); simp only [Int.toNat_natCast] at e1 e2)
    go_quiet (fail)
    go_wp2
    go_ret2
    exact ⟨rfl, pw_below_drewN hbW _⟩
  · obtain ⟨j, hj⟩ : ∃ j, ix l0 a1 = j + 1 := ⟨ix l0 a1 - 1, by omega⟩
    have hle : ix l0 a1 ≤ l0.length := fi_le _ _
    obtain ⟨hx0, hx1⟩ : (rd_T37 l0 j).f0 < a1 ∧ a1 ≤ (rd_T37 l0 (j + 1 : Nat)).f0 := ix_between hR hj (by omega)
    unfold atv at h
    rw [if_neg i0, if_neg i1] at h
    rw [hj] at HS h
    rw [Nat.add_sub_cancel] at h
    have hp := right_in hR j (by omega)
    have hq := right_in hR (j + 1) (by omega)
    have hs := right_step hR j (by omega)
    generalize hP : rd_T37 l0 j = P at h hx0 hp hs
    generalize hQ : rd_T37 l0 (j + 1 : Nat) = Q at h hx1 hq hs
    have hw1 : wrap64 (Q.f1 - P.f1) = Q.f1 - P.f1 := by unfold wrap64; unfold inb at hp hq; omega
    have hw2 : wrap64 (a1 - P.f0) = a1 - P.f0 := by unfold wrap64; unfold inb at hp hq; omega
    have hw3 : wrap64 (Q.f0 - P.f0) = Q.f0 - P.f0 := by unfold wrap64; unfold inb at hp hq; omega
    obtain ⟨hq0, hq1⟩ := frac_le (show 0 ≤ Q.f1 - P.f1 by omega) (show 0 ≤ a1 - P.f0 by omega) (show a1 - P.f0 ≤ Q.f0 - P.f0 by omega) (show 0 < Q.f0 - P.f0 by omega)
    have hsc : ∀ W : World, Calls Try.prog 21 #[.int .i64 (Q.f1 - P.f1), .int .i64 (a1 - P.f0), .int .i64 (Q.f0 - P.f0)] W fun e w' => e = .returned (.tuple #[.int .i64 ((Q.f1 - P.f1) * (a1 - P.f0) / (Q.f0 - P.f0)), .int .i64 ((Q.f1 - P.f1) * (a1 - P.f0) % (Q.f0 - P.f0)), .bool true]) ∧ ∃ m, w' = W.drewN m := by
      intro W
      refine (exact_Scale.calls _ _ _ ((Q.f1 - P.f1) * (a1 - P.f0) / (Q.f0 - P.f0)) ((Q.f1 - P.f1) * (a1 - P.f0) % (Q.f0 - P.f0)) true W ?_).mono fun e w' ⟨h1, h2⟩ => ⟨h1, h2.out⟩
      unfold exact_Scale.f scl
      rw [if_pos]
      unfold inb at hp hq
      exact ⟨by omega, by omega, by omega, by omega, by omega, by omega, by omega⟩
    unfold seg at h
    generalize hV : (Q.f1 - P.f1) * (a1 - P.f0) / (Q.f0 - P.f0) = V at h hsc hq0 hq1
    generalize hM : (Q.f1 - P.f1) * (a1 - P.f0) % (Q.f0 - P.f0) = M at h hsc
    have hw4 : wrap64 (P.f1 + V) = P.f1 + V := by unfold wrap64; unfold inb at hp hq; omega
    have hw5 : wrap64 (P.f1 + V + 1) = P.f1 + V + 1 := by unfold wrap64; unfold inb at hp hq; omega
    by_cases hM0 : M > 0
    · rw [if_pos hM0] at h
      cases h
      as_aux_lemma =>
      go_enter Try.func25, Try.ntmps25
      go_wp2_with (go_at_call 22; refine (HS _ (Kd.C_alloc (Kd.C_alloc hr0 _) _) _ _ (by simp) (by simp)).mono ?_; rintro e W ⟨rfl, hd⟩; obtain ⟨hbW, hcB, hcX, hCW, hsz⟩ := hfin W hd; clear hd; obtain ⟨ad, rfl, e1, e2⟩ := at_T37 hCW j (by omega) (by omega); obtain ⟨ad2, hae, e3, e4⟩ := at_T37 hCW (j + 1 : Nat) (by omega) (by omega); obtain rfl := Option.some.inj hae; rw [hP] at e1 e2; rw [hQ] at e3 e4; simp only [Int.toNat_natCast] at e1 e2 e3 e4; clear hae)
      have hwj : IntKind.i64.wrap (j : Int) = (j : Int) := by simp [IntKind.wrap, IntKind.signed, IntKind.bits]; omega
      have b0 : (0 : Int) ≤ (j : Int) := by omega
      have b1 : (j : Int) < (l0.length : Int) := by omega
      have b2 : (j : Int) + 1 < (l0.length : Int) := by omega
      have b3 : (0 : Int) ≤ (j : Int) + 1 := by omega
      have n1 := World.new_ne W _ hcB
      have n2 := World.new_ne W _ e1
      have n3 := World.new_ne W _ e2
      have n4 := World.new_ne W _ e3
      have n5 := World.new_ne W _ e4
      have n6 := World.new_ne W _ hcX
      go_region_held3 (fun w' => w'.cell? ⟨w.heap.size, 0, none⟩ = some (.slice (some ad) l0.length c0) ∧ w'.cell? (ad.add (j * 2)) = some (.int .i64 P.f0) ∧ w'.cell? ⟨(ad.add (j * 2)).block, (ad.add (j * 2)).off + 1, none⟩ = some (.int .i64 P.f1) ∧ w'.cell? (ad.add ((j + 1) * 2)) = some (.int .i64 Q.f0) ∧ w'.cell? ⟨(ad.add ((j + 1) * 2)).block, (ad.add ((j + 1) * 2)).off + 1, none⟩ = some (.int .i64 Q.f1)) (go_keep) (fail)
      all_goals go_wp2_with (go_at_call 21; refine (hsc _).mono ?_; rintro e W3 ⟨rfl, m, rfl⟩)
      all_goals go_ret2
      all_goals refine ⟨by rw [hw4, hw5]; rfl, ?_⟩
      all_goals repeat (first | exact hbW | apply pw_below_drewN | apply below_alloc | apply below_drew1 | refine below_set ?_ (by omega))
    · rw [if_neg hM0] at h
      cases h
      as_aux_lemma =>
      go_enter Try.func25, Try.ntmps25
      go_wp2_with (go_at_call 22; refine (HS _ (Kd.C_alloc (Kd.C_alloc hr0 _) _) _ _ (by simp) (by simp)).mono ?_; rintro e W ⟨rfl, hd⟩; obtain ⟨hbW, hcB, hcX, hCW, hsz⟩ := hfin W hd; clear hd; obtain ⟨ad, rfl, e1, e2⟩ := at_T37 hCW j (by omega) (by omega); obtain ⟨ad2, hae, e3, e4⟩ := at_T37 hCW (j + 1 : Nat) (by omega) (by omega); obtain rfl := Option.some.inj hae; rw [hP] at e1 e2; rw [hQ] at e3 e4; simp only [Int.toNat_natCast] at e1 e2 e3 e4; clear hae)
      have hwj : IntKind.i64.wrap (j : Int) = (j : Int) := by simp [IntKind.wrap, IntKind.signed, IntKind.bits]; omega
      have b0 : (0 : Int) ≤ (j : Int) := by omega
      have b1 : (j : Int) < (l0.length : Int) := by omega
      have b2 : (j : Int) + 1 < (l0.length : Int) := by omega
      have b3 : (0 : Int) ≤ (j : Int) + 1 := by omega
      have n1 := World.new_ne W _ hcB
      have n2 := World.new_ne W _ e1
      have n3 := World.new_ne W _ e2
      have n4 := World.new_ne W _ e3
      have n5 := World.new_ne W _ e4
      have n6 := World.new_ne W _ hcX
      go_region_held3 (fun w' => w'.cell? ⟨w.heap.size, 0, none⟩ = some (.slice (some ad) l0.length c0) ∧ w'.cell? (ad.add (j * 2)) = some (.int .i64 P.f0) ∧ w'.cell? ⟨(ad.add (j * 2)).block, (ad.add (j * 2)).off + 1, none⟩ = some (.int .i64 P.f1) ∧ w'.cell? (ad.add ((j + 1) * 2)) = some (.int .i64 Q.f0) ∧ w'.cell? ⟨(ad.add ((j + 1) * 2)).block, (ad.add ((j + 1) * 2)).off + 1, none⟩ = some (.int .i64 Q.f1)) (go_keep) (fail)
      all_goals go_wp2_with (go_at_call 21; refine (hsc _).mono ?_; rintro e W3 ⟨rfl, m, rfl⟩)
      all_goals go_ret2
      all_goals refine ⟨by rw [hw4]; rfl, ?_⟩
      all_goals repeat (first | exact hbW | apply pw_below_drewN | apply below_alloc | apply below_drew1 | refine below_set ?_ (by omega))
end Go.Proofs.Ytoiclhdkgalhcaa.S
