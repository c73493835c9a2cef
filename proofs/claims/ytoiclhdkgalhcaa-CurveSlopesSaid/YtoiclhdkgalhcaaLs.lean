/- curve.Least in closed form, with its contract; and the closed forms' contracts of the package curve. -/
import Derived.Test.YtoiclhdkgalhcaaCf
import Derived.Test.YtoiclhdkgalhcaaCv
import Derived.Deep.RegionHeld3
import Derived.Deep.DrawnRows
namespace Go.Proofs.Ytoiclhdkgalhcaa.S
open Go.RowKit Go.Shelf Go.Proofs.YtoiclhdkgalhcaaW.PrintWords Go.Proofs.YtoiclhdkgalhcaaW.PrintLast Go.Proofs.YtoiclhdkgalhcaaW.PrintMore
set_option linter.unusedVariables false
set_option linter.unusedSimpArgs false
def curve_Right.f (l0 : List (S37)) : Option (Bool) := if l0.length < 4611686018427387904 then some (decide (right l0)) else none
theorem curve_Right.calls (A0 : Option Addr) (c0 : Nat) (l0 : List (S37)) (r : Bool) (w : World) (hr0 : Kd.C k37 w A0 l0.length l0) (hc0 : l0.length ≤ c0) (h : curve_Right.f l0 = some r) :
  Calls Try.prog 11 #[.slice A0 l0.length c0] w fun e w' => e = .returned (.bool r) ∧ Below w.heap.size w w' := by
  unfold curve_Right.f at h
  split at h
  · rename_i hc
    obtain ⟨k, hk⟩ := C.curve_Right_ok l0 hc
    exact C.curve_Right.calls k A0 c0 l0 r w hr0 hc0 (hk.trans h)
  · cases h

end Go.Proofs.Ytoiclhdkgalhcaa.S
namespace Go.Proofs.Ytoiclhdkgalhcaa.S
open Go.RowKit Go.Shelf Go.Proofs.YtoiclhdkgalhcaaW.PrintWords Go.Proofs.YtoiclhdkgalhcaaW.PrintLast Go.Proofs.YtoiclhdkgalhcaaW.PrintMore
attribute [local go_sem ↓] Go.wp_at_zero Go.wp_at_succ
set_option linter.unusedVariables false
set_option linter.unusedSimpArgs false
/-- the first point that is not below y -/
def iy (l : List S37) (y : Int) : Nat := fi (fun j => decide (y ≤ (rd_T37 l j).f1)) l.length
def leastr (l : List S37) (y : Int) : Int × Bool :=
  if iy l y = l.length then (0, false) else if iy l y = 0 then (0, true)
  else ((rd_T37 l ((iy l y - 1 : Nat) : Int)).f0 + cdiv ((y - (rd_T37 l ((iy l y - 1 : Nat) : Int)).f1) * ((rd_T37 l (iy l y)).f0 - (rd_T37 l ((iy l y - 1 : Nat) : Int)).f0)) ((rd_T37 l (iy l y)).f1 - (rd_T37 l ((iy l y - 1 : Nat) : Int)).f1), true)
def least (l : List S37) (y : Int) : Int × Bool := if right l then leastr l y else (0, false)
def curve_Least.f (l0 : List (S37)) (a1 : Int) : Option (Int × Bool) := if l0.length < 4611686018427387904 then some (least l0 a1) else none
theorem iy_between {l : List S37} {y : Int} {j : Nat} (hj : iy l y = j + 1) (hl : j + 1 < l.length) : (rd_T37 l j).f1 < y ∧ y ≤ (rd_T37 l (j + 1 : Nat)).f1 := by
  have h1 := fi_before (p := fun j => decide (y ≤ (rd_T37 l j).f1)) (n := l.length) (t := j) (by unfold iy at hj; omega)
  have h2 := fi_hit (fun j => decide (y ≤ (rd_T37 l j).f1)) l.length (by unfold iy at hj; omega)
  unfold iy at hj
  rw [hj] at h2
  simp only [decide_eq_false_iff_not, decide_eq_true_eq] at h1 h2
  exact ⟨by omega, h2⟩
set_option maxHeartbeats 8000000 in
set_option maxRecDepth 100000 in
theorem curve_Least.calls (A0 : Option Addr) (c0 : Nat) (l0 : List (S37)) (a1 : Int) (r1 : Int) (r2 : Bool) (w : World) (hr0 : Kd.C k37 w A0 l0.length l0) (hc0 : l0.length ≤ c0) (h : curve_Least.f l0 a1 = some (r1, r2)) :
    Calls Try.prog 9 #[.slice A0 l0.length c0, .int .i64 a1] w fun e w' => e = .returned (.tuple #[.int .i64 r1, .bool r2]) ∧ Below w.heap.size w w' := by
  unfold curve_Least.f at h
  by_cases hbig : l0.length < 4611686018427387904
  case neg => rw [if_neg hbig] at h; cases h
  rw [if_pos hbig] at h
  have HR : ∀ W : World, Kd.C k37 W A0 l0.length l0 → Calls Try.prog 11 #[.slice A0 l0.length c0] W fun e w' => e = .returned (.bool (decide (right l0))) ∧ Below W.heap.size W w' :=
    fun W hK => curve_Right.calls A0 c0 l0 _ W hK hc0 (by unfold curve_Right.f; rw [if_pos hbig])
  have hu37 := Try.underlying37
  have hfin0 : ∀ W : World, Below (w.heap.size + 2) ((w.alloc (.cells #[.slice A0 l0.length c0] 22)).alloc (.cells #[.int .i64 a1] 3)) W → Below w.heap.size w W ∧ W.cell? ⟨w.heap.size, 0, none⟩ = some (.slice A0 l0.length c0) ∧ W.cell? ⟨w.heap.size + 1, 0, none⟩ = some (.int .i64 a1) ∧ Kd.C k37 W A0 l0.length l0 ∧ w.heap.size + 2 ≤ W.heap.size := by
    intro W hb
    have hb' : Below ((w.alloc (.cells #[.slice A0 l0.length c0] 22)).alloc (.cells #[.int .i64 a1] 3)).heap.size ((w.alloc (.cells #[.slice A0 l0.length c0] 22)).alloc (.cells #[.int .i64 a1] 3)) W := by simpa using hb
    refine ⟨(below_alloc (below_alloc (Below.refl _ _) _) _).trans (hb'.mono (by simp; omega)), ?_, ?_, Kd.C_below (Kd.C_alloc (Kd.C_alloc hr0 _) _) hb', by have := hb'.size; simpa using this⟩
    · exact (hb'.cell (p := ⟨w.heap.size, 0, none⟩) (by simp; omega)).trans (by simp)
    · exact (hb'.cell (p := ⟨w.heap.size + 1, 0, none⟩) (by simp)).trans (by simp)
  by_cases hR : right l0
  case neg =>
    unfold least at h
    rw [if_neg hR] at h
    cases h
    rw [decide_eq_false hR] at HR
    as_aux_lemma =>
    go_enter Try.func9, Try.ntmps9
    go_wp2_with (go_at_call 11; refine (HR _ (Kd.C_alloc (Kd.C_alloc hr0 _) _)).mono ?_; rintro e W ⟨rfl, hd⟩; obtain ⟨hbW, hcB, hcX, hCW, hsz⟩ := hfin0 W (by simpa using hd); clear hd)
    go_ret2
    exact ⟨rfl, hbW⟩
  unfold least at h
  rw [if_pos hR] at h
  rw [decide_eq_true hR] at HR
  have hlen := right_pos hR
  have HS : ∀ W : World, Kd.C k37 W A0 l0.length l0 → ∀ Bc Bx : Nat, W.cell? ⟨Bc, 0, none⟩ = some (.slice A0 l0.length c0) → W.cell? ⟨Bx, 0, none⟩ = some (.int .i64 a1) →
      Calls Try.prog 22 #[.int .i64 l0.length, .func (.func 23) #[] #[.pointer (some ⟨Bc, 0, none⟩), .pointer (some ⟨Bx, 0, none⟩)]] W fun e w' => e = .returned (.int .i64 (iy l0 a1)) ∧ ∃ m, w' = W.drewN m := by
    intro W hK Bc Bx h1 h2
    refine Search_calls 23 _ (enters_of Try.func23 (by kernel_rfl) rfl) (fun j => decide (a1 ≤ (rd_T37 l0 j).f1)) l0.length (by omega) W (fun q i hi => ?_) (fun a b hab hb hp => ?_)
    · exact least1_calls Bc Bx A0 c0 l0 a1 _ (by simpa using h1) (by simpa using h2) (Kd.C_drewN hK q) i hi
    · have := right_le hR a b hab hb
      simp only [decide_eq_true_eq] at hp ⊢
      omega
  replace HR := Aside0.mk HR
  replace HS := Aside0.mk HS
  replace hfin0 := Aside0.mk hfin0
  unfold leastr at h
  by_cases i1 : iy l0 a1 = l0.length
  · rw [if_pos i1] at h
    cases h
    as_aux_lemma =>
    go_enter Try.func9, Try.ntmps9
    go_wp2_with (first | (go_at_call 11; refine (HR.out _ (Kd.C_alloc (Kd.C_alloc hr0 _) _)).mono ?_; rintro e W ⟨rfl, hd⟩; obtain ⟨hbW, hcB, hcX, hCW, hsz⟩ := hfin0.out W (by simpa using hd); clear hd) | (go_at_call 22; refine (HS.out W hCW _ _ hcB hcX).mono ?_; rintro e w' ⟨rfl, m, rfl⟩; rw [i1]))
    go_ret2
    exact ⟨rfl, pw_below_drewN hbW _⟩
  rw [if_neg i1] at h
  by_cases i0 : iy l0 a1 = 0
  · rw [if_pos i0] at h
    cases h
    have n0 : ((0 : Nat) : Int) ≠ (l0.length : Int) := by omega
    as_aux_lemma =>
    go_enter Try.func9, Try.ntmps9
    go_wp2_with (first | (go_at_call 11; refine (HR.out _ (Kd.C_alloc (Kd.C_alloc hr0 _) _)).mono ?_; rintro e W ⟨rfl, hd⟩; obtain ⟨hbW, hcB, hcX, hCW, hsz⟩ := hfin0.out W (by simpa using hd); clear hd) | (go_at_call 22; refine (HS.out W hCW _ _ hcB hcX).mono ?_; rintro e w' ⟨rfl, m, rfl⟩; rw [i0]))
    go_ret2
    exact ⟨rfl, pw_below_drewN hbW _⟩
  rw [if_neg i0] at h
  obtain ⟨j, hj⟩ : ∃ j, iy l0 a1 = j + 1 := ⟨iy l0 a1 - 1, by omega⟩
  have hle : iy l0 a1 ≤ l0.length := fi_le _ _
  obtain ⟨hx0, hx1⟩ := iy_between hj (by omega)
  rw [hj] at h
  rw [Nat.add_sub_cancel] at h
  have hp := right_in hR j (by omega)
  have hq := right_in hR (j + 1) (by omega)
  have hs := right_step hR j (by omega)
  generalize hP : rd_T37 l0 j = P at h hx0 hp hs
  generalize hQ : rd_T37 l0 (j + 1 : Nat) = Q at h hx1 hq hs
  have hw1 : wrap64 (a1 - P.f1) = a1 - P.f1 := by unfold wrap64; unfold inb at hp hq; omega
  have hw2 : wrap64 (Q.f0 - P.f0) = Q.f0 - P.f0 := by unfold wrap64; unfold inb at hp hq; omega
  have hw3 : wrap64 (Q.f1 - P.f1) = Q.f1 - P.f1 := by unfold wrap64; unfold inb at hp hq; omega
  obtain ⟨hq0, hq1⟩ : 0 ≤ (a1 - P.f1) * (Q.f0 - P.f0) / (Q.f1 - P.f1) ∧ (a1 - P.f1) * (Q.f0 - P.f0) / (Q.f1 - P.f1) ≤ Q.f0 - P.f0 := by
    rw [Int.mul_comm]
    exact frac_le (by omega) (by omega) (by omega) (by omega)
  have hsc : ∀ W : World, Calls Try.prog 21 #[.int .i64 (a1 - P.f1), .int .i64 (Q.f0 - P.f0), .int .i64 (Q.f1 - P.f1)] W fun e w' => e = .returned (.tuple #[.int .i64 ((a1 - P.f1) * (Q.f0 - P.f0) / (Q.f1 - P.f1)), .int .i64 ((a1 - P.f1) * (Q.f0 - P.f0) % (Q.f1 - P.f1)), .bool true]) ∧ ∃ m, w' = W.drewN m := by
    intro W
    refine (exact_Scale.calls _ _ _ ((a1 - P.f1) * (Q.f0 - P.f0) / (Q.f1 - P.f1)) ((a1 - P.f1) * (Q.f0 - P.f0) % (Q.f1 - P.f1)) true W ?_).mono fun e w' ⟨h1, h2⟩ => ⟨h1, h2.out⟩
    unfold exact_Scale.f scl
    rw [if_pos]
    unfold inb at hp hq
    exact ⟨by omega, by omega, by omega, by omega, by omega, by omega, by omega⟩
  unfold cdiv at h
  generalize hV : (a1 - P.f1) * (Q.f0 - P.f0) / (Q.f1 - P.f1) = V at h hsc hq0 hq1
  generalize hM : (a1 - P.f1) * (Q.f0 - P.f0) % (Q.f1 - P.f1) = M at h hsc
  have hw4 : wrap64 (P.f0 + V) = P.f0 + V := by unfold wrap64; unfold inb at hp hq; omega
  have hw5 : wrap64 (P.f0 + (V + 1)) = P.f0 + (V + 1) := by unfold wrap64; unfold inb at hp hq; omega
  have hw6 : wrap64 (V + 1) = V + 1 := by unfold wrap64; unfold inb at hp hq; omega
  have n1 : ((j + 1 : Nat) : Int) ≠ (l0.length : Int) := by omega
  by_cases hM0 : M > 0
  · rw [if_pos hM0] at h
    cases h
    as_aux_lemma =>
    go_enter Try.func9, Try.ntmps9
    go_wp2_with (first | (go_at_call 11; refine (HR.out _ (Kd.C_alloc (Kd.C_alloc hr0 _) _)).mono ?_; rintro e W ⟨rfl, hd⟩; obtain ⟨hbW, hcB, hcX, hCW, hsz⟩ := hfin0.out W (by simpa using hd); clear hd) | (go_at_call 22; refine (HS.out W hCW _ _ hcB hcX).mono ?_; rintro e w' ⟨rfl, hdm⟩; obtain ⟨W2, hW2⟩ : ∃ W2, w' = W2 := ⟨_, rfl⟩; obtain ⟨hbW2, hcB2, hcX2, hCW2, hsz2⟩ : Below w.heap.size w w' ∧ w'.cell? ⟨w.heap.size, 0, none⟩ = some (.slice A0 l0.length c0) ∧ w'.cell? ⟨w.heap.size + 1, 0, none⟩ = some (.int .i64 a1) ∧ Kd.C k37 w' A0 l0.length l0 ∧ w.heap.size + 2 ≤ w'.heap.size := (by obtain ⟨m, rfl⟩ := hdm; exact ⟨pw_below_drewN hbW m, by simpa using hcB, by simpa using hcX, Kd.C_drewN hCW m, by simpa using hsz⟩); rw [hW2] at hbW2 hcB2 hcX2 hCW2 hsz2 ⊢; clear hW2 hdm hbW hcB hcX hCW hsz; rw [hj]; obtain ⟨ad, rfl, e1, e2⟩ := at_T37 hCW2 j (by omega) (by omega); obtain ⟨ad2, hae, e3, e4⟩ := at_T37 hCW2 (j + 1 : Nat) (by omega) (by omega); obtain rfl := Option.some.inj hae; rw [hP] at e1 e2; rw [hQ] at e3 e4; simp only [Int.toNat_natCast] at e1 e2 e3 e4; clear hae))
    have hwj : IntKind.i64.wrap (j : Int) = (j : Int) := by simp [IntKind.wrap, IntKind.signed, IntKind.bits]; omega
    have b0 : (0 : Int) ≤ (j : Int) := by omega
    have b1 : (j : Int) < (l0.length : Int) := by omega
    have b2 : (j : Int) + 1 < (l0.length : Int) := by omega
    have b3 : (0 : Int) ≤ (j : Int) + 1 := by omega
    have n1 := World.new_ne W2 _ hcB2
    have n2 := World.new_ne W2 _ e1
    have n3 := World.new_ne W2 _ e2
    have n4 := World.new_ne W2 _ e3
    have n5 := World.new_ne W2 _ e4
    have n6 := World.new_ne W2 _ hcX2
    have q1 : w.heap.size + 1 < W2.heap.size := by omega
    have q2 : w.heap.size + 1 < W2.heap.size + 1 := by omega
    go_region_held3 (fun w' => w'.cell? ⟨w.heap.size, 0, none⟩ = some (.slice (some ad) l0.length c0) ∧ w'.cell? (ad.add (j * 2)) = some (.int .i64 P.f0) ∧ w'.cell? ⟨(ad.add (j * 2)).block, (ad.add (j * 2)).off + 1, none⟩ = some (.int .i64 P.f1) ∧ w'.cell? (ad.add ((j + 1) * 2)) = some (.int .i64 Q.f0) ∧ w'.cell? ⟨(ad.add ((j + 1) * 2)).block, (ad.add ((j + 1) * 2)).off + 1, none⟩ = some (.int .i64 Q.f1)) (go_keep) (fail)
    all_goals go_wp2_with (go_at_call 21; refine (hsc _).mono ?_; rintro e W3 ⟨rfl, m, rfl⟩)
    all_goals go_ret2
    all_goals refine ⟨by rw [hw6, hw5]; rfl, ?_⟩
    all_goals repeat (first | exact hbW2 | apply pw_below_drewN | apply below_alloc | apply below_drew1 | refine below_set ?_ (by omega))
  · rw [if_neg hM0] at h
    cases h
    as_aux_lemma =>
    go_enter Try.func9, Try.ntmps9
    go_wp2_with (first | (go_at_call 11; refine (HR.out _ (Kd.C_alloc (Kd.C_alloc hr0 _) _)).mono ?_; rintro e W ⟨rfl, hd⟩; obtain ⟨hbW, hcB, hcX, hCW, hsz⟩ := hfin0.out W (by simpa using hd); clear hd) | (go_at_call 22; refine (HS.out W hCW _ _ hcB hcX).mono ?_; rintro e w' ⟨rfl, hdm⟩; obtain ⟨W2, hW2⟩ : ∃ W2, w' = W2 := ⟨_, rfl⟩; obtain ⟨hbW2, hcB2, hcX2, hCW2, hsz2⟩ : Below w.heap.size w w' ∧ w'.cell? ⟨w.heap.size, 0, none⟩ = some (.slice A0 l0.length c0) ∧ w'.cell? ⟨w.heap.size + 1, 0, none⟩ = some (.int .i64 a1) ∧ Kd.C k37 w' A0 l0.length l0 ∧ w.heap.size + 2 ≤ w'.heap.size := (by obtain ⟨m, rfl⟩ := hdm; exact ⟨pw_below_drewN hbW m, by simpa using hcB, by simpa using hcX, Kd.C_drewN hCW m, by simpa using hsz⟩); rw [hW2] at hbW2 hcB2 hcX2 hCW2 hsz2 ⊢; clear hW2 hdm hbW hcB hcX hCW hsz; rw [hj]; obtain ⟨ad, rfl, e1, e2⟩ := at_T37 hCW2 j (by omega) (by omega); obtain ⟨ad2, hae, e3, e4⟩ := at_T37 hCW2 (j + 1 : Nat) (by omega) (by omega); obtain rfl := Option.some.inj hae; rw [hP] at e1 e2; rw [hQ] at e3 e4; simp only [Int.toNat_natCast] at e1 e2 e3 e4; clear hae))
    have hwj : IntKind.i64.wrap (j : Int) = (j : Int) := by simp [IntKind.wrap, IntKind.signed, IntKind.bits]; omega
    have b0 : (0 : Int) ≤ (j : Int) := by omega
    have b1 : (j : Int) < (l0.length : Int) := by omega
    have b2 : (j : Int) + 1 < (l0.length : Int) := by omega
    have b3 : (0 : Int) ≤ (j : Int) + 1 := by omega
    have n1 := World.new_ne W2 _ hcB2
    have n2 := World.new_ne W2 _ e1
    have n3 := World.new_ne W2 _ e2
    have n4 := World.new_ne W2 _ e3
    have n5 := World.new_ne W2 _ e4
    have n6 := World.new_ne W2 _ hcX2
    have q1 : w.heap.size + 1 < W2.heap.size := by omega
    have q2 : w.heap.size + 1 < W2.heap.size + 1 := by omega
    go_region_held3 (fun w' => w'.cell? ⟨w.heap.size, 0, none⟩ = some (.slice (some ad) l0.length c0) ∧ w'.cell? (ad.add (j * 2)) = some (.int .i64 P.f0) ∧ w'.cell? ⟨(ad.add (j * 2)).block, (ad.add (j * 2)).off + 1, none⟩ = some (.int .i64 P.f1) ∧ w'.cell? (ad.add ((j + 1) * 2)) = some (.int .i64 Q.f0) ∧ w'.cell? ⟨(ad.add ((j + 1) * 2)).block, (ad.add ((j + 1) * 2)).off + 1, none⟩ = some (.int .i64 Q.f1)) (go_keep) (fail)
    all_goals go_wp2_with (go_at_call 21; refine (hsc _).mono ?_; rintro e W3 ⟨rfl, m, rfl⟩)
    all_goals go_ret2
    all_goals refine ⟨by rw [hw4]; rfl, ?_⟩
    all_goals repeat (first | exact hbW2 | apply pw_below_drewN | apply below_alloc | apply below_drew1 | refine below_set ?_ (by omega))
end Go.Proofs.Ytoiclhdkgalhcaa.S
