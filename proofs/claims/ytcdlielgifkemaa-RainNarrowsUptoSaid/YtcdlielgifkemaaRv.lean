/- More laws of the rain's closed forms: cells narrow, sums of litres grow. -/
import Derived.Test.YtcdlielgifkemaaRu
namespace Go.Proofs.Ytcdlielgifkemaa.S
open Go.RowKit Go.Proofs.YtcdlielgifkemaaW.PrintWords Go.Proofs.YtcdlielgifkemaaW.PrintMore
theorem sat_mono {x y : Int} (h : x ≤ y) : sat x ≤ sat y := by unfold sat; (repeat' split) <;> omega
theorem lit_mono {n m a : Int} (h : n ≤ m) : lit n a ≤ lit m a := by
  by_cases ha : a ≤ 0
  · have e : ∀ x, lit x a = 0 := fun x => by unfold lit; rw [if_pos (Or.inr ha)]
    rw [e, e]; exact Int.le_refl _
  by_cases hn : n ≤ 0
  · have e : lit n a = 0 := by unfold lit; rw [if_pos (Or.inl hn)]
    rw [e]; exact (lit_range m a).1
  have hm := Int.mul_le_mul_of_nonneg_right h (show 0 ≤ a by omega)
  have e1 : lit n a = if n * a ≤ 1125899906842624 then n * a else 1125899906842624 := by unfold lit; rw [if_neg (by omega)]
  have e2 : lit m a = if m * a ≤ 1125899906842624 then m * a else 1125899906842624 := by unfold lit; rw [if_neg (by omega)]
  rw [e1, e2]
  (repeat' split) <;> omega
/-- litres added, of any values of the cells -/
def fallg (len : Int) (g : Int → Int) (n : Int) (c : S49) : Int := if 0 ≤ c.f0 ∧ c.f0 < len then sat (n + lit (g c.f0) c.f1) else n
theorem fall_g (sel : S26 → Int) (cs : List S26) : fall sel cs = fallg cs.length (fun j => sel (rd_T26 cs j)) := rfl
theorem fallm_g (mm : List Int) : fallm mm = fallg mm.length (fun j => rd mm j) := rfl
theorem fallg_mono {len : Int} {g h : Int → Int} (hg : ∀ j, 0 ≤ j → j < len → g j ≤ h j) : ∀ (l : List S49) (n m : Int), n ≤ m → l.foldl (fallg len g) n ≤ l.foldl (fallg len h) m
  | [], n, m, hnm => hnm
  | c :: l, n, m, hnm => by
    rw [List.foldl_cons, List.foldl_cons]
    refine fallg_mono hg l _ _ ?_
    unfold fallg
    by_cases hc : 0 ≤ c.f0 ∧ c.f0 < len
    · rw [if_pos hc, if_pos hc]
      have := lit_mono (a := c.f1) (hg c.f0 hc.1 hc.2)
      exact sat_mono (by omega)
    · rw [if_neg hc, if_neg hc]; exact hnm
theorem mn_mono {a b c : Int} (h : a ≤ b) : mn a c ≤ mn b c := by unfold mn; split <;> split <;> omega
theorem rdT (l : List S26) (j : Int) : rd_T26 l j = l.getD j.toNat z26 := rfl
theorem msum_mono {s1 s2 : S26 → Int} {xs ys : List S26} (hl : xs.length = ys.length) (h : ∀ i, i < xs.length → s1 (xs.getD i z26) ≤ s2 (ys.getD i z26)) (l : List S49) : msum s1 xs l ≤ msum s2 ys l := by
  unfold msum
  rw [fall_g, fall_g, ← hl]
  refine mn_mono (fallg_mono (fun j h0 h1 => ?_) l 0 0 (Int.le_refl _))
  rw [rdT, rdT]
  exact h j.toNat (by omega)
theorem mesh_at (ps : List S47) (cs : List S26) (i : Nat) (h : i < ps.length) : (mesh ps cs).getD i z26 = plc cs (ps.getD i z47) := by
  unfold mesh
  rw [List.getD_eq_getElem?_getD, List.getElem?_map, List.getD_eq_getElem?_getD, List.getElem?_eq_getElem h]; rfl
theorem mesh_len (ps : List S47) (cs : List S26) : (mesh ps cs).length = ps.length := by unfold mesh; rw [List.length_map]
/-- the cells' spans -/
theorem cells_at (n : Int) (gs : List S67) (radar : List Int) (p : Int) (rs : List S63) (i : Nat) (h : i < ncl n) : (cells n gs radar p rs).getD i z26 = cell gs radar p rs i := by
  unfold cells
  rw [List.getD_eq_getElem?_getD, List.getElem?_map, List.getElem?_range h]; rfl
theorem cells_len (n : Int) (gs : List S67) (radar : List Int) (p : Int) (rs : List S63) : (cells n gs radar p rs).length = ncl n := by
  unfold cells; rw [List.length_map, List.length_range]
theorem stp_within (gs : List S67) (c : Int) (s : S26) (r : S63) : s.f0 ≤ (stp gs c s r).f0 ∧ (stp gs c s r).f1 ≤ s.f1 ∧ (s.f0 ≤ s.f1 → (stp gs c s r).f0 ≤ (stp gs c s r).f1) := by
  unfold stp
  split
  · rename_i h
    have h3 := h.2.2
    refine ⟨?_, ?_, fun _ => h3⟩
    · show s.f0 ≤ mx s.f0 r.f2.f0
      unfold mx; split <;> omega
    · show mn s.f1 r.f2.f1 ≤ s.f1
      unfold mn; split <;> omega
  · exact ⟨Int.le_refl _, Int.le_refl _, id⟩
theorem fold_within (gs : List S67) (c : Int) : ∀ (rs : List S63) (s : S26), s.f0 ≤ (rs.foldl (stp gs c) s).f0 ∧ (rs.foldl (stp gs c) s).f1 ≤ s.f1 ∧ (s.f0 ≤ s.f1 → (rs.foldl (stp gs c) s).f0 ≤ (rs.foldl (stp gs c) s).f1)
  | [], s => ⟨Int.le_refl _, Int.le_refl _, id⟩
  | r :: rs, s => by
    have h1 := stp_within gs c s r
    have h2 := fold_within gs c rs (stp gs c s r)
    rw [List.foldl_cons]
    exact ⟨by omega, by omega, fun h => h2.2.2 (h1.2.2 h)⟩
theorem cell_append (gs : List S67) (radar : List Int) (p : Int) (a b : List S63) (i : Nat) : cell gs radar p (a ++ b) i = b.foldl (stp gs i) (cell gs radar p a i) := by
  unfold cell; rw [List.foldl_append]
/-- a radar's value lies in its span, and so does what differs from it by at most the error -/
theorem rad_has {v p m : Int} (hp : 0 ≤ p ∧ p < 1000 ∨ m = mx 0 (mn v 1125899906842624)) (hv : 0 ≤ m ∧ m ≤ 1125899906842624)
    (h1 : p < 1000 → 0 ≤ p → 1000 * (mx 0 (mn v 1125899906842624) - m) ≤ p * mx 0 (mn v 1125899906842624)) (h2 : p < 1000 → 0 ≤ p → 1000 * (m - mx 0 (mn v 1125899906842624)) ≤ p * mx 0 (mn v 1125899906842624)) :
    rlo v p ≤ m ∧ m ≤ rhi v p := by
  have hq : 0 ≤ mx 0 (mn p 1000) ∧ mx 0 (mn p 1000) ≤ 1000 := by unfold mx mn; (repeat' split) <;> omega
  have hw : 0 ≤ mx 0 (mn v 1125899906842624) ∧ mx 0 (mn v 1125899906842624) ≤ 1125899906842624 := by unfold mx mn; (repeat' split) <;> omega
  have k1 : 1000 * (mx 0 (mn v 1125899906842624) - m) ≤ mx 0 (mn p 1000) * mx 0 (mn v 1125899906842624) := by
    rcases hp with hp | hp
    · rw [show mx 0 (mn p 1000) = p by unfold mx mn; (repeat' split) <;> omega]; exact h1 hp.2 hp.1
    · rw [hp]; have := Int.mul_nonneg hq.1 hw.1; omega
  have k2 : 1000 * (m - mx 0 (mn v 1125899906842624)) ≤ mx 0 (mn p 1000) * mx 0 (mn v 1125899906842624) := by
    rcases hp with hp | hp
    · rw [show mx 0 (mn p 1000) = p by unfold mx mn; (repeat' split) <;> omega]; exact h2 hp.2 hp.1
    · rw [hp]; have := Int.mul_nonneg hq.1 hw.1; omega
  unfold rlo rhi
  generalize mx 0 (mn v 1125899906842624) = w at *
  generalize mx 0 (mn p 1000) = q at *
  have e1 : w * (1000 - q) = 1000 * w - q * w := by rw [Int.mul_sub, Int.mul_comm w 1000, Int.mul_comm w q]
  have e2 : w * (1000 + q) = 1000 * w + q * w := by rw [Int.mul_add, Int.mul_comm w 1000, Int.mul_comm w q]
  generalize hqw : q * w = t at *
  have tn : 0 ≤ t := by rw [← hqw]; exact Int.mul_nonneg hq.1 hw.1
  constructor
  · unfold scl
    rw [e1]
    split
    · show (1000 * w - t) / 1000 ≤ m
      omega
    · exact hv.1
  · unfold scl
    rw [e2]
    dsimp only
    by_cases hc : 0 ≤ w ∧ w ≤ 1125899906842624 ∧ 0 ≤ 1000 + q ∧ 1000 + q ≤ 1125899906842624 ∧ (1 : Int) ≤ 1000 ∧ (1000 : Int) ≤ 1125899906842624 ∧ (1000 * w + t) / 1000 ≤ 1125899906842624
    · rw [if_pos hc, if_pos rfl]
      unfold mn
      by_cases hr : (1000 * w + t) % 1000 > 0
      · simp only [hr, if_true]
        split <;> omega
      · simp only [hr, if_false]
        split <;> omega
    · rw [if_neg hc, if_neg (by decide)]; exact hv.2
theorem rad_right (radar : List Int) (p : Int) (i : Nat) : (rad radar p i).f0 ≤ (rad radar p i).f1 ∧ 0 ≤ (rad radar p i).f0 := by
  have hw : 0 ≤ mx 0 (mn (radar.getD i 0) 1125899906842624) ∧ mx 0 (mn (radar.getD i 0) 1125899906842624) ≤ 1125899906842624 := by unfold mx mn; (repeat' split) <;> omega
  have k : 0 ≤ p → 0 ≤ p * mx 0 (mn (radar.getD i 0) 1125899906842624) := fun h => Int.mul_nonneg h hw.1
  have h := rad_has (v := radar.getD i 0) (p := p) (m := mx 0 (mn (radar.getD i 0) 1125899906842624)) (Or.inr rfl) hw (fun _ h0 => by have := k h0; omega) (fun _ h0 => by have := k h0; omega)
  refine ⟨Int.le_trans h.1 h.2, ?_⟩
  show 0 ≤ rlo _ _
  unfold rlo
  exact (C.scl_range _ _ _).1
theorem cell_right (gs : List S67) (radar : List Int) (p : Int) (rs : List S63) (i : Nat) : (cell gs radar p rs i).f0 ≤ (cell gs radar p rs i).f1 ∧ 0 ≤ (cell gs radar p rs i).f0 := by
  have h := rad_right radar p i
  have h2 := fold_within gs (i : Int) rs (rad radar p i)
  exact ⟨h2.2.2 h.1, Int.le_trans h.2 h2.1⟩
end Go.Proofs.Ytcdlielgifkemaa.S
