/- Small laws of the rain's closed forms. -/
import Derived.Test.YtcdlielgifkemaaRs
import Derived.Test.YtcdlielgifkemaaOr
import Derived.Test.YtcdlielgifkemaaWf
namespace Go.Proofs.Ytcdlielgifkemaa.S
open Go.RowKit Go.Proofs.YtcdlielgifkemaaW.PrintWords Go.Proofs.YtcdlielgifkemaaW.PrintMore
theorem in64_of {l : List S26} (h : ∀ y ∈ l, Q26 y) : C.In64 l := fun y hy => by
  have h2 := h y hy
  have a := i64b h2.1
  have b := i64b h2.2
  unfold I64
  omega
theorem few_of {ps : List S47} {rs : List S63} {cs : List S26} (h : C.fewb ps rs cs = true) : ps.length ≤ 70 ∧ rs.length ≤ 60 ∧ cs.length ≤ 100 ∧ ∀ p ∈ ps, p.f11.length ≤ 70 := by
  unfold C.fewb at h
  simp only [Bool.and_eq_true, decide_eq_true_eq, List.all_eq_true] at h
  exact ⟨h.1.1.1, h.1.1.2, h.1.2, h.2⟩
theorem short_of {ps : List S47} (h : ∀ p ∈ ps, p.f11.length ≤ 70) : Short ps := fun p hp => Nat.le_trans (h p hp) (by decide)
theorem ncl_len (n : Int) (gs : List S67) (radar : List Int) (p : Int) (rs : List S63) : (cells n gs radar p rs).length ≤ 64 := by
  unfold cells
  rw [List.length_map, List.length_range]
  exact C.ncl_le n
/-- plain sums -/
def sl (f : S26 → Int) : List S26 → Int
  | [] => 0
  | x :: t => f x + sl f t
theorem sl_append (f : S26 → Int) : ∀ a b : List S26, sl f (a ++ b) = sl f a + sl f b
  | [], b => by simp [sl]
  | x :: a, b => by rw [List.cons_append, sl, sl, sl_append f a b]; omega
theorem sl_snoc (f : S26 → Int) (l : List S26) (i : Nat) (h : i < l.length) : sl f (l.take (i + 1)) = sl f (l.take i) + f (l.getD i z26) := by
  rw [List.take_succ_eq_append_getElem h, sl_append, List.getD_eq_getElem?_getD, List.getElem?_eq_getElem h]
  simp [sl]
/-- spans that are right, of volumes -/
def Vol (l : List S26) : Prop := ∀ y ∈ l, -1125899906842624 ≤ y.f0 ∧ y.f0 ≤ y.f1 ∧ y.f1 ≤ 1125899906842624
theorem sl_bound : ∀ l : List S26, Vol l → -1125899906842624 * (l.length : Int) ≤ sl S26.f0 l ∧ sl S26.f0 l ≤ sl S26.f1 l ∧ sl S26.f1 l ≤ 1125899906842624 * (l.length : Int)
  | [], _ => by simp [sl]
  | x :: t, h => by
    have h1 := h x (by simp)
    have h2 := sl_bound t (fun y hy => h y (by simp [hy]))
    rw [sl, sl, List.length_cons]
    omega
theorem fold_sadd : ∀ (l : List S26) (s : S26) (m : Int), Vol l → m + (l.length : Int) ≤ 100 → -1125899906842624 * m ≤ s.f0 → s.f0 ≤ 1125899906842624 * m → -1125899906842624 * m ≤ s.f1 → s.f1 ≤ 1125899906842624 * m →
    l.foldl sadd s = ⟨s.f0 + sl S26.f0 l, s.f1 + sl S26.f1 l⟩
  | [], s, m, _, _, _, _, _, _ => by simp [sl]
  | x :: t, s, m, h, hm, a, b, c, d => by
    have h1 := h x (by simp)
    rw [List.length_cons] at hm
    have e : sadd s x = ⟨s.f0 + x.f0, s.f1 + x.f1⟩ := by
      unfold sadd
      rw [sat_id (by unfold I64; omega), sat_id (by unfold I64; omega)]
    rw [List.foldl_cons, e, fold_sadd t _ (m + 1) (fun y hy => h y (by simp [hy])) (by omega) (by dsimp only; omega) (by dsimp only; omega) (by dsimp only; omega) (by dsimp only; omega), sl, sl]
    dsimp only
    rw [Int.add_assoc, Int.add_assoc]
theorem ssum_plain (l : List S26) (h : Vol l) (hl : l.length ≤ 100) : ssum l = ⟨sl S26.f0 l, sl S26.f1 l⟩ := by
  unfold ssum
  rw [fold_sadd l ⟨0, 0⟩ 0 h (by omega) (by decide) (by decide) (by decide) (by decide)]
  simp
theorem vol_in64 {l : List S26} (h : Vol l) : C.In64 l := fun y hy => by have := h y hy; unfold I64; omega
end Go.Proofs.Ytcdlielgifkemaa.S
