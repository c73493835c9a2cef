/- The functions of the package rain, and the reference's, in closed form: their loops. -/
import Derived.Test.YtcdlielgifkemaaRn
namespace Go.Proofs.Ytcdlielgifkemaa.C
open Go.Proofs.Ytcdlielgifkemaa.S
open Go.RowKit Go.Proofs.YtcdlielgifkemaaW.PrintWords Go.Proofs.YtcdlielgifkemaaW.PrintLast Go.Proofs.YtcdlielgifkemaaW.PrintMore
set_option linter.unusedVariables false
theorem wrap_nat {i n : Nat} (h : i < n) (hn : n ≤ maxLen) : wrap64 ((i : Int) + 1) = ((i + 1 : Nat) : Int) := by unfold maxLen at hn; unfold wrap64; omega
theorem foldl_rd {α β : Type} (z : α) (f : β → α → β) (l : List α) (i : Nat) (s : β) (h : i < l.length) : (l.drop i).foldl f s = (l.drop (i + 1)).foldl f (f s (l.getD i z)) := by
  rw [List.drop_eq_getElem_cons h, List.foldl_cons, List.getD_eq_getElem?_getD, List.getElem?_eq_getElem h]; rfl
theorem rd26 (l : List S26) (i : Nat) : rd_T26 l (i : Int) = l.getD i z26 := rfl
theorem rd63 (l : List S63) (i : Nat) : rd_T63 l (i : Int) = l.getD i z63 := rfl
theorem rd47 (l : List S47) (i : Nat) : rd_T47 l (i : Int) = l.getD i z47 := rfl
theorem rd49 (l : List S49) (i : Nat) : rd_T49 l (i : Int) = l.getD i z49 := rfl
/-- every end of a span is an int -/
def In64 (l : List S26) : Prop := ∀ y ∈ l, I64 y.f0 ∧ I64 y.f1
theorem in64_at {l : List S26} (h : In64 l) (i : Nat) (hi : i < l.length) : I64 (l.getD i z26).f0 ∧ I64 (l.getD i z26).f1 := by
  rw [List.getD_eq_getElem?_getD, List.getElem?_eq_getElem hi]
  exact h _ (List.getElem_mem hi)
theorem sum_loop (l : List S26) (hl : l.length ≤ maxLen) (h : In64 l) : ∀ (m k i : Nat) (s : S26), i + m = l.length → m < k → I64 s.f0 → I64 s.f1 →
    rain_Sum.l0 k l (l.length : Int) (i : Int) s.f0 s.f1 = some (((l.drop i).foldl sadd s).f0, ((l.drop i).foldl sadd s).f1) := by
  intro m
  induction m with
  | zero =>
    intro k i s hi hk h1 h2
    obtain ⟨k, rfl⟩ : ∃ q, k = q + 1 := ⟨k - 1, by omega⟩
    simp only [rain_Sum.l0]
    rw [if_neg (by omega), List.drop_of_length_le (by omega)]; rfl
  | succ m ih =>
    intro k i s hi hk h1 h2
    obtain ⟨k, rfl⟩ : ∃ q, k = q + 1 := ⟨k - 1, by omega⟩
    have hx := in64_at h i (by omega)
    simp only [rain_Sum.l0]
    rw [if_pos (by omega), if_pos (by omega), if_pos (by omega), rd26, foldl_rd z26 _ _ _ _ (by omega), wrap_nat (show i < l.length by omega) hl]
    unfold span_Add.f exact_Add.f
    rw [if_pos ⟨h1, hx.1⟩, if_pos ⟨h2, hx.2⟩]
    simp only [Option.bind_some]
    exact ih k (i + 1) (sadd s (l.getD i z26)) (by omega) (by omega) (sat_range _) (sat_range _)
theorem rain_Sum_ok (l : List S26) (h : l.length ≤ maxLen ∧ In64 l) : ∃ k, rain_Sum.f k l = some ((ssum l).f0, (ssum l).f1) :=
  ⟨l.length + 1, by
    unfold rain_Sum.f
    exact sum_loop l h.1 h.2 l.length (l.length + 1) 0 ⟨0, 0⟩ (by omega) (by omega) (by decide) (by decide)⟩
theorem rsum_loop (l : List S26) (hl : l.length ≤ maxLen) (h : In64 l) : ∀ (m k i : Nat) (s : S26), i + m = l.length → m < k → I64 s.f0 → I64 s.f1 →
    bourneref26_Sum.l0 k l (i : Int) s.f0 s.f1 = some (((l.drop i).foldl sadd s).f0, ((l.drop i).foldl sadd s).f1) := by
  intro m
  induction m with
  | zero =>
    intro k i s hi hk h1 h2
    obtain ⟨k, rfl⟩ : ∃ q, k = q + 1 := ⟨k - 1, by omega⟩
    simp only [bourneref26_Sum.l0]
    rw [if_neg (by omega), List.drop_of_length_le (by omega)]; rfl
  | succ m ih =>
    intro k i s hi hk h1 h2
    obtain ⟨k, rfl⟩ : ∃ q, k = q + 1 := ⟨k - 1, by omega⟩
    have hx := in64_at h i (by omega)
    simp only [bourneref26_Sum.l0]
    rw [if_pos (by omega), if_pos (by omega), rd26, foldl_rd z26 _ _ _ _ (by omega), wrap_nat (show i < l.length by omega) hl]
    unfold bourneref09_Add.f bourneref01_Add.f
    rw [if_pos ⟨h1, hx.1⟩, if_pos ⟨h2, hx.2⟩]
    simp only [Option.bind_some]
    exact ih k (i + 1) (sadd s (l.getD i z26)) (by omega) (by omega) (sat_range _) (sat_range _)
theorem bourneref26_Sum_ok (l : List S26) (h : l.length ≤ maxLen ∧ In64 l) : ∃ k, bourneref26_Sum.f k l = some ((ssum l).f0, (ssum l).f1) :=
  ⟨l.length + 1, by
    unfold bourneref26_Sum.f
    exact rsum_loop l h.1 h.2 l.length (l.length + 1) 0 ⟨0, 0⟩ (by omega) (by omega) (by decide) (by decide)⟩
theorem same_loop (a b : List S26) (hl : a.length ≤ maxLen) (e : a.length = b.length) : ∀ (m k i : Nat), i + m = a.length → m < k → a.drop i = b.drop i → bourneref09_SameAll.l0 k a b (i : Int) = some true := by
  intro m
  induction m with
  | zero =>
    intro k i hi hk h
    obtain ⟨k, rfl⟩ : ∃ q, k = q + 1 := ⟨k - 1, by omega⟩
    simp only [bourneref09_SameAll.l0]
    rw [if_neg (by omega)]
  | succ m ih =>
    intro k i hi hk h
    obtain ⟨k, rfl⟩ : ∃ q, k = q + 1 := ⟨k - 1, by omega⟩
    rw [List.drop_eq_getElem_cons (l := a) (show i < a.length by omega), List.drop_eq_getElem_cons (l := b) (show i < b.length by omega)] at h
    injection h with h1 h2
    have e1 : a.getD i z26 = b.getD i z26 := by
      rw [List.getD_eq_getElem?_getD, List.getD_eq_getElem?_getD, List.getElem?_eq_getElem (by omega), List.getElem?_eq_getElem (by omega), h1]
    simp only [bourneref09_SameAll.l0]
    rw [if_pos (by omega), if_pos (by omega), if_pos (by omega), rd26, rd26, e1, wrap_nat (show i < a.length by omega) hl]
    simp only [beq_self_eq_true, Bool.not_true, Bool.or_self, Bool.false_eq_true, if_false]
    exact ih k (i + 1) (by omega) (by omega) h2
theorem bourneref09_SameAll_self (a : List S26) (h : a.length ≤ maxLen) : ∃ k, bourneref09_SameAll.f k a a = some true :=
  ⟨a.length + 1, by
    unfold bourneref09_SameAll.f
    rw [if_pos rfl]
    exact same_loop a a h rfl a.length (a.length + 1) 0 (by omega) (by omega) rfl⟩
end Go.Proofs.Ytcdlielgifkemaa.C
