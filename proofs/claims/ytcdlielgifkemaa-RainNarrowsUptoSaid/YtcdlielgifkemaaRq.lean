/- The functions of the package rain, and the reference's, in closed form: places. -/
import Derived.Test.YtcdlielgifkemaaRp
namespace Go.Proofs.Ytcdlielgifkemaa.S
open Go.RowKit Go.Proofs.YtcdlielgifkemaaW.PrintWords Go.Proofs.YtcdlielgifkemaaW.PrintMore
/-- litres on a place, of true millimetres -/
def fallm (mm : List Int) (n : Int) (c : S49) : Int := if 0 ≤ c.f0 ∧ c.f0 < (mm.length : Int) then sat (n + lit (rd mm c.f0) c.f1) else n
def falls (mm : List Int) (l : List S49) : Int := mn (l.foldl (fallm mm) 0) 1125899906842624
/-- every place's list of cells is short enough to be counted -/
def Short (ps : List S47) : Prop := ∀ p ∈ ps, p.f11.length ≤ maxLen
instance (l : List S26) : Decidable (C.In64 l) := inferInstanceAs (Decidable (∀ y ∈ l, I64 y.f0 ∧ I64 y.f1))
instance (ps : List S47) : Decidable (Short ps) := inferInstanceAs (Decidable (∀ p ∈ ps, p.f11.length ≤ maxLen))
def fuel : List S47 → Nat
  | [] => 1
  | p :: t => 2 * p.f11.length + 2 + fuel t
end Go.Proofs.Ytcdlielgifkemaa.S
namespace Go.Proofs.Ytcdlielgifkemaa.C
open Go.Proofs.Ytcdlielgifkemaa.S
open Go.RowKit Go.Proofs.YtcdlielgifkemaaW.PrintWords Go.Proofs.YtcdlielgifkemaaW.PrintLast Go.Proofs.YtcdlielgifkemaaW.PrintMore
set_option linter.unusedVariables false
theorem lit_ge (k : Nat) (n a : Int) : bourneref26_Litres.f (k + 1) n a = some (lit n a) := at_rounds (fun q => bourneref26_Litres.mono _ _ q) (show 1 ≤ k + 1 by omega) (bourneref26_Litres_one n a)
theorem lit_i64 (n a : Int) : I64 (lit n a) := by have := lit_range n a; unfold I64; omega
theorem rmesh_in (cs : List S26) (out : List S26) (i : Int) (l : List S49) (hl : l.length ≤ maxLen) (nm : ByteArray) (ow : List ByteArray) (nc : Int) (ps : List S47) (ls : List S104) (ts : List S106) (gs : List S67) (ro : List S108) (sh : List S110) (rm : List Int) (er : Int) : ∀ (m k j : Nat) (lo hi : Int), j + m = l.length → I64 lo → I64 hi →
    bourneref26_Mesh.l1 (k + 2 * m + 1) cs out i lo hi l (j : Int) nm ow nc ps ls ts gs ro sh rm er = (if out.length < 8796093022208 then bourneref26_Mesh.l0 k cs (out ++ [⟨mn ((l.drop j).foldl (fall S26.f0 cs) lo) 1125899906842624, mn ((l.drop j).foldl (fall S26.f1 cs) hi) 1125899906842624⟩]) (wrap64 (i + 1)) nm ow nc ps ls ts gs ro sh rm er else none) := by
  intro m
  induction m with
  | zero =>
    intro k j lo hi hj h1 h2
    rw [show k + 2 * 0 + 1 = k + 1 by omega]
    simp only [bourneref26_Mesh.l1]
    rw [if_neg (by omega), List.drop_of_length_le (by omega)]; rfl
  | succ m ih =>
    intro k j lo hi hj h1 h2
    have hj2 : j < l.length := by omega
    rw [show k + 2 * (m + 1) + 1 = (k + 2 * m + 1) + 1 + 1 by omega]
    have hn := fun a b ha hb => ih k (j + 1) a b (by omega) ha hb
    simp only [bourneref26_Mesh.l1]
    rw [if_pos (by omega), if_pos (by omega), rd49, foldl_rd z49 _ _ _ _ hj2, foldl_rd z49 _ _ _ _ hj2]
    generalize hc : l.getD j z49 = c
    have skip : ¬ (0 ≤ c.f0 ∧ c.f0 < (cs.length : Int)) → bourneref26_Mesh.j2 (k + 2 * m + 1 + 1) cs out i lo hi l (j : Int) true nm ow nc ps ls ts gs ro sh rm er = (if out.length < 8796093022208 then bourneref26_Mesh.l0 k cs (out ++ [⟨mn ((l.drop (j + 1)).foldl (fall S26.f0 cs) (fall S26.f0 cs lo c)) 1125899906842624, mn ((l.drop (j + 1)).foldl (fall S26.f1 cs) (fall S26.f1 cs hi c)) 1125899906842624⟩]) (wrap64 (i + 1)) nm ow nc ps ls ts gs ro sh rm er else none) := fun h => by
      have e1 : fall S26.f0 cs lo c = lo := by unfold fall; rw [if_neg h]
      have e2 : fall S26.f1 cs hi c = hi := by unfold fall; rw [if_neg h]
      simp only [bourneref26_Mesh.j2, if_true]
      rw [wrap_nat hj2 hl, e1, e2]
      exact hn lo hi h1 h2
    by_cases c1 : c.f0 < 0
    · rw [if_pos c1]; exact skip (by omega)
    rw [if_neg c1]
    by_cases c2 : c.f0 ≥ (cs.length : Int)
    · rw [decide_eq_true c2]; exact skip (by omega)
    rw [decide_eq_false c2]
    simp only [bourneref26_Mesh.j2, Bool.false_eq_true, if_false]
    have ea : bourneref01_Add.f lo (lit (rd_T26 cs c.f0).f0 c.f1) = some (sat (lo + lit (rd_T26 cs c.f0).f0 c.f1)) := by unfold bourneref01_Add.f; rw [if_pos ⟨h1, lit_i64 _ _⟩]
    have eb : bourneref01_Add.f hi (lit (rd_T26 cs c.f0).f1 c.f1) = some (sat (hi + lit (rd_T26 cs c.f0).f1 c.f1)) := by unfold bourneref01_Add.f; rw [if_pos ⟨h2, lit_i64 _ _⟩]
    rw [if_pos (by omega), if_pos (by omega), rd49, hc, if_pos (by omega), if_pos (by omega), lit_ge, Option.bind_some, ea, Option.bind_some, lit_ge, Option.bind_some, eb, Option.bind_some, wrap_nat hj2 hl]
    have e1 : fall S26.f0 cs lo c = sat (lo + lit (rd_T26 cs c.f0).f0 c.f1) := by unfold fall; rw [if_pos ⟨by omega, by omega⟩]
    have e2 : fall S26.f1 cs hi c = sat (hi + lit (rd_T26 cs c.f0).f1 c.f1) := by unfold fall; rw [if_pos ⟨by omega, by omega⟩]
    rw [e1, e2]
    exact hn _ _ (sat_range _) (sat_range _)
theorem short_at {ps : List S47} (h : Short ps) (i : Nat) (hi : i < ps.length) : (ps.getD i z47).f11.length ≤ maxLen := by
  rw [List.getD_eq_getElem?_getD, List.getElem?_eq_getElem hi]
  exact h _ (List.getElem_mem hi)
theorem fuel_drop (ps : List S47) (i : Nat) (h : i < ps.length) : fuel (ps.drop i) = 2 * (ps.getD i z47).f11.length + 2 + fuel (ps.drop (i + 1)) := by
  rw [List.drop_eq_getElem_cons h, List.getD_eq_getElem?_getD, List.getElem?_eq_getElem h]; rfl
theorem mesh_drop (ps : List S47) (cs : List S26) (i : Nat) (h : i < ps.length) : mesh (ps.drop i) cs = plc cs (ps.getD i z47) :: mesh (ps.drop (i + 1)) cs := by
  rw [List.drop_eq_getElem_cons h, List.getD_eq_getElem?_getD, List.getElem?_eq_getElem h]; rfl
theorem rmesh_loop (cs : List S26) (nm : ByteArray) (ow : List ByteArray) (nc : Int) (ps : List S47) (ls : List S104) (ts : List S106) (gs : List S67) (ro : List S108) (sh : List S110) (rm : List Int) (er : Int) (hs : Short ps) (hp : ps.length < 8796093022208) : ∀ (m k i : Nat) (out : List S26), i + m = ps.length → out.length = i →
    bourneref26_Mesh.l0 (k + fuel (ps.drop i)) cs out (i : Int) nm ow nc ps ls ts gs ro sh rm er = some (out ++ mesh (ps.drop i) cs) := by
  intro m
  induction m with
  | zero =>
    intro k i out hi ho
    rw [List.drop_of_length_le (by omega), show fuel [] = 1 from rfl]
    simp only [bourneref26_Mesh.l0]
    rw [if_neg (by omega)]
    simp [mesh]
  | succ m ih =>
    intro k i out hi ho
    have hi2 : i < ps.length := by omega
    rw [fuel_drop ps i hi2, mesh_drop ps cs i hi2, show k + (2 * (ps.getD i z47).f11.length + 2 + fuel (ps.drop (i + 1))) = (k + fuel (ps.drop (i + 1))) + 2 * (ps.getD i z47).f11.length + 1 + 1 by omega]
    simp only [bourneref26_Mesh.l0]
    rw [if_pos (by omega), if_pos (by omega), rd47]
    have := rmesh_in cs out (i : Int) (ps.getD i z47).f11 (short_at hs i hi2) nm ow nc ps ls ts gs ro sh rm er (ps.getD i z47).f11.length (k + fuel (ps.drop (i + 1))) 0 0 0 (by omega) (by decide) (by decide)
    rw [Int.ofNat_zero] at this
    rw [this, if_pos (by omega), wrap_nat (show i < 8796093022208 by omega) (by decide), ih k (i + 1) _ (by omega) (by simp [ho])]
    simp [plc, msum]
theorem bourneref26_Mesh_ok (nm : ByteArray) (ow : List ByteArray) (nc : Int) (ps : List S47) (ls : List S104) (ts : List S106) (gs : List S67) (ro : List S108) (sh : List S110) (rm : List Int) (er : Int) (cs : List S26) (h : ps.length < 8796093022208 ∧ Short ps) : ∃ k, bourneref26_Mesh.f k nm ow nc ps ls ts gs ro sh rm er cs = some (mesh ps cs) :=
  ⟨0 + fuel ps, by
    unfold bourneref26_Mesh.f
    have := rmesh_loop cs nm ow nc ps ls ts gs ro sh rm er h.2 h.1 ps.length 0 0 [] (by omega) rfl
    simpa using this⟩
theorem falls_loop (mm : List Int) (pn : ByteArray) (p1 p2 p3 : Int) (p4 : List S112) (p5 : List Int) (p6 p7 p8 p9 p10 : Int) (l : List S49) (hl : l.length ≤ maxLen) : ∀ (m k j : Nat) (n : Int), j + m = l.length → I64 n →
    bournelaw26_falls.l0 (k + 2 * m + 1) mm n (j : Int) pn p1 p2 p3 p4 p5 p6 p7 p8 p9 p10 l = some (mn ((l.drop j).foldl (fallm mm) n) 1125899906842624) := by
  intro m
  induction m with
  | zero =>
    intro k j n hj h1
    rw [show k + 2 * 0 + 1 = k + 1 by omega]
    simp only [bournelaw26_falls.l0]
    rw [if_neg (by omega), List.drop_of_length_le (by omega)]; rfl
  | succ m ih =>
    intro k j n hj h1
    have hj2 : j < l.length := by omega
    rw [show k + 2 * (m + 1) + 1 = (k + 2 * m + 1) + 1 + 1 by omega]
    have hn := fun a ha => ih k (j + 1) a (by omega) ha
    simp only [bournelaw26_falls.l0]
    rw [if_pos (by omega), if_pos (by omega), rd49, foldl_rd z49 _ _ _ _ hj2]
    generalize hc : l.getD j z49 = c
    have skip : ¬ (0 ≤ c.f0 ∧ c.f0 < (mm.length : Int)) → bournelaw26_falls.j1 (k + 2 * m + 1 + 1) mm n (j : Int) false pn p1 p2 p3 p4 p5 p6 p7 p8 p9 p10 l = some (mn ((l.drop (j + 1)).foldl (fallm mm) (fallm mm n c)) 1125899906842624) := fun h => by
      have e1 : fallm mm n c = n := by unfold fallm; rw [if_neg h]
      simp only [bournelaw26_falls.j1, Bool.false_eq_true, if_false]
      rw [wrap_nat hj2 hl, e1]
      exact hn n h1
    by_cases c1 : c.f0 ≥ 0
    · rw [if_pos c1]
      by_cases c2 : c.f0 < (mm.length : Int)
      · rw [decide_eq_true c2]
        simp only [bournelaw26_falls.j1, if_true]
        have ea : exact_Add.f n (lit (rd mm c.f0) c.f1) = some (sat (n + lit (rd mm c.f0) c.f1)) := by unfold exact_Add.f; rw [if_pos ⟨h1, lit_i64 _ _⟩]
        rw [if_pos (by omega), if_pos (by omega), rd49, hc, if_pos (by omega), if_pos (by omega), lit_ge, Option.bind_some, ea, Option.bind_some, wrap_nat hj2 hl]
        have e1 : fallm mm n c = sat (n + lit (rd mm c.f0) c.f1) := by unfold fallm; rw [if_pos ⟨by omega, by omega⟩]
        rw [e1]
        exact hn _ (sat_range _)
      · rw [decide_eq_false c2]; exact skip (by omega)
    · rw [if_neg c1]; exact skip (by omega)
theorem bournelaw26_falls_ok (pn : ByteArray) (p1 p2 p3 : Int) (p4 : List S112) (p5 : List Int) (p6 p7 p8 p9 p10 : Int) (l : List S49) (mm : List Int) (h : l.length ≤ maxLen) : ∃ k, bournelaw26_falls.f k pn p1 p2 p3 p4 p5 p6 p7 p8 p9 p10 l mm = some (falls mm l) :=
  ⟨0 + 2 * l.length + 1, by
    unfold bournelaw26_falls.f
    exact falls_loop mm pn p1 p2 p3 p4 p5 p6 p7 p8 p9 p10 l h l.length 0 0 0 (by omega) (by decide)⟩
def fewb (ps : List S47) (rs : List S63) (cs : List S26) : Bool := decide (ps.length ≤ 70) && decide (rs.length ≤ 60) && decide (cs.length ≤ 100) && ps.all (fun p => decide (p.f11.length ≤ 70))
theorem few_loop (nm : ByteArray) (ow : List ByteArray) (nc : Int) (ps : List S47) (ls : List S104) (ts : List S106) (gs : List S67) (ro : List S108) (sh : List S110) (rm : List Int) (er : Int) (hp : ps.length ≤ 70) : ∀ (m k i : Nat), i + m = ps.length → m < k → bournelaw26_few.l0 k (i : Int) nm ow nc ps ls ts gs ro sh rm er = some ((ps.drop i).all (fun p => decide (p.f11.length ≤ 70))) := by
  intro m
  induction m with
  | zero =>
    intro k i hi hk
    obtain ⟨k, rfl⟩ : ∃ q, k = q + 1 := ⟨k - 1, by omega⟩
    simp only [bournelaw26_few.l0]
    rw [if_neg (by omega), List.drop_of_length_le (by omega)]; rfl
  | succ m ih =>
    intro k i hi hk
    obtain ⟨k, rfl⟩ : ∃ q, k = q + 1 := ⟨k - 1, by omega⟩
    have hi2 : i < ps.length := by omega
    simp only [bournelaw26_few.l0]
    rw [if_pos (by omega), if_pos (by omega), rd47, List.drop_eq_getElem_cons hi2, List.all_cons]
    have e : ps.getD i z47 = ps[i] := by rw [List.getD_eq_getElem?_getD, List.getElem?_eq_getElem hi2]; rfl
    rw [e]
    by_cases h : ((ps[i].f11.length : Nat) : Int) > 70
    · rw [if_pos h, decide_eq_false (by omega)]; rfl
    · rw [if_neg h, decide_eq_true (by omega), wrap_nat (show i < 70 by omega) (by decide), Bool.true_and]
      exact ih k (i + 1) (by omega) (by omega)
theorem bournelaw26_few_ok (nm : ByteArray) (ow : List ByteArray) (nc : Int) (ps : List S47) (ls : List S104) (ts : List S106) (gs : List S67) (ro : List S108) (sh : List S110) (rm : List Int) (er : Int) (rs : List S63) (cs : List S26) : ∃ k, bournelaw26_few.f k nm ow nc ps ls ts gs ro sh rm er rs cs = some (fewb ps rs cs) :=
  ⟨ps.length + 2, by
    unfold bournelaw26_few.f fewb
    by_cases h1 : (ps.length : Int) > 70
    · rw [if_pos h1, decide_eq_false (by omega)]; simp only [bournelaw26_few.j0, if_true]; rfl
    rw [if_neg h1, decide_eq_true (show ps.length ≤ 70 by omega)]
    by_cases h2 : (rs.length : Int) > 60
    · rw [if_pos h2, decide_eq_false (show ¬ rs.length ≤ 60 by omega)]; simp only [bournelaw26_few.j0, if_true]; rfl
    rw [if_neg h2, decide_eq_true (show rs.length ≤ 60 by omega)]
    by_cases h3 : (cs.length : Int) > 100
    · rw [decide_eq_true h3, decide_eq_false (show ¬ cs.length ≤ 100 by omega)]; simp only [bournelaw26_few.j0, if_true]; rfl
    rw [decide_eq_false h3, decide_eq_true (show cs.length ≤ 100 by omega)]
    simp only [bournelaw26_few.j0, Bool.false_eq_true, if_false, Bool.true_and]
    exact few_loop nm ow nc ps ls ts gs ro sh rm er (by omega) ps.length (ps.length + 1) 0 (by omega) (by omega)⟩
end Go.Proofs.Ytcdlielgifkemaa.C
