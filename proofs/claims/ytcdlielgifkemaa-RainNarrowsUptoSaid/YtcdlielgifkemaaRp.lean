/- The functions of the package rain, and the reference's, in closed form: cells. -/
import Derived.Test.YtcdlielgifkemaaRo
namespace Go.Proofs.Ytcdlielgifkemaa.C
open Go.Proofs.Ytcdlielgifkemaa.S
open Go.RowKit Go.Proofs.YtcdlielgifkemaaW.PrintWords Go.Proofs.YtcdlielgifkemaaW.PrintLast Go.Proofs.YtcdlielgifkemaaW.PrintMore
set_option linter.unusedVariables false
theorem meet_ge (k : Nat) (a b c d : Int) : bourneref09_Meet.f (k + 2) a b c d = some (meet a b c d) := by
  unfold bourneref09_Meet.f meet mx mn
  simp only [bourneref09_Meet.j0, bourneref09_Meet.j1]
  by_cases h1 : a < c <;> by_cases h2 : d < b <;> simp [h1, h2] <;> (split <;> split <;> first | rfl | omega)
theorem of_ok (nm : ByteArray) (ow : List ByteArray) (nc : Int) (ps : List S47) (ls : List S104) (ts : List S106) (gs : List S67) (ro : List S108) (sh : List S110) (rm : List Int) (er : Int) (r : S63) (c : Int) : bourneref26_Of.f nm ow nc ps ls ts gs ro sh rm er r.f0 r.f1 r.f2.f0 r.f2.f1 c = some (ofc gs r c) := by
  unfold bourneref26_Of.f ofc
  by_cases h1 : r.f0 < 0
  · rw [if_pos h1, decide_eq_false (show ¬ 0 ≤ r.f0 by omega)]; rfl
  · rw [if_neg h1, decide_eq_true (show 0 ≤ r.f0 by omega)]
    by_cases h2 : r.f0 ≥ (gs.length : Int)
    · rw [if_pos h2, decide_eq_false (show ¬ r.f0 < (gs.length : Int) by omega)]; rfl
    · rw [if_neg h2, if_pos (by omega), if_pos (by omega), decide_eq_true (show r.f0 < (gs.length : Int) by omega)]
      by_cases h3 : (rd_T67 gs r.f0).f1 = 1
      · rw [if_pos h3, decide_eq_true h3]; congr 1
      · rw [if_neg h3, decide_eq_false h3]; rfl
theorem stp_cases (gs : List S67) (c : Int) (s : S26) (r : S63) : stp gs c s r = if (ofc gs r c && decide (r.f2.f0 ≤ r.f2.f1) && (meet s.f0 s.f1 r.f2.f0 r.f2.f1).2.2) = true then ⟨(meet s.f0 s.f1 r.f2.f0 r.f2.f1).1, (meet s.f0 s.f1 r.f2.f0 r.f2.f1).2.1⟩ else s := by
  unfold stp meet
  by_cases h1 : ofc gs r c = true <;> by_cases h2 : r.f2.f0 ≤ r.f2.f1 <;> by_cases h3 : mx s.f0 r.f2.f0 ≤ mn s.f1 r.f2.f1 <;> simp [h1, h2, h3]
theorem cell_loop (rs : List S63) (hl : rs.length ≤ maxLen) (nm : ByteArray) (ow : List ByteArray) (nc : Int) (ps : List S47) (ls : List S104) (ts : List S106) (gs : List S67) (ro : List S108) (sh : List S110) (rm : List Int) (er : Int) (c : Int) : ∀ (m k i : Nat) (s : S26), i + m = rs.length → 2 * m + 2 < k →
    bourneref26_Cell.l0 k rs c (i : Int) nm ow nc ps ls ts gs ro sh rm er s.f0 s.f1 = some (((rs.drop i).foldl (stp gs c) s).f0, ((rs.drop i).foldl (stp gs c) s).f1) := by
  intro m
  induction m with
  | zero =>
    intro k i s hi hk
    obtain ⟨k, rfl⟩ : ∃ q, k = q + 1 := ⟨k - 1, by omega⟩
    simp only [bourneref26_Cell.l0]
    rw [if_neg (by omega), List.drop_of_length_le (by omega)]; rfl
  | succ m ih =>
    intro k i s hi hk
    obtain ⟨k, rfl⟩ : ∃ q, k = q + 3 := ⟨k - 3, by omega⟩
    have hn : ∀ s' : S26, bourneref26_Cell.l0 (k + 1) rs c ((i + 1 : Nat) : Int) nm ow nc ps ls ts gs ro sh rm er s'.f0 s'.f1 = some (((rs.drop (i + 1)).foldl (stp gs c) s').f0, ((rs.drop (i + 1)).foldl (stp gs c) s').f1) := fun s' => ih (k + 1) (i + 1) s' (by omega) (by omega)
    simp only [bourneref26_Cell.l0]
    rw [if_pos (by omega), if_pos (by omega), rd63, foldl_rd z63 _ _ _ _ (show i < rs.length by omega)]
    generalize rs.getD i z63 = r
    rw [of_ok, meet_ge]
    unfold bourneref09_Right.f
    simp only [Option.bind_some]
    rw [stp_cases]
    have j2 : ∀ b : Bool, bourneref26_Cell.j2 (k + 2) rs c (i : Int) b nm ow nc ps ls ts gs ro sh rm er s.f0 s.f1 (meet s.f0 s.f1 r.f2.f0 r.f2.f1).1 (meet s.f0 s.f1 r.f2.f0 r.f2.f1).2.1 = some (((rs.drop (i + 1)).foldl (stp gs c) (if b = true then ⟨(meet s.f0 s.f1 r.f2.f0 r.f2.f1).1, (meet s.f0 s.f1 r.f2.f0 r.f2.f1).2.1⟩ else s)).f0, ((rs.drop (i + 1)).foldl (stp gs c) (if b = true then ⟨(meet s.f0 s.f1 r.f2.f0 r.f2.f1).1, (meet s.f0 s.f1 r.f2.f0 r.f2.f1).2.1⟩ else s)).f1) := fun b => by
      simp only [bourneref26_Cell.j2]
      rw [wrap_nat (show i < rs.length by omega) hl]
      cases b with
      | true => rw [if_pos rfl, if_pos rfl]; exact hn ⟨_, _⟩
      | false => rw [if_neg (by decide), if_neg (by decide)]; exact hn s
    cases h1 : ofc gs r c with
    | true =>
      by_cases h2 : r.f2.f0 ≤ r.f2.f1
      · rw [if_pos rfl, if_pos (decide_eq_true h2), decide_eq_true h2, Bool.true_and, Bool.true_and]; exact j2 _
      · rw [if_pos rfl, if_neg (by simpa using h2), decide_eq_false h2, Bool.true_and, Bool.false_and]; exact j2 false
    | false => rw [if_neg (by decide), Bool.false_and, Bool.false_and]; exact j2 false
theorem rdI (l : List Int) (i : Nat) : rd l (i : Int) = l.getD i 0 := rfl
theorem cell_ok (nm : ByteArray) (ow : List ByteArray) (nc : Int) (ps : List S47) (ls : List S104) (ts : List S106) (gs : List S67) (ro : List S108) (sh : List S110) (rm : List Int) (er : Int) (radar : List Int) (p : Int) (rs : List S63) (hl : rs.length ≤ maxLen) (i k : Nat) (hk : 2 * rs.length + 4 ≤ k) :
    bourneref26_Cell.f k nm ow nc ps ls ts gs ro sh rm er radar p rs (i : Int) = some ((cell gs radar p rs i).f0, (cell gs radar p rs i).f1) := by
  obtain ⟨k, rfl⟩ : ∃ q, k = q + 1 := ⟨k - 1, by omega⟩
  have j0 : bourneref26_Cell.j0 (k + 1) p rs (i : Int) (radar.getD i 0) nm ow nc ps ls ts gs ro sh rm er = some ((cell gs radar p rs i).f0, (cell gs radar p rs i).f1) := by
    simp only [bourneref26_Cell.j0]
    rw [bourneref26_Radar_ok]
    exact cell_loop rs hl nm ow nc ps ls ts gs ro sh rm er (i : Int) rs.length k 0 (rad radar p i) (by omega) (by omega)
  unfold bourneref26_Cell.f
  by_cases h : (i : Int) < (radar.length : Int)
  · rw [if_pos h, if_pos (by omega), rdI]; exact j0
  · rw [if_neg h]
    have e : radar.getD i 0 = 0 := by rw [List.getD_eq_getElem?_getD, List.getElem?_eq_none (by omega)]; rfl
    rw [e] at j0
    exact j0
theorem ncl_int (n : Int) : (ncl n : Int) = (if n < 0 then 0 else if n > 64 then 64 else n) := by unfold ncl; (repeat' split) <;> omega
theorem ncl_le (n : Int) : ncl n ≤ 64 := by unfold ncl; (repeat' split) <;> omega
theorem range_snoc {α : Type} (f : Nat → α) (i : Nat) : (List.range i).map f ++ [f i] = (List.range (i + 1)).map f := by rw [List.range_succ, List.map_append]; rfl
theorem cells_loop (nm : ByteArray) (ow : List ByteArray) (nc : Int) (ps : List S47) (ls : List S104) (ts : List S106) (gs : List S67) (ro : List S108) (sh : List S110) (rm : List Int) (er : Int) (radar : List Int) (p : Int) (rs : List S63) (hl : rs.length ≤ maxLen) : ∀ (m k i : Nat), i + m = ncl nc → 2 * rs.length + 4 + m < k →
    bourneref26_Cells.l0 k radar p rs ((List.range i).map (cell gs radar p rs)) (i : Int) nm ow nc ps ls ts gs ro sh rm er = some (cells nc gs radar p rs) := by
  have hc := ncl_int nc
  have hc2 := ncl_le nc
  intro m
  induction m with
  | zero =>
    intro k i hi hk
    obtain ⟨k, rfl⟩ : ∃ q, k = q + 1 := ⟨k - 1, by omega⟩
    have e : (List.range i).map (cell gs radar p rs) = cells nc gs radar p rs := by unfold cells; rw [show i = ncl nc by omega]
    simp only [bourneref26_Cells.l0]
    rw [e]
    by_cases h : (i : Int) < nc
    · rw [if_pos h, if_neg (by intro h2; (repeat' split at hc) <;> omega)]
    · rw [if_neg h]
  | succ m ih =>
    intro k i hi hk
    obtain ⟨k, rfl⟩ : ∃ q, k = q + 1 := ⟨k - 1, by omega⟩
    simp only [bourneref26_Cells.l0]
    rw [if_pos (by (repeat' split at hc) <;> omega), if_pos (by omega), cell_ok _ _ _ _ _ _ _ _ _ _ _ _ _ _ hl i k (by omega)]
    simp only [Option.bind_some]
    rw [if_pos (by rw [List.length_map, List.length_range]; omega), show wrap64 ((i : Int) + 1) = ((i + 1 : Nat) : Int) by unfold wrap64; omega]
    have := ih k (i + 1) (by omega) (by omega)
    rw [← range_snoc] at this
    exact this
theorem bourneref26_Cells_ok (nm : ByteArray) (ow : List ByteArray) (nc : Int) (ps : List S47) (ls : List S104) (ts : List S106) (gs : List S67) (ro : List S108) (sh : List S110) (rm : List Int) (er : Int) (radar : List Int) (p : Int) (rs : List S63) (h : rs.length ≤ maxLen) : ∃ k, bourneref26_Cells.f k nm ow nc ps ls ts gs ro sh rm er radar p rs = some (cells nc gs radar p rs) :=
  ⟨2 * rs.length + 4 + ncl nc + 1, by
    unfold bourneref26_Cells.f
    exact cells_loop nm ow nc ps ls ts gs ro sh rm er radar p rs h (ncl nc) _ 0 (by omega) (by omega)⟩
/-- the cells' spans, of the first readings -/
def outj (N : Nat) (gs : List S67) (radar : List Int) (p : Int) (rs : List S63) (j : Nat) : List S26 := (List.range N).map (fun i : Nat => (rs.take j).foldl (stp gs i) (rad radar p i))
theorem take_step {α β : Type} (z : α) (f : β → α → β) (l : List α) (j : Nat) (s : β) (h : j < l.length) : (l.take (j + 1)).foldl f s = f ((l.take j).foldl f s) (l.getD j z) := by
  rw [List.take_succ_eq_append_getElem h, List.foldl_append, List.getD_eq_getElem?_getD, List.getElem?_eq_getElem h]; rfl
theorem outj_same (N : Nat) (gs : List S67) (radar : List Int) (p : Int) (rs : List S63) (j : Nat) (h : j < rs.length) (hs : ∀ i, i < N → ∀ s, stp gs (i : Int) s (rs.getD j z63) = s) : outj N gs radar p rs (j + 1) = outj N gs radar p rs j := by
  unfold outj
  refine List.map_congr_left (fun i hi => ?_)
  rw [take_step z63 _ _ _ _ h]
  exact hs i (by simpa using hi) _
theorem outj_at (N : Nat) (gs : List S67) (radar : List Int) (p : Int) (rs : List S63) (j i : Nat) (hi : i < N) : (outj N gs radar p rs j).getD i z26 = (rs.take j).foldl (stp gs i) (rad radar p i) := by
  unfold outj
  rw [List.getD_eq_getElem?_getD, List.getElem?_map, List.getElem?_range hi]; rfl
theorem outj_len (N : Nat) (gs : List S67) (radar : List Int) (p : Int) (rs : List S63) (j : Nat) : (outj N gs radar p rs j).length = N := by unfold outj; simp
theorem outj_put (N : Nat) (gs : List S67) (radar : List Int) (p : Int) (rs : List S63) (j t : Nat) (h : j < rs.length) (ht : t < N) (hs : ∀ i, i ≠ t → ∀ s, stp gs (i : Int) s (rs.getD j z63) = s) (x : S26) (hx : stp gs (t : Int) ((outj N gs radar p rs j).getD t z26) (rs.getD j z63) = x) :
    outj N gs radar p rs (j + 1) = (outj N gs radar p rs j).set t x := by
  apply List.ext_getElem?
  intro i
  by_cases hi : i < N
  · have e1 : (outj N gs radar p rs (j + 1))[i]? = some (stp gs (i : Int) ((rs.take j).foldl (stp gs i) (rad radar p i)) (rs.getD j z63)) := by
      unfold outj
      rw [List.getElem?_map, List.getElem?_range hi]
      exact congrArg some (take_step z63 _ _ _ _ h)
    rw [e1, List.getElem?_set]
    by_cases e : t = i
    · subst e
      rw [if_pos rfl, outj_len, if_pos hi, ← hx, outj_at _ _ _ _ _ _ _ hi]
    · rw [if_neg e, hs i (fun e2 => e e2.symm)]
      unfold outj
      rw [List.getElem?_map, List.getElem?_range hi]; rfl
  · rw [List.getElem?_eq_none (by rw [outj_len]; omega), List.getElem?_eq_none (by rw [List.length_set, outj_len]; omega)]
theorem ofc_iff (gs : List S67) (r : S63) (c : Int) : ofc gs r c = true ↔ 0 ≤ r.f0 ∧ r.f0 < (gs.length : Int) ∧ (rd_T67 gs r.f0).f1 = 1 ∧ (rd_T67 gs r.f0).f2 = c := by
  unfold ofc; simp [and_assoc]
theorem stp_off {gs : List S67} {r : S63} {c : Int} {s : S26} (h : ¬ (0 ≤ r.f0 ∧ r.f0 < (gs.length : Int) ∧ (rd_T67 gs r.f0).f1 = 1 ∧ (rd_T67 gs r.f0).f2 = c ∧ r.f2.f0 ≤ r.f2.f1 ∧ mx s.f0 r.f2.f0 ≤ mn s.f1 r.f2.f1)) : stp gs c s r = s := by
  unfold stp
  rw [if_neg (fun hh => h (by obtain ⟨h1, h2, h3⟩ := hh; have := (ofc_iff gs r c).1 h1; exact ⟨this.1, this.2.1, this.2.2.1, this.2.2.2, h2, h3⟩))]
theorem rcells_loop (nm : ByteArray) (ow : List ByteArray) (nc : Int) (ps : List S47) (ls : List S104) (ts : List S106) (gs : List S67) (ro : List S108) (sh : List S110) (rm : List Int) (er : Int) (radar : List Int) (p : Int) (rs : List S63) (hl : rs.length ≤ maxLen) (N : Nat) : ∀ (m k j : Nat), j + m = rs.length → 3 * m < k →
    rain_Cells.l1 k (outj N gs radar p rs j) rs (rs.length : Int) (j : Int) nm ow nc ps ls ts gs ro sh rm er = some (outj N gs radar p rs rs.length) := by
  intro m
  induction m with
  | zero =>
    intro k j hi hk
    obtain ⟨k, rfl⟩ : ∃ q, k = q + 1 := ⟨k - 1, by omega⟩
    simp only [rain_Cells.l1]
    rw [if_neg (by omega), show j = rs.length by omega]
  | succ m ih =>
    intro k j hi hk
    obtain ⟨k, rfl⟩ : ∃ q, k = q + 3 := ⟨k - 3, by omega⟩
    have hj : j < rs.length := by omega
    have hn : ∀ q, k ≤ q → rain_Cells.l1 q (outj N gs radar p rs (j + 1)) rs (rs.length : Int) ((j + 1 : Nat) : Int) nm ow nc ps ls ts gs ro sh rm er = some (outj N gs radar p rs rs.length) := fun q hq => ih q (j + 1) (by omega) (by omega)
    have same : (∀ i, i < N → ∀ s, stp gs (i : Int) s (rs.getD j z63) = s) → ∀ q, k ≤ q → rain_Cells.l1 q (outj N gs radar p rs j) rs (rs.length : Int) ((j + 1 : Nat) : Int) nm ow nc ps ls ts gs ro sh rm er = some (outj N gs radar p rs rs.length) := fun h q hq => by
      rw [← outj_same N gs radar p rs j hj h]; exact hn q hq
    have put : ∀ t x, t < N → (∀ i, i ≠ t → ∀ s, stp gs (i : Int) s (rs.getD j z63) = s) → stp gs (t : Int) ((outj N gs radar p rs j).getD t z26) (rs.getD j z63) = x → ∀ q, k ≤ q → rain_Cells.l1 q ((outj N gs radar p rs j).set t x) rs (rs.length : Int) ((j + 1 : Nat) : Int) nm ow nc ps ls ts gs ro sh rm er = some (outj N gs radar p rs rs.length) := fun t x ht h hx q hq => by
      rw [← outj_put N gs radar p rs j t hj ht h x hx]; exact hn q hq
    simp only [rain_Cells.l1]
    rw [if_pos (by omega), if_pos (by omega), if_pos (by omega), rd63]
    generalize rs.getD j z63 = r at *
    have hlen := outj_len N gs radar p rs j
    generalize outj N gs radar p rs j = out at *
    have skip3 : (∀ i, i < N → ∀ s, stp gs (i : Int) s r = s) → rain_Cells.j3 (k + 2) out rs (rs.length : Int) (j : Int) true nm ow nc ps ls ts gs ro sh rm er r.f0 r.f1 r.f2.f0 r.f2.f1 = some (outj N gs radar p rs rs.length) := fun h => by
      simp only [rain_Cells.j3, if_true]
      rw [wrap_nat hj hl]
      exact same h _ (by omega)
    by_cases h1 : r.f0 < 0
    · rw [if_pos h1]; exact skip3 (fun i hi s => stp_off (by omega))
    rw [if_neg h1]
    by_cases h2 : r.f0 ≥ (gs.length : Int)
    · rw [if_pos h2]; exact skip3 (fun i hi s => stp_off (by omega))
    rw [if_neg h2, if_pos (by omega), if_pos (by omega)]
    by_cases h3 : (rd_T67 gs r.f0).f1 = 1
    rotate_left
    · rw [show ((rd_T67 gs r.f0).f1 != 1) = true by simpa using h3]; exact skip3 (fun i hi s => stp_off (fun hh => h3 hh.2.2.1))
    rw [show ((rd_T67 gs r.f0).f1 != 1) = false by simpa using h3]
    simp only [rain_Cells.j3, Bool.false_eq_true, if_false]
    rw [if_pos (by omega), if_pos (by omega)]
    have skip4 : (∀ i, i < N → ∀ s, stp gs (i : Int) s r = s) → rain_Cells.j4 (k + 1) out (rd_T67 gs r.f0).f2 rs (rs.length : Int) (j : Int) true nm ow nc ps ls ts gs ro sh rm er r.f0 r.f1 r.f2.f0 r.f2.f1 = some (outj N gs radar p rs rs.length) := fun h => by
      simp only [rain_Cells.j4, if_true]
      rw [wrap_nat hj hl]
      exact same h _ (by omega)
    by_cases h4 : (rd_T67 gs r.f0).f2 < 0
    · rw [if_pos h4]; exact skip4 (fun i hi s => stp_off (by omega))
    rw [if_neg h4]
    by_cases h5 : (rd_T67 gs r.f0).f2 ≥ (out.length : Int)
    · rw [if_pos h5]; exact skip4 (fun i hi s => stp_off (by omega))
    rw [if_neg h5]
    unfold span_Right.f
    simp only [Option.bind_some]
    by_cases h6 : r.f2.f0 ≤ r.f2.f1
    rotate_left
    · rw [decide_eq_false h6]; exact skip4 (fun i hi s => stp_off (by omega))
    rw [decide_eq_true h6]
    obtain ⟨t, ht⟩ : ∃ t : Nat, (rd_T67 gs r.f0).f2 = (t : Int) := ⟨(rd_T67 gs r.f0).f2.toNat, by omega⟩
    rw [ht] at h4 h5 ⊢
    have htN : t < N := by omega
    have oth : ∀ i, i ≠ t → ∀ s, stp gs (i : Int) s r = s := fun i hi s => stp_off (by rw [ht]; omega)
    simp only [rain_Cells.j4, Bool.not_true, Bool.false_eq_true, if_false]
    rw [if_pos (by omega), if_pos (by omega), rd26, wrap_nat hj hl, Int.toNat_natCast]
    rw [span_Meet_ok]
    simp only [Option.bind_some]
    have hoc : ofc gs r (t : Int) = true := (ofc_iff gs r t).2 ⟨by omega, by omega, h3, ht⟩
    by_cases h7 : mx (out.getD t z26).f0 r.f2.f0 ≤ mn (out.getD t z26).f1 r.f2.f1
    · have e : meet (out.getD t z26).f0 (out.getD t z26).f1 r.f2.f0 r.f2.f1 = (mx (out.getD t z26).f0 r.f2.f0, mn (out.getD t z26).f1 r.f2.f1, true) := by unfold meet; rw [if_pos h7]
      rw [e, if_pos rfl]
      exact put t _ htN oth (by unfold stp; rw [if_pos ⟨hoc, h6, h7⟩]) _ (by omega)
    · have e : meet (out.getD t z26).f0 (out.getD t z26).f1 r.f2.f0 r.f2.f1 = (0, 0, false) := by unfold meet; rw [if_neg h7]
      rw [e, if_neg (by decide)]
      have hp := put t _ htN oth (by unfold stp; rw [if_neg (fun hh => h7 hh.2.2)]) k (Nat.le_refl _)
      rwa [show out.set t (out.getD t z26) = out from ?_] at hp
      rw [List.getD_eq_getElem?_getD, List.getElem?_eq_getElem (by omega)]
      exact List.set_getElem_self _
theorem rcells_first (nm : ByteArray) (ow : List ByteArray) (nc : Int) (ps : List S47) (ls : List S104) (ts : List S106) (gs : List S67) (ro : List S108) (sh : List S110) (rm : List Int) (er : Int) (radar : List Int) (p : Int) (rs : List S63) (hl : rs.length ≤ maxLen) : ∀ (m k i : Nat), i + m = ncl nc → 3 * rs.length + 1 + 2 * m < k →
    rain_Cells.l0 k radar p rs ((List.range i).map (rad radar p)) (ncl nc : Int) (i : Int) nm ow nc ps ls ts gs ro sh rm er = some (cells nc gs radar p rs) := by
  have hc2 := ncl_le nc
  intro m
  induction m with
  | zero =>
    intro k i hi hk
    obtain ⟨k, rfl⟩ : ∃ q, k = q + 1 := ⟨k - 1, by omega⟩
    simp only [rain_Cells.l0]
    rw [if_neg (by omega)]
    have := rcells_loop nm ow nc ps ls ts gs ro sh rm er radar p rs hl (ncl nc) rs.length k 0 (by omega) (by omega)
    have e1 : outj (ncl nc) gs radar p rs 0 = (List.range i).map (rad radar p) := by unfold outj; rw [show i = ncl nc by omega]; rfl
    have e2 : outj (ncl nc) gs radar p rs rs.length = cells nc gs radar p rs := by unfold outj cells; simp only [List.take_length]; rfl
    rw [e1, e2] at this
    exact this
  | succ m ih =>
    intro k i hi hk
    obtain ⟨k, rfl⟩ : ∃ q, k = q + 3 := ⟨k - 3, by omega⟩
    have j1 : rain_Cells.j1 (k + 2) radar p rs ((List.range i).map (rad radar p)) (radar.getD i 0) (ncl nc : Int) (i : Int) nm ow nc ps ls ts gs ro sh rm er = some (cells nc gs radar p rs) := by
      simp only [rain_Cells.j1]
      have hr : rain_radarSpan.f (k + 1) (radar.getD i 0) p = some (rlo (radar.getD i 0) p, rhi (radar.getD i 0) p) := at_rounds (fun q => rain_radarSpan.mono _ _ q) (show 1 ≤ k + 1 by omega) (rain_radarSpan_ok _ _)
      rw [hr]
      simp only [Option.bind_some]
      rw [if_pos (by rw [List.length_map, List.length_range]; omega), show wrap64 ((i : Int) + 1) = ((i + 1 : Nat) : Int) by unfold wrap64; omega]
      have := ih (k + 1) (i + 1) (by omega) (by omega)
      rw [← range_snoc] at this
      exact this
    simp only [rain_Cells.l0]
    rw [if_pos (by omega)]
    by_cases h : (i : Int) < (radar.length : Int)
    · rw [if_pos h, if_pos (by omega), rdI]; exact j1
    · rw [if_neg h]
      have e : radar.getD i 0 = 0 := by rw [List.getD_eq_getElem?_getD, List.getElem?_eq_none (by omega)]; rfl
      rw [e] at j1
      exact j1
theorem rain_Cells_ok (nm : ByteArray) (ow : List ByteArray) (nc : Int) (ps : List S47) (ls : List S104) (ts : List S106) (gs : List S67) (ro : List S108) (sh : List S110) (rm : List Int) (er : Int) (radar : List Int) (p : Int) (rs : List S63) (h : rs.length ≤ maxLen) : ∃ k, rain_Cells.f k nm ow nc ps ls ts gs ro sh rm er radar p rs = some (cells nc gs radar p rs) :=
  ⟨3 * rs.length + 2 + 2 * ncl nc, by
    unfold rain_Cells.f
    rw [exact_Clamp_ok, ← ncl_int]
    exact rcells_first nm ow nc ps ls ts gs ro sh rm er radar p rs h (ncl nc) _ 0 (by omega) (by omega)⟩
end Go.Proofs.Ytcdlielgifkemaa.C
