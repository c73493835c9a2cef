import Derived.Test.YtcdlielgifkemaaMx1
import Derived.Test.YtcdlielgifkemaaRv
import Derived.Test.YtcdlielgifkemaaRows
import Derived.Test.YtcdlielgifkemaaOr
import Derived.WalkKit
import Derived.ProofKit
import Derived.OpenShut
import Derived.ShutString
import Derived.ChangeOld
import Derived.Below
import Derived.SizedLaws
import Derived.Lib.SmallJoins
import Derived.JoinedCond
import Derived.Deep.CondSized
/- RainNarrows holds where what is read is of bulk at most 1048576: the spans with all readings lie within those with the first ones, which lie within the radar's; and narrower cells give narrower spans of the places. No conditions beyond the statement's own. -/
namespace Go.Proofs.Ytcdlielgifkemaa.Pure
open Go.Proofs.Ytcdlielgifkemaa.S
open Go.RowKit Go.Proofs.Ytcdlielgifkemaa.M Go.Proofs.YtcdlielgifkemaaW.PrintWords Go.Proofs.YtcdlielgifkemaaW.PrintMore
set_option linter.unusedVariables false
def ps_fuel (ps : List S47) (n : Int) : Nat := ps.length + 1 + 2 * ncl n + 1
theorem right_ok {a b : Int} (h : a ≤ b) : span_Right.f a b = some true := by unfold span_Right.f; rw [decide_eq_true h]
theorem within_ok {a b c d : Int} (h : c ≤ a ∧ b ≤ d) : span_Within.f a b c d = some true := by unfold span_Within.f; rw [decide_eq_true h]
theorem mesh_ok (nm : ByteArray) (ow : List ByteArray) (nc : Int) (ps : List S47) (ls : List S104) (ts : List S106) (gs : List S67) (ro : List S108) (sh : List S110) (rm : List Int) (er : Int) (cs : List S26) (h : ps.length < 8796093022208 ∧ Short ps) : rain_Mesh.f nm ow nc ps ls ts gs ro sh rm er cs = some (mesh ps cs) := by unfold rain_Mesh.f; rw [if_pos h]
theorem cells_ok (nm : ByteArray) (ow : List ByteArray) (nc : Int) (ps : List S47) (ls : List S104) (ts : List S106) (gs : List S67) (ro : List S108) (sh : List S110) (rm : List Int) (er : Int) (radar : List Int) (p : Int) (rs : List S63) (h : rs.length ≤ maxLen) : rain_Cells.f nm ow nc ps ls ts gs ro sh rm er radar p rs = some (cells nc gs radar p rs) := by unfold rain_Cells.f; rw [if_pos h]
theorem narrow_l1 (P Q : List S26) (nm : ByteArray) (ow : List ByteArray) (nc : Int) (ps : List S47) (ls : List S104) (ts : List S106) (gs : List S67) (ro : List S108) (sh : List S110) (rm : List Int) (er : Int) (hP : P.length = ps.length) (hQ : Q.length = ps.length) (hp : ps.length ≤ 70) (h : ∀ i, i < ps.length → (P.getD i z26).f0 ≤ (P.getD i z26).f1 ∧ (Q.getD i z26).f0 ≤ (P.getD i z26).f0 ∧ (P.getD i z26).f1 ≤ (Q.getD i z26).f1) :
    ∀ (m k i : Nat), i + m = ps.length → m < k → bournelaw26_RainNarrows.l1 k true P Q (i : Int) nm ow nc ps ls ts gs ro sh rm er = some true := by
  intro m
  induction m with
  | zero =>
    intro k i hi hk
    obtain ⟨k, rfl⟩ : ∃ q, k = q + 1 := ⟨k - 1, by omega⟩
    simp only [bournelaw26_RainNarrows.l1]
    rw [if_neg (by omega), if_pos trivial, if_pos (by omega), hP, hQ]
    simp
  | succ m ih =>
    intro k i hi hk
    obtain ⟨k, rfl⟩ : ∃ q, k = q + 1 := ⟨k - 1, by omega⟩
    have hh := h i (by omega)
    simp only [bournelaw26_RainNarrows.l1]
    rw [if_pos (by omega), if_pos (by omega), C.rd26, C.rd26, right_ok hh.1, Option.bind_some, if_pos rfl, if_pos (by omega), within_ok ⟨hh.2.1, hh.2.2⟩, Option.bind_some, if_pos rfl, show wrap64 ((i : Int) + 1) = ((i + 1 : Nat) : Int) by unfold wrap64; omega]
    exact ih k (i + 1) (by omega) (by omega)
theorem narrow_l0 (xs ys zs : List S26) (N : Nat) (hx : xs.length = N) (hy : ys.length = N) (hz : zs.length = N) (hN : N ≤ 64) (nm : ByteArray) (ow : List ByteArray) (nc : Int) (ps : List S47) (ls : List S104) (ts : List S106) (gs : List S67) (ro : List S108) (sh : List S110) (rm : List Int) (er : Int) (hps : ps.length < 8796093022208 ∧ Short ps)
    (h : ∀ i, i < N → (xs.getD i z26).f0 ≤ (xs.getD i z26).f1 ∧ ((ys.getD i z26).f0 ≤ (xs.getD i z26).f0 ∧ (xs.getD i z26).f1 ≤ (ys.getD i z26).f1) ∧ ((zs.getD i z26).f0 ≤ (ys.getD i z26).f0 ∧ (ys.getD i z26).f1 ≤ (zs.getD i z26).f1) ∧ 0 ≤ (xs.getD i z26).f0) :
    ∀ (m k i : Nat), i + m = N → bournelaw26_RainNarrows.l0 (k + 2 * m + 1) true xs ys zs (i : Int) nm ow nc ps ls ts gs ro sh rm er = bournelaw26_RainNarrows.l1 k true (mesh ps xs) (mesh ps ys) 0 nm ow nc ps ls ts gs ro sh rm er := by
  intro m
  induction m with
  | zero =>
    intro k i hi
    rw [show k + 2 * 0 + 1 = k + 1 by omega]
    simp only [bournelaw26_RainNarrows.l0]
    rw [if_neg (by omega), mesh_ok _ _ _ _ _ _ _ _ _ _ _ _ hps, Option.bind_some, mesh_ok _ _ _ _ _ _ _ _ _ _ _ _ hps, Option.bind_some]
  | succ m ih =>
    intro k i hi
    rw [show k + 2 * (m + 1) + 1 = (k + 2 * m + 1) + 1 + 1 by omega]
    have hh := h i (by omega)
    simp only [bournelaw26_RainNarrows.l0]
    rw [if_pos (by omega), if_pos (by omega), C.rd26, C.rd26, C.rd26, right_ok hh.1, Option.bind_some, if_pos rfl, if_pos (by omega), within_ok hh.2.1, Option.bind_some, if_pos rfl, if_pos (by omega), within_ok hh.2.2.1, Option.bind_some, if_pos rfl, decide_eq_false (by omega)]
    simp only [bournelaw26_RainNarrows.j2, Bool.false_eq_true, if_false]
    rw [show wrap64 ((i : Int) + 1) = ((i + 1 : Nat) : Int) by unfold wrap64; omega]
    exact ih k (i + 1) (by omega)
theorem RainNarrows (a0_0 : ByteArray) (l0_1 : List (ByteArray)) (a0_2 : Int) (l0_3 : List (S47)) (l0_4 : List (S104)) (l0_5 : List (S106)) (l0_6 : List (S67)) (l0_7 : List (S108)) (l0_8 : List (S110)) (l0_9 : List (Int)) (a0_10 : Int) (l1 : List (Int)) (a2 : Int) (l3 : List (S63)) (l4 : List (S63)) (z0_0 : a0_0.size ≤ maxLen) (y0_1 : l0_1.length ≤ maxLen) (q0_1 : ∀ y ∈ l0_1, y.size ≤ maxLen) (w0_2 : (Lit.int .i64 a0_2).wf = true) (y0_3 : l0_3.length ≤ maxLen) (q0_3 : ∀ y ∈ l0_3, Q47 y) (y0_4 : l0_4.length ≤ maxLen) (q0_4 : ∀ y ∈ l0_4, Q104 y) (y0_5 : l0_5.length ≤ maxLen) (q0_5 : ∀ y ∈ l0_5, Q106 y) (y0_6 : l0_6.length ≤ maxLen) (q0_6 : ∀ y ∈ l0_6, Q67 y) (y0_7 : l0_7.length ≤ maxLen) (q0_7 : ∀ y ∈ l0_7, Q108 y) (y0_8 : l0_8.length ≤ maxLen) (q0_8 : ∀ y ∈ l0_8, Q110 y) (y0_9 : l0_9.length ≤ maxLen) (q0_9 : ∀ y ∈ l0_9, (Lit.int .i64 y).wf = true) (w0_10 : (Lit.int .i64 a0_10).wf = true) (y1 : l1.length ≤ maxLen) (q1 : ∀ y ∈ l1, (Lit.int .i64 y).wf = true) (w2 : (Lit.int .i64 a2).wf = true) (y3 : l3.length ≤ maxLen) (q3 : ∀ y ∈ l3, Q63 y) (y4 : l4.length ≤ maxLen) (q4 : ∀ y ∈ l4, Q63 y) (u1 : l1.length ≤ 1048576) (u3 : l3.length ≤ 1048576) (u4 : l4.length ≤ 1048576) :
    ∃ k, bournelaw26_RainNarrows.f k a0_0 l0_1 a0_2 l0_3 l0_4 l0_5 l0_6 l0_7 l0_8 l0_9 a0_10 l1 a2 l3 l4 = some true := by
  refine ⟨ps_fuel l0_3 a0_2 + 2, ?_⟩
  unfold bournelaw26_RainNarrows.f bournelaw26_small.f bournelaw26_few.f
  rw [Option.bind_some, Option.bind_some, if_pos (by simp; omega), Option.bind_some, List.nil_append, if_pos (by omega), Option.bind_some, Option.bind_some]
  cases hf : C.fewb l0_3 (l3 ++ l4) [] with
  | false => rw [if_neg (by decide)]
  | true =>
    obtain ⟨h1, h2, h3, h4⟩ := few_of hf
    have cm : l0_3.length < 8796093022208 ∧ Short l0_3 := ⟨by omega, short_of h4⟩
    have c1 : (l3 ++ l4).length ≤ maxLen := Nat.le_trans h2 (by decide)
    have c2 : l3.length ≤ maxLen := by rw [List.length_append] at h2; exact Nat.le_trans (show l3.length ≤ 60 by omega) (by decide)
    rw [if_pos rfl, cells_ok _ _ _ _ _ _ _ _ _ _ _ _ _ _ c1, Option.bind_some, cells_ok _ _ _ _ _ _ _ _ _ _ _ _ _ _ c2, Option.bind_some, cells_ok _ _ _ _ _ _ _ _ _ _ _ _ _ _ (show ([] : List S63).length ≤ maxLen by decide), Option.bind_some]
    rw [if_pos (by rw [cells_len, cells_len]), cells_len, cells_len, bne_self_eq_false]
    have hn := C.ncl_le a0_2
    unfold ps_fuel
    rw [show l0_3.length + 1 + 2 * ncl a0_2 + 1 + 2 = ((l0_3.length + 2) + 2 * ncl a0_2 + 1) + 1 by omega]
    simp only [bournelaw26_RainNarrows.j0, Bool.false_eq_true, if_false]
    have X : ∀ i, i < ncl a0_2 → (cells a0_2 l0_6 l1 a2 (l3 ++ l4)).getD i z26 = cell l0_6 l1 a2 (l3 ++ l4) i ∧ (cells a0_2 l0_6 l1 a2 l3).getD i z26 = cell l0_6 l1 a2 l3 i ∧ (cells a0_2 l0_6 l1 a2 []).getD i z26 = cell l0_6 l1 a2 [] i := fun i hi => ⟨cells_at _ _ _ _ _ i hi, cells_at _ _ _ _ _ i hi, cells_at _ _ _ _ _ i hi⟩
    have W1 : ∀ i, (cell l0_6 l1 a2 l3 i).f0 ≤ (cell l0_6 l1 a2 (l3 ++ l4) i).f0 ∧ (cell l0_6 l1 a2 (l3 ++ l4) i).f1 ≤ (cell l0_6 l1 a2 l3 i).f1 := fun i => by
      rw [cell_append]
      have := fold_within l0_6 (i : Int) l4 (cell l0_6 l1 a2 l3 i)
      exact ⟨this.1, this.2.1⟩
    have W2 : ∀ i, (cell l0_6 l1 a2 [] i).f0 ≤ (cell l0_6 l1 a2 l3 i).f0 ∧ (cell l0_6 l1 a2 l3 i).f1 ≤ (cell l0_6 l1 a2 [] i).f1 := fun i => by
      have := fold_within l0_6 (i : Int) l3 (rad l1 a2 i)
      exact ⟨this.1, this.2.1⟩
    have e0 : ((0 : Nat) : Int) = 0 := rfl
    rw [← e0, narrow_l0 _ _ _ (ncl a0_2) (cells_len _ _ _ _ _) (cells_len _ _ _ _ _) (cells_len _ _ _ _ _) hn _ _ _ _ _ _ _ _ _ _ _ cm (fun i hi => by
      obtain ⟨x1, x2, x3⟩ := X i hi
      rw [x1, x2, x3]
      exact ⟨(cell_right _ _ _ _ _).1, W1 i, W2 i, (cell_right _ _ _ _ _).2⟩) (ncl a0_2) (l0_3.length + 2) 0 (by omega), ← e0]
    refine narrow_l1 _ _ _ _ _ _ _ _ _ _ _ _ _ (mesh_len _ _) (mesh_len _ _) h1 (fun i hi => ?_) l0_3.length _ 0 (by omega) (by omega)
    rw [mesh_at _ _ _ hi, mesh_at _ _ _ hi]
    refine ⟨msum_mono rfl (fun j hj => ?_) _, msum_mono ?_ (fun j hj => ?_) _, msum_mono ?_ (fun j hj => ?_) _⟩
    · rw [cells_len] at hj; rw [(X j hj).1]; exact (cell_right _ _ _ _ _).1
    · rw [cells_len, cells_len]
    · rw [cells_len] at hj; rw [(X j hj).1, (X j hj).2.1]; exact (W1 j).1
    · rw [cells_len, cells_len]
    · rw [cells_len] at hj; rw [(X j hj).1, (X j hj).2.1]; exact (W1 j).2
end Go.Proofs.Ytcdlielgifkemaa.Pure

-- Written by a program of this session (wip/tools/row3.py): the row of the law RainNarrows, out of its pure statement and its walk; Lean checks it.
namespace Go.Proofs.Ytcdlielgifkemaa.rainNarrows
open Go.ChangeShapes Go.WideShapes Go.ChangeAt Go.RowKit Go.Joins Go.Proofs.Ytcdlielgifkemaa.S Go.Proofs.YtcdlielgifkemaaW.PrintWords Go.Proofs.YtcdlielgifkemaaW.PrintLast Go.Proofs.YtcdlielgifkemaaW.PrintMore
open Go.ChangeMaps (open_string shut_string)
set_option linter.unusedVariables false
theorem one_le {H : Type} (d : DataW H) : 1 ≤ Rows.uptoBulk d := by
  cases d with
  | lit l => cases l <;> simp [Rows.uptoBulk]
  | _ => simp [Rows.uptoBulk]
theorem length_le {H : Type} (l : List (DataW H)) : l.length ≤ Rows.uptoBulkAll l := by
  induction l with
  | nil => simp [Rows.uptoBulkAll]
  | cons x r ih => have := one_le x; simp only [Rows.uptoBulkAll, List.length_cons]; omega
/-- a slice is no longer than what is read of it is great -/
theorem len_le {H : Type} {enc : TypeId × Value → H} {P : Program} {w : World} {base : Nat} {sp : Nat → Bool} {held : Bool} {t e : TypeId} {A : Option Addr} {n c : Nat} {d : DataW H} {p : List MemPlace}
    (ht : P.underlying t = some (.slice e)) (h : DataW.Trod enc P w base sp held t (.slice A n c) d p) : n ≤ Rows.uptoBulk d := by
  obtain ⟨m, hm⟩ := h
  rcases DataW.trod_slice ht hm with ⟨h0, _⟩ | ⟨a, len, cap, elems, rest, k, _, h0, hx, _, _, _, hl, _⟩
  · simp [Value.cells] at h0
    omega
  · simp [Value.cells] at h0
    have hd : d = .slice (elems.map (·.1)) (rest.map (·.1)) := congrArg Prod.fst hx
    have h1 := length_le (elems.map (·.1))
    rw [List.length_map] at h1
    rw [hd]
    simp only [Rows.uptoBulk]
    omega
theorem own : ownKnob Try.prog.godebug = none := by kernel_rfl
theorem laidOut : laidOutB Try.prog = true := by kernel_rfl
theorem walk (a0_0 : ByteArray) (A0_1 : Option Addr) (c0_1 : Nat) (l0_1 : List (ByteArray)) (a0_2 : Int) (A0_3 : Option Addr) (c0_3 : Nat) (l0_3 : List (S47)) (A0_4 : Option Addr) (c0_4 : Nat) (l0_4 : List (S104)) (A0_5 : Option Addr) (c0_5 : Nat) (l0_5 : List (S106)) (A0_6 : Option Addr) (c0_6 : Nat) (l0_6 : List (S67)) (A0_7 : Option Addr) (c0_7 : Nat) (l0_7 : List (S108)) (A0_8 : Option Addr) (c0_8 : Nat) (l0_8 : List (S110)) (A0_9 : Option Addr) (c0_9 : Nat) (l0_9 : List (Int)) (a0_10 : Int) (A1 : Option Addr) (c1 : Nat) (l1 : List (Int)) (a2 : Int) (A3 : Option Addr) (c3 : Nat) (l3 : List (S63)) (A4 : Option Addr) (c4 : Nat) (l4 : List (S63)) (w : World) (hr0_1 : Kd.C Kd.string w A0_1 l0_1.length l0_1) (hc0_1 : l0_1.length ≤ c0_1) (hr0_3 : Kd.C k47 w A0_3 l0_3.length l0_3) (hc0_3 : l0_3.length ≤ c0_3) (hr0_4 : Kd.C k104 w A0_4 l0_4.length l0_4) (hc0_4 : l0_4.length ≤ c0_4) (hr0_5 : Kd.C k106 w A0_5 l0_5.length l0_5) (hc0_5 : l0_5.length ≤ c0_5) (hr0_6 : Kd.C k67 w A0_6 l0_6.length l0_6) (hc0_6 : l0_6.length ≤ c0_6) (hr0_7 : Kd.C k108 w A0_7 l0_7.length l0_7) (hc0_7 : l0_7.length ≤ c0_7) (hr0_8 : Kd.C k110 w A0_8 l0_8.length l0_8) (hc0_8 : l0_8.length ≤ c0_8) (hr0_9 : Kd.C (Kd.int .i64) w A0_9 l0_9.length l0_9) (hc0_9 : l0_9.length ≤ c0_9) (hr1 : Kd.C (Kd.int .i64) w A1 l1.length l1) (hc1 : l1.length ≤ c1) (hr3 : Kd.C k63 w A3 l3.length l3) (hc3 : l3.length ≤ c3) (hr4 : Kd.C k63 w A4 l4.length l4) (hc4 : l4.length ≤ c4) (z0_0 : a0_0.size ≤ maxLen) (y0_1 : l0_1.length ≤ maxLen) (q0_1 : ∀ y ∈ l0_1, y.size ≤ maxLen) (w0_2 : (Lit.int .i64 a0_2).wf = true) (y0_3 : l0_3.length ≤ maxLen) (q0_3 : ∀ y ∈ l0_3, Q47 y) (y0_4 : l0_4.length ≤ maxLen) (q0_4 : ∀ y ∈ l0_4, Q104 y) (y0_5 : l0_5.length ≤ maxLen) (q0_5 : ∀ y ∈ l0_5, Q106 y) (y0_6 : l0_6.length ≤ maxLen) (q0_6 : ∀ y ∈ l0_6, Q67 y) (y0_7 : l0_7.length ≤ maxLen) (q0_7 : ∀ y ∈ l0_7, Q108 y) (y0_8 : l0_8.length ≤ maxLen) (q0_8 : ∀ y ∈ l0_8, Q110 y) (y0_9 : l0_9.length ≤ maxLen) (q0_9 : ∀ y ∈ l0_9, (Lit.int .i64 y).wf = true) (w0_10 : (Lit.int .i64 a0_10).wf = true) (y1 : l1.length ≤ maxLen) (q1 : ∀ y ∈ l1, (Lit.int .i64 y).wf = true) (w2 : (Lit.int .i64 a2).wf = true) (y3 : l3.length ≤ maxLen) (q3 : ∀ y ∈ l3, Q63 y) (y4 : l4.length ≤ maxLen) (q4 : ∀ y ∈ l4, Q63 y) (u1 : l1.length ≤ 1048576) (u3 : l3.length ≤ 1048576) (u4 : l4.length ≤ 1048576) :
    Calls Try.prog 6 #[.agg #[.string a0_0, .slice A0_1 l0_1.length c0_1, .int .i64 a0_2, .slice A0_3 l0_3.length c0_3, .slice A0_4 l0_4.length c0_4, .slice A0_5 l0_5.length c0_5, .slice A0_6 l0_6.length c0_6, .slice A0_7 l0_7.length c0_7, .slice A0_8 l0_8.length c0_8, .slice A0_9 l0_9.length c0_9, .int .i64 a0_10], .slice A1 l1.length c1, .int .i64 a2, .slice A3 l3.length c3, .slice A4 l4.length c4] w fun e w' => e = .returned (.bool true) ∧ Below w.heap.size w w' := by
  obtain ⟨k, h⟩ := Pure.RainNarrows a0_0 l0_1 a0_2 l0_3 l0_4 l0_5 l0_6 l0_7 l0_8 l0_9 a0_10 l1 a2 l3 l4 z0_0 y0_1 q0_1 w0_2 y0_3 q0_3 y0_4 q0_4 y0_5 q0_5 y0_6 q0_6 y0_7 q0_7 y0_8 q0_8 y0_9 q0_9 w0_10 y1 q1 w2 y3 q3 y4 q4 u1 u3 u4
  refine (M.bournelaw26_RainNarrows.calls k a0_0 A0_1 c0_1 l0_1 a0_2 A0_3 c0_3 l0_3 A0_4 c0_4 l0_4 A0_5 c0_5 l0_5 A0_6 c0_6 l0_6 A0_7 c0_7 l0_7 A0_8 c0_8 l0_8 A0_9 c0_9 l0_9 a0_10 A1 c1 l1 a2 A3 c3 l3 A4 c4 l4 true w hr0_1 hc0_1 hr0_3 hc0_3 hr0_4 hc0_4 hr0_5 hc0_5 hr0_6 hc0_6 hr0_7 hc0_7 hr0_8 hc0_8 hr0_9 hc0_9 hr1 hc1 hr3 hc3 hr4 hc4 h ⟨rfl⟩).mono ?_
  rintro e w' ⟨rfl, hd⟩
  exact ⟨rfl, hd⟩
set_option maxRecDepth 100000 in
set_option maxHeartbeats 4000000 in
theorem lifted (os : Os) (started : os.Started) (H : Type) (enc : TypeId × Value → H) (F : Stop.Interp) :
    ReturnsInHanded {} Try.checked os 6 .any ((Rows.OpenSpec.upto Rows.rainNarrowsSpec).pre6 enc Try.prog Try.f6 Rows.rainNarrowsUptoRow.domain false) (((Rows.OpenSpec.upto Rows.rainNarrowsSpec).at F).post enc Try.prog Try.f6 false true false false) := by
  refine returnsInHanded_of_cond_sized (C := Try.checked) (s := Rows.OpenSpec.upto Rows.rainNarrowsSpec) (k := Rows.uptoSmall) rfl own started (by kernel_rfl) Try.func6
    (OpenSpec.witness (enc := enc) (C := Try.checked) (s := Rows.OpenSpec.upto Rows.rainNarrowsSpec) (k := Rows.uptoSmall) rfl false ⟨#[], #[.agg #[.string ⟨#[]⟩, .slice none 0 0, .int .i64 0, .slice none 0 0, .slice none 0 0, .slice none 0 0, .slice none 0 0, .slice none 0 0, .slice none 0 0, .slice none 0 0, .int .i64 0], .slice none 0 0, .int .i64 0, .slice none 0 0, .slice none 0 0], []⟩ 8 (by kernel_rfl) (by kernel_rfl) (by kernel_rfl) (x := ([.agg [.lit (.string []), .nil, .lit (.int .i64 0), .nil, .nil, .nil, .nil, .nil, .nil, .nil, .lit (.int .i64 0)], .nil, .lit (.int .i64 0), .nil, .nil], [], [])) (by kernel_rfl) rfl (by kernel_rfl)) ?_
  intro W base args ds gs before hval0 hW hcnd hk hsz0 _
  have hval : ∀ (j : Nat) t v, Try.f6.params[j]? = some t → args[j]? = some v → Value.okWide Try.prog W .any base t v := hval0
  have hW' := hW
  obtain ⟨p, q, hA0, hV, rfl, hfz, hnd⟩ := hW
  have hA : DataW.TrodAll enc Try.prog W 0 (fun _ => true) true Try.f6.params.toList args.toList ds p := hA0
  rw [Try.params6] at hA hval
  obtain ⟨v0, vs0, d0, ds0, p0, q0, hargs, rfl, rfl, h0, r0⟩ := trodAll_cons hA
  obtain ⟨v1, vs1, d1, ds1, p1, q1, rfl, rfl, rfl, h1, r1⟩ := trodAll_cons r0
  obtain ⟨v2, vs2, d2, ds2, p2, q2, rfl, rfl, rfl, h2, r2⟩ := trodAll_cons r1
  obtain ⟨v3, vs3, d3, ds3, p3, q3, rfl, rfl, rfl, h3, r3⟩ := trodAll_cons r2
  obtain ⟨v4, vs4, d4, ds4, p4, q4, rfl, rfl, rfl, h4, r4⟩ := trodAll_cons r3
  obtain ⟨rfl, rfl, rfl⟩ := trodAll_nil r4
  obtain rfl : args = #[v0, v1, v2, v3, v4] := by cases args; simp_all
  obtain ⟨rfl, rfl⟩ := trodVars_none hV
  obtain ⟨cs0, rfl, sz0⟩ := okWide_struct Try.underlying41 (hval 0 41 v0 rfl rfl)
  have k0 := h0
  have lt0 : ∀ x ∈ p0, x.block < W.heap.size := by obtain ⟨m, hm⟩ := k0; exact DataW.trod_lt m _ _ _ hm
  obtain ⟨⟨a0_0, l0_1, a0_2, l0_3, l0_4, l0_5, l0_6, l0_7, l0_8, l0_9, a0_10⟩, hK0, hQ0⟩ := op41.open h0
  obtain ⟨_, _, E0, rfl, ⟨_, _, rfl, ⟨A0_1, c0_1, rfl, hc0_1, hr0_1⟩, ⟨_, _, rfl, rfl, ⟨_, _, rfl, ⟨A0_3, c0_3, rfl, hc0_3, hr0_3⟩, ⟨_, _, rfl, ⟨A0_4, c0_4, rfl, hc0_4, hr0_4⟩, ⟨_, _, rfl, ⟨A0_5, c0_5, rfl, hc0_5, hr0_5⟩, ⟨_, _, rfl, ⟨A0_6, c0_6, rfl, hc0_6, hr0_6⟩, ⟨_, _, rfl, ⟨A0_7, c0_7, rfl, hc0_7, hr0_7⟩, ⟨_, _, rfl, ⟨A0_8, c0_8, rfl, hc0_8, hr0_8⟩, ⟨_, _, rfl, ⟨A0_9, c0_9, rfl, hc0_9, hr0_9⟩, rfl⟩⟩⟩⟩⟩⟩⟩⟩⟩⟩ := hK0
  obtain ⟨z0_0, ⟨y0_1, q0_1⟩, w0_2, ⟨y0_3, q0_3⟩, ⟨y0_4, q0_4⟩, ⟨y0_5, q0_5⟩, ⟨y0_6, q0_6⟩, ⟨y0_7, q0_7⟩, ⟨y0_8, q0_8⟩, ⟨y0_9, q0_9⟩, w0_10⟩ := hQ0
  obtain rfl : cs0 = #[.string a0_0, .slice A0_1 l0_1.length c0_1, .int .i64 a0_2, .slice A0_3 l0_3.length c0_3, .slice A0_4 l0_4.length c0_4, .slice A0_5 l0_5.length c0_5, .slice A0_6 l0_6.length c0_6, .slice A0_7 l0_7.length c0_7, .slice A0_8 l0_8.length c0_8, .slice A0_9 l0_9.length c0_9, .int .i64 a0_10] := by apply Array.ext'; simpa [Value.cells] using E0
  obtain ⟨sa1, sn1, sc1, rfl⟩ := okWide_slice Try.underlying39 (hval 1 39 v1 rfl rfl)
  have k1 := h1
  have lt1 : ∀ x ∈ p1, x.block < W.heap.size := by obtain ⟨m, hm⟩ := k1; exact DataW.trod_lt m _ _ _ hm
  obtain ⟨l1, ⟨A1, c1, hcs1, hc1, hr1⟩, y1, q1⟩ := op39.open h1
  simp [Value.cells] at hcs1
  obtain ⟨rfl, rfl, rfl⟩ := hcs1
  obtain ⟨a2, rfl, rfl, rfl, w2⟩ := open_int Try.underlying3 (hval 2 3 v2 rfl rfl) h2
  obtain ⟨sa3, sn3, sc3, rfl⟩ := okWide_slice Try.underlying53 (hval 3 53 v3 rfl rfl)
  have k3 := h3
  have lt3 : ∀ x ∈ p3, x.block < W.heap.size := by obtain ⟨m, hm⟩ := k3; exact DataW.trod_lt m _ _ _ hm
  obtain ⟨l3, ⟨A3, c3, hcs3, hc3, hr3⟩, y3, q3⟩ := op53.open h3
  simp [Value.cells] at hcs3
  obtain ⟨rfl, rfl, rfl⟩ := hcs3
  obtain ⟨sa4, sn4, sc4, rfl⟩ := okWide_slice Try.underlying53 (hval 4 53 v4 rfl rfl)
  have k4 := h4
  have lt4 : ∀ x ∈ p4, x.block < W.heap.size := by obtain ⟨m, hm⟩ := k4; exact DataW.trod_lt m _ _ _ hm
  obtain ⟨l4, ⟨A4, c4, hcs4, hc4, hr4⟩, y4, q4⟩ := op53.open h4
  simp [Value.cells] at hcs4
  obtain ⟨rfl, rfl, rfl⟩ := hcs4
  simp only [List.append_nil] at hk
  have hb : Rows.uptoBulkAll [d0, d1, .lit (.int .i64 a2), d3, d4] ≤ 1048576 := of_decide_eq_true hk
  simp only [Rows.uptoBulkAll] at hb
  have u1 : l1.length ≤ 1048576 := by have := len_le Try.underlying39 k1; omega
  have u3 : l3.length ≤ 1048576 := by have := len_le Try.underlying53 k3; omega
  have u4 : l4.length ≤ 1048576 := by have := len_le Try.underlying53 k4; omega
  clear hA0 hval0 hsz0 hk hb
  refine (walk a0_0 _ _ l0_1 a0_2 _ _ l0_3 _ _ l0_4 _ _ l0_5 _ _ l0_6 _ _ l0_7 _ _ l0_8 _ _ l0_9 a0_10 _ _ l1 a2 _ _ l3 _ _ l4 W hr0_1 hc0_1 hr0_3 hc0_3 hr0_4 hc0_4 hr0_5 hc0_5 hr0_6 hc0_6 hr0_7 hc0_7 hr0_8 hc0_8 hr0_9 hc0_9 hr1 hc1 hr3 hc3 hr4 hc4 z0_0 y0_1 q0_1 w0_2 y0_3 q0_3 y0_4 q0_4 y0_5 q0_5 y0_6 q0_6 y0_7 q0_7 y0_8 q0_8 y0_9 q0_9 w0_10 y1 q1 w2 y3 q3 y4 q4 u1 u3 u4).mono fun e W' ⟨he, bel⟩ => ?_
  subst he
  exact ⟨_, rfl, _, _, _, [], _, [], hW', trodAll_mk1 (shut_bool Try.underlying4 _), (trodAll_cons_mk (Below.trod laidOut (by kernel_rfl) (of_decide_eq_true (by kernel_rfl)) k0 bel lt0) (trodAll_cons_mk (Below.trod laidOut (by kernel_rfl) (of_decide_eq_true (by kernel_rfl)) k1 bel lt1) (trodAll_cons_mk (shut_int Try.underlying3 w2) (trodAll_cons_mk (Below.trod laidOut (by kernel_rfl) (of_decide_eq_true (by kernel_rfl)) k3 bel lt3) (trodAll_cons_mk (Below.trod laidOut (by kernel_rfl) (of_decide_eq_true (by kernel_rfl)) k4 bel lt4) trodAll_mk0))))), rfl, bel.frame _, fun h => by cases h⟩
theorem over : Rows.rainNarrowsUptoRow.holds Try.pinned (Rows.OpenSpec.upto Rows.rainNarrowsSpec) :=
  OpenClaim.holds_of_cond 6 Try.f6 rfl rfl rfl rfl rfl rfl rfl ⟨rfl, rfl, rfl, rfl, rfl⟩ rfl rfl rfl rfl rfl (by kernel_rfl) Try.func6 (by kernel_rfl)
    (of_decide_eq_true (by kernel_rfl)) (by unfold Func.isWrapper; first | (rw [if_pos (by decide +kernel)]; kernel_rfl) | (rw [if_neg (by decide +kernel)]; exact ⟨rfl, rfl⟩))
    (fun os started H enc _ F => lifted os started H enc F)
theorem proved : Rows.RainNarrowsUptoSaid := over
#print axioms proved
end Go.Proofs.Ytcdlielgifkemaa.rainNarrows
namespace Go.Proofs.Ytcdlielgifkemaa
/-- The row, under a short name, for the claim. -/
theorem rainNarrowsUpto_holds : Rows.RainNarrowsUptoSaid := rainNarrows.proved
end Go.Proofs.Ytcdlielgifkemaa
