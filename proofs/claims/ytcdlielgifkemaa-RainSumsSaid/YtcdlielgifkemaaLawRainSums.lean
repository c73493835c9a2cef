import Derived.Test.YtcdlielgifkemaaSx2
import Derived.Test.YtcdlielgifkemaaRu
import Derived.Test.YtcdlielgifkemaaRows
import Derived.Test.YtcdlielgifkemaaOr
import Derived.WalkKit
import Derived.ProofKit
import Derived.OpenShut
import Derived.ShutString
import Derived.ChangeOld
import Derived.Below
import Derived.SizedLaws
import Derived.Lib.SmallJoins
/- RainSums holds: the sum of spans does not depend on where the list is cut, and contains the sum of numbers that lie in the spans. No conditions beyond the statement's own. -/
namespace Go.Proofs.Ytcdlielgifkemaa.Pure
open Go.Proofs.Ytcdlielgifkemaa.S
open Go.RowKit Go.Proofs.Ytcdlielgifkemaa.S Go.Proofs.YtcdlielgifkemaaW.PrintWords Go.Proofs.YtcdlielgifkemaaW.PrintMore
set_option linter.unusedVariables false
theorem sum_of (l : List S26) (h : Vol l) (hl : l.length ≤ 100) : rain_Sum.f l = some (sl S26.f0 l, sl S26.f1 l) := by
  unfold rain_Sum.f
  rw [if_pos ⟨Nat.le_trans hl (by decide), vol_in64 h⟩, ssum_plain l h hl]
theorem vol_take {l : List S26} (h : Vol l) (n : Nat) : Vol (l.take n) := fun y hy => h y (List.mem_of_mem_take hy)
theorem vol_drop {l : List S26} (h : Vol l) (n : Nat) : Vol (l.drop n) := fun y hy => h y (List.mem_of_mem_drop hy)
theorem sums_loop (l : List S26) (n : Int) (at_ : List Bool) (hl : l.length ≤ 100) (hn : 0 ≤ n ∧ n ≤ l.length) : ∀ (m k i : Nat) (tot : Int), i + m = l.length → 2 * m < k → Vol (l.take i) → sl S26.f0 (l.take i) ≤ tot → tot ≤ sl S26.f1 (l.take i) →
    bournelaw26_RainSums.l0 k l n at_ true tot (i : Int) = some true := by
  intro m
  induction m with
  | zero =>
    intro k i tot hi hk hv h1 h2
    obtain ⟨k, rfl⟩ : ∃ q, k = q + 1 := ⟨k - 1, by omega⟩
    rw [List.take_of_length_le (by omega)] at hv h1 h2
    have eL := sum_of l hv hl
    have eT := sum_of (l.take n.toNat) (vol_take hv _) (by rw [List.length_take]; omega)
    have eD := sum_of (l.drop n.toNat) (vol_drop hv _) (by rw [List.length_drop]; omega)
    have bT := sl_bound _ (vol_take hv n.toNat)
    have bD := sl_bound _ (vol_drop hv n.toNat)
    have e0 : sl S26.f0 l = sl S26.f0 (l.take n.toNat) + sl S26.f0 (l.drop n.toNat) := by rw [← sl_append, List.take_append_drop]
    have e1 : sl S26.f1 l = sl S26.f1 (l.take n.toNat) + sl S26.f1 (l.drop n.toNat) := by rw [← sl_append, List.take_append_drop]
    rw [List.length_take] at bT
    rw [List.length_drop] at bD
    simp only [bournelaw26_RainSums.l0]
    rw [if_neg (by omega), eL, Option.bind_some, if_pos trivial, if_pos hn.1, if_pos hn.2, eT, Option.bind_some, eD, Option.bind_some]
    have ea : span_Add.f (sl S26.f0 (l.take n.toNat)) (sl S26.f1 (l.take n.toNat)) (sl S26.f0 (l.drop n.toNat)) (sl S26.f1 (l.drop n.toNat)) = some (sl S26.f0 l, sl S26.f1 l) := by
      unfold span_Add.f
      rw [if_pos (by unfold I64; omega), sat_id (by unfold I64; omega), sat_id (by unfold I64; omega), e0, e1]
    rw [ea, Option.bind_some]
    unfold span_Has.f
    simp [h1, h2]
  | succ m ih =>
    intro k i tot hi hk hv h1 h2
    obtain ⟨k, rfl⟩ : ∃ q, k = q + 2 := ⟨k - 2, by omega⟩
    have hi2 : i < l.length := by omega
    have bb := sl_bound _ hv
    rw [List.length_take] at bb
    have s0 := sl_snoc S26.f0 l i hi2
    have s1 := sl_snoc S26.f1 l i hi2
    have ev : l.getD i z26 = l[i] := by rw [List.getD_eq_getElem?_getD, List.getElem?_eq_getElem hi2]; rfl
    have ht : l.take (i + 1) = l.take i ++ [l.getD i z26] := by rw [ev]; exact List.take_succ_eq_append_getElem hi2
    simp only [bournelaw26_RainSums.l0]
    rw [if_pos (by omega), if_pos (by omega), C.rd26]
    generalize hx : l.getD i z26 = x at *
    have bad : bournelaw26_RainSums.j2 (k + 1) l n at_ true tot (i : Int) true = some true := by simp only [bournelaw26_RainSums.j2, if_true]
    by_cases c1 : x.f0 < -1125899906842624
    · rw [if_pos c1]; exact bad
    rw [if_neg c1]
    by_cases c2 : x.f1 > 1125899906842624
    · rw [if_pos c2]; exact bad
    rw [if_neg c2]
    unfold span_Right.f
    rw [Option.bind_some]
    by_cases c3 : x.f0 ≤ x.f1
    · rw [decide_eq_true c3]
      have next : ∀ d, x.f0 ≤ d → d ≤ x.f1 → bournelaw26_RainSums.l0 k l n at_ true (wrap64 (tot + d)) (wrap64 ((i : Int) + 1)) = some true := fun d d0 d1 => by
        rw [show wrap64 (tot + d) = tot + d by unfold wrap64; omega, show wrap64 ((i : Int) + 1) = ((i + 1 : Nat) : Int) by unfold wrap64; omega]
        refine ih k (i + 1) (tot + d) (by omega) (by omega) ?_ (by omega) (by omega)
        rw [ht]
        intro y hy
        rcases List.mem_append.1 hy with hy | hy
        · exact hv y hy
        · rw [List.mem_singleton] at hy
          subst hy
          omega
      simp only [bournelaw26_RainSums.j2, Bool.not_true, Bool.false_eq_true, if_false]
      rw [C.rd26, hx]
      by_cases c4 : (i : Int) < (at_.length : Int)
      · rw [if_pos c4, if_pos (by omega)]
        cases rdOf false at_ (i : Int) with
        | true => rw [if_pos rfl, if_pos (by omega)]; exact next _ c3 (Int.le_refl _)
        | false => rw [if_neg (by decide), if_pos (by omega)]; exact next _ (Int.le_refl _) c3
      · rw [if_neg c4, if_pos (by omega), if_pos (by omega)]; exact next _ (Int.le_refl _) c3
    · rw [decide_eq_false c3]; exact bad
theorem RainSums (l0 : List (S26)) (a1 : Int) (l2 : List (Bool)) (y0 : l0.length ≤ maxLen) (q0 : ∀ y ∈ l0, Q26 y) (w1 : (Lit.int .i64 a1).wf = true) (y2 : l2.length ≤ maxLen) (q2 : ∀ y ∈ l2, True) :
    ∃ k, bournelaw26_RainSums.f k l0 a1 l2 = some true := by
  refine ⟨2 * l0.length + 2, ?_⟩
  have bad : bournelaw26_RainSums.j0 (2 * l0.length + 1 + 1) l0 a1 l2 true true = some true := by simp only [bournelaw26_RainSums.j0, if_true]
  unfold bournelaw26_RainSums.f bournelaw26_small.f
  rw [Option.bind_some]
  by_cases c1 : (l0.length : Int) > 100
  · rw [if_pos c1]; exact bad
  rw [if_neg c1]
  by_cases c2 : a1 < 0
  · rw [if_pos c2]; exact bad
  rw [if_neg c2]
  by_cases c3 : a1 > (l0.length : Int)
  · rw [decide_eq_true c3]; exact bad
  rw [decide_eq_false c3]
  show bournelaw26_RainSums.j0 (2 * l0.length + 1 + 1) l0 a1 l2 true false = some true
  simp only [bournelaw26_RainSums.j0, Bool.false_eq_true, if_false]
  exact sums_loop l0 a1 l2 (by omega) ⟨by omega, by omega⟩ l0.length (2 * l0.length + 1) 0 0 (by omega) (by omega) (fun y hy => by simp at hy) (by simp [sl]) (by simp [sl])
end Go.Proofs.Ytcdlielgifkemaa.Pure

-- Written by a program of this session (wip/tools/row3.py): the row of the law RainSums, out of its pure statement and its walk; Lean checks it.
namespace Go.Proofs.Ytcdlielgifkemaa.rainSums
open Go.ChangeShapes Go.WideShapes Go.ChangeAt Go.RowKit Go.Joins Go.Proofs.Ytcdlielgifkemaa.S Go.Proofs.YtcdlielgifkemaaW.PrintWords Go.Proofs.YtcdlielgifkemaaW.PrintLast Go.Proofs.YtcdlielgifkemaaW.PrintMore
open Go.ChangeMaps (open_string shut_string)
set_option linter.unusedVariables false
theorem own : ownKnob Try.prog.godebug = none := by kernel_rfl
theorem laidOut : laidOutB Try.prog = true := by kernel_rfl
theorem walk (A0 : Option Addr) (c0 : Nat) (l0 : List (S26)) (a1 : Int) (A2 : Option Addr) (c2 : Nat) (l2 : List (Bool)) (w : World) (hr0 : Kd.C k26 w A0 l0.length l0) (hc0 : l0.length ≤ c0) (hr2 : Kd.C Kd.bool w A2 l2.length l2) (hc2 : l2.length ≤ c2) (y0 : l0.length ≤ maxLen) (q0 : ∀ y ∈ l0, Q26 y) (w1 : (Lit.int .i64 a1).wf = true) (y2 : l2.length ≤ maxLen) (q2 : ∀ y ∈ l2, True) :
    Calls Try.prog 3 #[.slice A0 l0.length c0, .int .i64 a1, .slice A2 l2.length c2] w fun e w' => e = .returned (.bool true) ∧ Below w.heap.size w w' := by
  obtain ⟨k, h⟩ := Pure.RainSums l0 a1 l2 y0 q0 w1 y2 q2
  refine (S.bournelaw26_RainSums.calls k A0 c0 l0 a1 A2 c2 l2 true w hr0 hc0 hr2 hc2 h ⟨rfl⟩).mono ?_
  rintro e w' ⟨rfl, hd⟩
  exact ⟨rfl, hd⟩
set_option maxRecDepth 100000 in
set_option maxHeartbeats 4000000 in
theorem lifted (os : Os) (started : os.Started) (H : Type) (enc : TypeId × Value → H) :
    ReturnsInHanded {} Try.checked os 3 .any (Rows.rainSumsSpec.pre6 enc Try.prog Try.f3 Rows.rainSumsRow.domain false) (Rows.rainSumsSpec.post enc Try.prog Try.f3 false true false false) := by
  refine returnsInHanded_of_change_sized (C := Try.checked) own started (by kernel_rfl) Try.func3
    (ChangeSpec.witness6 (enc := enc) (C := Try.checked) false ⟨#[], #[.slice none 0 0, .int .i64 0, .slice none 0 0], []⟩ 8 (by kernel_rfl) (by kernel_rfl) (by kernel_rfl) (by kernel_rfl)) ?_
  intro W base args ds gs before hval0 hW hcnd hsz0 _
  have hval : ∀ (j : Nat) t v, Try.f3.params[j]? = some t → args[j]? = some v → Value.okWide Try.prog W .any base t v := hval0
  have hW' := hW
  obtain ⟨p, q, hA0, hV, rfl, hfz, hnd⟩ := hW
  have hA : DataW.TrodAll enc Try.prog W 0 (fun _ => true) true Try.f3.params.toList args.toList ds p := hA0
  rw [Try.params3] at hA hval
  obtain ⟨v0, vs0, d0, ds0, p0, q0, hargs, rfl, rfl, h0, r0⟩ := trodAll_cons hA
  obtain ⟨v1, vs1, d1, ds1, p1, q1, rfl, rfl, rfl, h1, r1⟩ := trodAll_cons r0
  obtain ⟨v2, vs2, d2, ds2, p2, q2, rfl, rfl, rfl, h2, r2⟩ := trodAll_cons r1
  obtain ⟨rfl, rfl, rfl⟩ := trodAll_nil r2
  obtain rfl : args = #[v0, v1, v2] := by cases args; simp_all
  obtain ⟨rfl, rfl⟩ := trodVars_none hV
  obtain ⟨sa0, sn0, sc0, rfl⟩ := okWide_slice Try.underlying22 (hval 0 22 v0 rfl rfl)
  have k0 := h0
  have lt0 : ∀ x ∈ p0, x.block < W.heap.size := by obtain ⟨m, hm⟩ := k0; exact DataW.trod_lt m _ _ _ hm
  obtain ⟨l0, ⟨A0, c0, hcs0, hc0, hr0⟩, y0, q0⟩ := op22.open h0
  simp [Value.cells] at hcs0
  obtain ⟨rfl, rfl, rfl⟩ := hcs0
  obtain ⟨a1, rfl, rfl, rfl, w1⟩ := open_int Try.underlying3 (hval 1 3 v1 rfl rfl) h1
  obtain ⟨sa2, sn2, sc2, rfl⟩ := okWide_slice Try.underlying23 (hval 2 23 v2 rfl rfl)
  have k2 := h2
  have lt2 : ∀ x ∈ p2, x.block < W.heap.size := by obtain ⟨m, hm⟩ := k2; exact DataW.trod_lt m _ _ _ hm
  obtain ⟨l2, ⟨A2, c2, hcs2, hc2, hr2⟩, y2, q2⟩ := op23.open h2
  simp [Value.cells] at hcs2
  obtain ⟨rfl, rfl, rfl⟩ := hcs2
  clear hA0 hval0 hsz0
  refine (walk _ _ l0 a1 _ _ l2 W hr0 hc0 hr2 hc2 y0 q0 w1 y2 q2).mono fun e W' ⟨he, bel⟩ => ?_
  subst he
  exact ⟨_, rfl, _, _, _, [], _, [], hW', trodAll_mk1 (shut_bool Try.underlying4 _), (trodAll_cons_mk (Below.trod laidOut (by kernel_rfl) (of_decide_eq_true (by kernel_rfl)) k0 bel lt0) (trodAll_cons_mk (shut_int Try.underlying3 w1) (trodAll_cons_mk (Below.trod laidOut (by kernel_rfl) (of_decide_eq_true (by kernel_rfl)) k2 bel lt2) trodAll_mk0))), rfl, bel.frame _, fun h => by cases h⟩
theorem over : Rows.rainSumsRow.holds Try.pinned (OpenSpec.ofChange Rows.rainSumsSpec) :=
  OpenClaim.holds_of_wide 3 Try.f3 rfl rfl rfl rfl rfl rfl rfl ⟨rfl, rfl, rfl, rfl, rfl⟩ rfl rfl rfl rfl rfl (by kernel_rfl) Try.func3 (by kernel_rfl)
    (of_decide_eq_true (by kernel_rfl)) (by unfold Func.isWrapper; first | (rw [if_pos (by decide +kernel)]; kernel_rfl) | (rw [if_neg (by decide +kernel)]; exact ⟨rfl, rfl⟩))
    (fun os started H enc _ => lifted os started H enc)
theorem proved : Rows.RainSumsSaid := over
#print axioms proved
end Go.Proofs.Ytcdlielgifkemaa.rainSums
namespace Go.Proofs.Ytcdlielgifkemaa
/-- The row, under a short name, for the claim. -/
theorem rainSums_holds : Rows.RainSumsSaid := rainSums.proved
end Go.Proofs.Ytcdlielgifkemaa
