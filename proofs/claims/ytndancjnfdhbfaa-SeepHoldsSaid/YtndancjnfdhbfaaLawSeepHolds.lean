import Derived.Test.YtndancjnfdhbfaaHx1
import Derived.Test.YtndancjnfdhbfaaOr
import Derived.Test.YtndancjnfdhbfaaWf
import Derived.Test.YtndancjnfdhbfaaPu
import Derived.Test.YtndancjnfdhbfaaRows
import Derived.WalkKit
import Derived.ProofKit
import Derived.OpenShut
import Derived.ShutString
import Derived.ChangeOld
import Derived.Below
import Derived.SizedLaws
import Derived.Lib.SmallJoins
/- SeepHolds holds: a siphon whose Prime is greater than its Break is open at the end exactly if the last volume that is at least Prime or at most Break is at least Prime, or if there is none and it was open before. No conditions beyond the statement's own. -/
namespace Go.Proofs.Ytndancjnfdhbfaa.Pure
open Go.Proofs.Ytndancjnfdhbfaa.S
open Go.RowKit Go.Proofs.Ytndancjnfdhbfaa.H Go.Proofs.YtndancjnfdhbfaaW.PrintWords Go.Proofs.YtndancjnfdhbfaaW.PrintMore
set_option linter.unusedVariables false
theorem holds_j2 (k : Nat) (vs : List Int) (o : Bool) (i : Int) (nm : ByteArray) (fr tw : Int) (l4 l5 l6 : List S90) (a7 a8 a9 a10 n d p b bn bd dl : Int) :
    bournelaw20_SeepHolds.j2 (k + 2) vs true o i nm 3 fr tw l4 l5 l6 a7 a8 a9 a10 n d p b bn bd dl 1 2 false o = bournelaw20_SeepHolds.l0 k vs true o (wrap64 (i + 1)) nm 3 fr tw l4 l5 l6 a7 a8 a9 a10 n d p b bn bd dl 1 2 false o := by
  simp only [bournelaw20_SeepHolds.j2]
  rw [if_neg (by cases o <;> decide)]
  simp only [if_true, bournelaw20_SeepHolds.j3]
  rw [if_neg (by decide)]
theorem holds_loop (vs : List Int) (hl : vs.length ≤ maxLen) (nm : ByteArray) (fr tw : Int) (l4 l5 l6 : List S90) (a7 a8 a9 a10 n d p b bn bd dl : Int) (hpb : b < p) : ∀ (m k i : Nat) (o : Bool), i + m = vs.length → 4 * m < k →
    bournelaw20_SeepHolds.l0 k vs true o (i : Int) nm 3 fr tw l4 l5 l6 a7 a8 a9 a10 n d p b bn bd dl 1 2 false o = some true := by
  intro m
  induction m with
  | zero =>
    intro k i o hi hk
    obtain ⟨k, rfl⟩ : ∃ q, k = q + 1 := ⟨k - 1, by omega⟩
    simp only [bournelaw20_SeepHolds.l0]
    rw [if_neg (by omega)]
  | succ m ih =>
    intro k i o hi hk
    obtain ⟨k, rfl⟩ : ∃ q, k = q + 4 := ⟨k - 4, by omega⟩
    have hw : wrap64 ((i : Int) + 1) = ((i + 1 : Nat) : Int) := by unfold maxLen at hl; unfold wrap64; omega
    have hn : ∀ o', bournelaw20_SeepHolds.j2 (k + 2) vs true o' (i : Int) nm 3 fr tw l4 l5 l6 a7 a8 a9 a10 n d p b bn bd dl 1 2 false o' = some true := fun o' => by
      rw [holds_j2, hw]
      exact ih k (i + 1) o' (by omega) (by omega)
    obtain ⟨v, hv⟩ : ∃ v, rd vs (i : Int) = v := ⟨_, rfl⟩
    simp only [bournelaw20_SeepHolds.l0]
    rw [if_pos (by omega), if_pos (by omega), hv]
    unfold seep_Siphon.f
    simp only [Option.bind_some]
    have e : sipo 3 p b o v = (decide (p ≤ v) || (o && decide (b < v))) := by unfold sipo sph; rw [if_pos rfl]
    rw [e]
    by_cases h1 : p ≤ v
    · rw [if_pos h1, decide_eq_true h1, Bool.true_or]
      simp only [bournelaw20_SeepHolds.j1]
      rw [if_pos (by omega), if_pos (by omega), hv, if_neg (by omega)]
      exact hn true
    · rw [if_neg h1, decide_eq_false h1, Bool.false_or]
      simp only [bournelaw20_SeepHolds.j1]
      rw [if_pos (by omega), if_pos (by omega), hv]
      by_cases h2 : v ≤ b
      · rw [if_pos h2, decide_eq_false (show ¬ b < v by omega), Bool.and_false]; exact hn false
      · rw [if_neg h2, decide_eq_true (show b < v by omega), Bool.and_true]; exact hn o
theorem SeepHolds (a0_0 : ByteArray) (a0_1 : Int) (a0_2 : Int) (a0_3 : Int) (l0_4 : List (S90)) (l0_5 : List (S90)) (l0_6 : List (S90)) (a0_7 : Int) (a0_8 : Int) (a0_9 : Int) (a0_10 : Int) (a0_11 : Int) (a0_12 : Int) (a0_13 : Int) (a0_14 : Int) (a0_15 : Int) (a0_16 : Int) (a0_17 : Int) (a1 : Bool) (l2 : List (Int)) (z0_0 : a0_0.size ≤ maxLen) (w0_1 : (Lit.int .i64 a0_1).wf = true) (w0_2 : (Lit.int .i64 a0_2).wf = true) (w0_3 : (Lit.int .i64 a0_3).wf = true) (y0_4 : l0_4.length ≤ maxLen) (q0_4 : ∀ y ∈ l0_4, Q90 y) (y0_5 : l0_5.length ≤ maxLen) (q0_5 : ∀ y ∈ l0_5, Q90 y) (y0_6 : l0_6.length ≤ maxLen) (q0_6 : ∀ y ∈ l0_6, Q90 y) (w0_7 : (Lit.int .i64 a0_7).wf = true) (w0_8 : (Lit.int .i64 a0_8).wf = true) (w0_9 : (Lit.int .i64 a0_9).wf = true) (w0_10 : (Lit.int .i64 a0_10).wf = true) (w0_11 : (Lit.int .i64 a0_11).wf = true) (w0_12 : (Lit.int .i64 a0_12).wf = true) (w0_13 : (Lit.int .i64 a0_13).wf = true) (w0_14 : (Lit.int .i64 a0_14).wf = true) (w0_15 : (Lit.int .i64 a0_15).wf = true) (w0_16 : (Lit.int .i64 a0_16).wf = true) (w0_17 : (Lit.int .i64 a0_17).wf = true) (y2 : l2.length ≤ maxLen) (q2 : ∀ y ∈ l2, (Lit.int .i64 y).wf = true) :
    ∃ k, bournelaw20_SeepHolds.f k a0_0 a0_1 a0_2 a0_3 l0_4 l0_5 l0_6 a0_7 a0_8 a0_9 a0_10 a0_11 a0_12 a0_13 a0_14 a0_15 a0_16 a0_17 a1 l2 = some true := by
  refine ⟨4 * l2.length + 1, ?_⟩
  unfold bournelaw20_SeepHolds.f bournelaw20_small.f
  simp only [Option.bind_some]
  by_cases h : a0_13 ≤ a0_14
  · rw [if_pos h]
  · rw [if_neg h]
    exact holds_loop l2 y2 a0_0 a0_2 a0_3 l0_4 l0_5 l0_6 a0_7 a0_8 a0_9 a0_10 a0_11 a0_12 a0_13 a0_14 a0_15 a0_16 a0_17 (by omega) l2.length _ 0 a1 (by omega) (by omega)
end Go.Proofs.Ytndancjnfdhbfaa.Pure

-- Written by a program of this session (wip/tools/row3.py): the row of the law SeepHolds, out of its pure statement and its walk; Lean checks it.
namespace Go.Proofs.Ytndancjnfdhbfaa.seepHolds
open Go.ChangeShapes Go.WideShapes Go.ChangeAt Go.RowKit Go.Joins Go.Proofs.Ytndancjnfdhbfaa.S Go.Proofs.YtndancjnfdhbfaaW.PrintWords Go.Proofs.YtndancjnfdhbfaaW.PrintLast Go.Proofs.YtndancjnfdhbfaaW.PrintMore
open Go.ChangeMaps (open_string shut_string)
set_option linter.unusedVariables false
theorem own : ownKnob Try.prog.godebug = none := by kernel_rfl
theorem laidOut : laidOutB Try.prog = true := by kernel_rfl
theorem walk (a0_0 : ByteArray) (a0_1 : Int) (a0_2 : Int) (a0_3 : Int) (A0_4 : Option Addr) (c0_4 : Nat) (l0_4 : List (S90)) (A0_5 : Option Addr) (c0_5 : Nat) (l0_5 : List (S90)) (A0_6 : Option Addr) (c0_6 : Nat) (l0_6 : List (S90)) (a0_7 : Int) (a0_8 : Int) (a0_9 : Int) (a0_10 : Int) (a0_11 : Int) (a0_12 : Int) (a0_13 : Int) (a0_14 : Int) (a0_15 : Int) (a0_16 : Int) (a0_17 : Int) (a1 : Bool) (A2 : Option Addr) (c2 : Nat) (l2 : List (Int)) (w : World) (hr0_4 : Kd.C k90 w A0_4 l0_4.length l0_4) (hc0_4 : l0_4.length ≤ c0_4) (hr0_5 : Kd.C k90 w A0_5 l0_5.length l0_5) (hc0_5 : l0_5.length ≤ c0_5) (hr0_6 : Kd.C k90 w A0_6 l0_6.length l0_6) (hc0_6 : l0_6.length ≤ c0_6) (hr2 : Kd.C (Kd.int .i64) w A2 l2.length l2) (hc2 : l2.length ≤ c2) (z0_0 : a0_0.size ≤ maxLen) (w0_1 : (Lit.int .i64 a0_1).wf = true) (w0_2 : (Lit.int .i64 a0_2).wf = true) (w0_3 : (Lit.int .i64 a0_3).wf = true) (y0_4 : l0_4.length ≤ maxLen) (q0_4 : ∀ y ∈ l0_4, Q90 y) (y0_5 : l0_5.length ≤ maxLen) (q0_5 : ∀ y ∈ l0_5, Q90 y) (y0_6 : l0_6.length ≤ maxLen) (q0_6 : ∀ y ∈ l0_6, Q90 y) (w0_7 : (Lit.int .i64 a0_7).wf = true) (w0_8 : (Lit.int .i64 a0_8).wf = true) (w0_9 : (Lit.int .i64 a0_9).wf = true) (w0_10 : (Lit.int .i64 a0_10).wf = true) (w0_11 : (Lit.int .i64 a0_11).wf = true) (w0_12 : (Lit.int .i64 a0_12).wf = true) (w0_13 : (Lit.int .i64 a0_13).wf = true) (w0_14 : (Lit.int .i64 a0_14).wf = true) (w0_15 : (Lit.int .i64 a0_15).wf = true) (w0_16 : (Lit.int .i64 a0_16).wf = true) (w0_17 : (Lit.int .i64 a0_17).wf = true) (y2 : l2.length ≤ maxLen) (q2 : ∀ y ∈ l2, (Lit.int .i64 y).wf = true) :
    Calls Try.prog 5 #[.agg #[.string a0_0, .int .i64 a0_1, .int .i64 a0_2, .int .i64 a0_3, .slice A0_4 l0_4.length c0_4, .slice A0_5 l0_5.length c0_5, .slice A0_6 l0_6.length c0_6, .int .i64 a0_7, .int .i64 a0_8, .int .i64 a0_9, .int .i64 a0_10, .int .i64 a0_11, .int .i64 a0_12, .int .i64 a0_13, .int .i64 a0_14, .int .i64 a0_15, .int .i64 a0_16, .int .i64 a0_17], .bool a1, .slice A2 l2.length c2] w fun e w' => e = .returned (.bool true) ∧ Below w.heap.size w w' := by
  obtain ⟨k, h⟩ := Pure.SeepHolds a0_0 a0_1 a0_2 a0_3 l0_4 l0_5 l0_6 a0_7 a0_8 a0_9 a0_10 a0_11 a0_12 a0_13 a0_14 a0_15 a0_16 a0_17 a1 l2 z0_0 w0_1 w0_2 w0_3 y0_4 q0_4 y0_5 q0_5 y0_6 q0_6 w0_7 w0_8 w0_9 w0_10 w0_11 w0_12 w0_13 w0_14 w0_15 w0_16 w0_17 y2 q2
  refine (H.bournelaw20_SeepHolds.calls k a0_0 a0_1 a0_2 a0_3 A0_4 c0_4 l0_4 A0_5 c0_5 l0_5 A0_6 c0_6 l0_6 a0_7 a0_8 a0_9 a0_10 a0_11 a0_12 a0_13 a0_14 a0_15 a0_16 a0_17 a1 A2 c2 l2 true w hr0_4 hc0_4 hr0_5 hc0_5 hr0_6 hc0_6 hr2 hc2 h ⟨rfl⟩).mono ?_
  rintro e w' ⟨rfl, hd⟩
  exact ⟨rfl, hd⟩
set_option maxRecDepth 100000 in
set_option maxHeartbeats 4000000 in
theorem lifted (os : Os) (started : os.Started) (H : Type) (enc : TypeId × Value → H) :
    ReturnsInHanded {} Try.checked os 5 .any (Rows.seepHoldsSpec.pre6 enc Try.prog Try.f5 Rows.seepHoldsRow.domain false) (Rows.seepHoldsSpec.post enc Try.prog Try.f5 false true false false) := by
  refine returnsInHanded_of_change_sized (C := Try.checked) own started (by kernel_rfl) Try.func5
    (ChangeSpec.witness6 (enc := enc) (C := Try.checked) false ⟨#[], #[.agg #[.string ⟨#[]⟩, .int .i64 0, .int .i64 0, .int .i64 0, .slice none 0 0, .slice none 0 0, .slice none 0 0, .int .i64 0, .int .i64 0, .int .i64 0, .int .i64 0, .int .i64 0, .int .i64 0, .int .i64 0, .int .i64 0, .int .i64 0, .int .i64 0, .int .i64 0], .bool false, .slice none 0 0], []⟩ 8 (by kernel_rfl) (by kernel_rfl) (by kernel_rfl) (by kernel_rfl)) ?_
  intro W base args ds gs before hval0 hW hcnd hsz0 _
  have hval : ∀ (j : Nat) t v, Try.f5.params[j]? = some t → args[j]? = some v → Value.okWide Try.prog W .any base t v := hval0
  have hW' := hW
  obtain ⟨p, q, hA0, hV, rfl, hfz, hnd⟩ := hW
  have hA : DataW.TrodAll enc Try.prog W 0 (fun _ => true) true Try.f5.params.toList args.toList ds p := hA0
  rw [Try.params5] at hA hval
  obtain ⟨v0, vs0, d0, ds0, p0, q0, hargs, rfl, rfl, h0, r0⟩ := trodAll_cons hA
  obtain ⟨v1, vs1, d1, ds1, p1, q1, rfl, rfl, rfl, h1, r1⟩ := trodAll_cons r0
  obtain ⟨v2, vs2, d2, ds2, p2, q2, rfl, rfl, rfl, h2, r2⟩ := trodAll_cons r1
  obtain ⟨rfl, rfl, rfl⟩ := trodAll_nil r2
  obtain rfl : args = #[v0, v1, v2] := by cases args; simp_all
  obtain ⟨rfl, rfl⟩ := trodVars_none hV
  obtain ⟨cs0, rfl, sz0⟩ := okWide_struct Try.underlying26 (hval 0 26 v0 rfl rfl)
  have k0 := h0
  have lt0 : ∀ x ∈ p0, x.block < W.heap.size := by obtain ⟨m, hm⟩ := k0; exact DataW.trod_lt m _ _ _ hm
  obtain ⟨⟨a0_0, a0_1, a0_2, a0_3, l0_4, ⟨l0_5, l0_6⟩, a0_7, a0_8, a0_9, a0_10, a0_11, a0_12, a0_13, a0_14, a0_15, a0_16, a0_17⟩, hK0, hQ0⟩ := op26.open h0
  obtain ⟨_, _, E0, rfl, ⟨_, _, rfl, rfl, ⟨_, _, rfl, rfl, ⟨_, _, rfl, rfl, ⟨_, _, rfl, ⟨A0_4, c0_4, rfl, hc0_4, hr0_4⟩, ⟨_, _, rfl, ⟨_, _, rfl, ⟨A0_5, c0_5, rfl, hc0_5, hr0_5⟩, ⟨A0_6, c0_6, rfl, hc0_6, hr0_6⟩⟩, ⟨_, _, rfl, rfl, ⟨_, _, rfl, rfl, ⟨_, _, rfl, rfl, ⟨_, _, rfl, rfl, ⟨_, _, rfl, rfl, ⟨_, _, rfl, rfl, ⟨_, _, rfl, rfl, ⟨_, _, rfl, rfl, ⟨_, _, rfl, rfl, ⟨_, _, rfl, rfl, rfl⟩⟩⟩⟩⟩⟩⟩⟩⟩⟩⟩⟩⟩⟩⟩⟩ := hK0
  obtain ⟨z0_0, w0_1, w0_2, w0_3, ⟨y0_4, q0_4⟩, ⟨⟨y0_5, q0_5⟩, ⟨y0_6, q0_6⟩⟩, w0_7, w0_8, w0_9, w0_10, w0_11, w0_12, w0_13, w0_14, w0_15, w0_16, w0_17⟩ := hQ0
  obtain rfl : cs0 = #[.string a0_0, .int .i64 a0_1, .int .i64 a0_2, .int .i64 a0_3, .slice A0_4 l0_4.length c0_4, .slice A0_5 l0_5.length c0_5, .slice A0_6 l0_6.length c0_6, .int .i64 a0_7, .int .i64 a0_8, .int .i64 a0_9, .int .i64 a0_10, .int .i64 a0_11, .int .i64 a0_12, .int .i64 a0_13, .int .i64 a0_14, .int .i64 a0_15, .int .i64 a0_16, .int .i64 a0_17] := by apply Array.ext'; simpa [Value.cells] using E0
  obtain ⟨a1, rfl, rfl, rfl⟩ := open_bool Try.underlying4 (hval 1 4 v1 rfl rfl) h1
  obtain ⟨sa2, sn2, sc2, rfl⟩ := okWide_slice Try.underlying40 (hval 2 40 v2 rfl rfl)
  have k2 := h2
  have lt2 : ∀ x ∈ p2, x.block < W.heap.size := by obtain ⟨m, hm⟩ := k2; exact DataW.trod_lt m _ _ _ hm
  obtain ⟨l2, ⟨A2, c2, hcs2, hc2, hr2⟩, y2, q2⟩ := op40.open h2
  simp [Value.cells] at hcs2
  obtain ⟨rfl, rfl, rfl⟩ := hcs2
  clear hA0 hval0 hsz0
  refine (walk a0_0 a0_1 a0_2 a0_3 _ _ l0_4 _ _ l0_5 _ _ l0_6 a0_7 a0_8 a0_9 a0_10 a0_11 a0_12 a0_13 a0_14 a0_15 a0_16 a0_17 a1 _ _ l2 W hr0_4 hc0_4 hr0_5 hc0_5 hr0_6 hc0_6 hr2 hc2 z0_0 w0_1 w0_2 w0_3 y0_4 q0_4 y0_5 q0_5 y0_6 q0_6 w0_7 w0_8 w0_9 w0_10 w0_11 w0_12 w0_13 w0_14 w0_15 w0_16 w0_17 y2 q2).mono fun e W' ⟨he, bel⟩ => ?_
  subst he
  exact ⟨_, rfl, _, _, _, [], _, [], hW', trodAll_mk1 (shut_bool Try.underlying4 _), (trodAll_cons_mk (Below.trod laidOut (by kernel_rfl) (of_decide_eq_true (by kernel_rfl)) k0 bel lt0) (trodAll_cons_mk (shut_bool Try.underlying4 _) (trodAll_cons_mk (Below.trod laidOut (by kernel_rfl) (of_decide_eq_true (by kernel_rfl)) k2 bel lt2) trodAll_mk0))), rfl, bel.frame _, fun h => by cases h⟩
theorem over : Rows.seepHoldsRow.holds Try.pinned (OpenSpec.ofChange Rows.seepHoldsSpec) :=
  OpenClaim.holds_of_wide 5 Try.f5 rfl rfl rfl rfl rfl rfl rfl ⟨rfl, rfl, rfl, rfl, rfl⟩ rfl rfl rfl rfl rfl (by kernel_rfl) Try.func5 (by kernel_rfl)
    (of_decide_eq_true (by kernel_rfl)) (by unfold Func.isWrapper; first | (rw [if_pos (by decide +kernel)]; kernel_rfl) | (rw [if_neg (by decide +kernel)]; exact ⟨rfl, rfl⟩))
    (fun os started H enc _ => lifted os started H enc)
theorem proved : Rows.SeepHoldsSaid := over
#print axioms proved
end Go.Proofs.Ytndancjnfdhbfaa.seepHolds
namespace Go.Proofs.Ytndancjnfdhbfaa
/-- The row, under a short name, for the claim. -/
theorem seepHolds_holds : Rows.SeepHoldsSaid := seepHolds.proved
end Go.Proofs.Ytndancjnfdhbfaa
