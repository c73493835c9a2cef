import Derived.Test.YtndancjnfdhbfaaGx1
import Derived.Test.YtndancjnfdhbfaaOr
import Derived.Test.YtndancjnfdhbfaaWf
import Derived.Test.YtndancjnfdhbfaaPu
import Derived.Test.YtndancjnfdhbfaaRows
import Derived.WalkKit
import Derived.ProofKit
import Derived.OpenShut
import Derived.ShutString
import Derived.ChangeOld
import Derived.Below
import Derived.SizedLaws
import Derived.Lib.SmallJoins
/- SeepGrows holds: more water in From never means a smaller exchange, and more water in To never a greater one; spans that lie within others have bounds that do. No conditions beyond the statement's own. -/
namespace Go.Proofs.Ytndancjnfdhbfaa.Pure
open Go.Proofs.Ytndancjnfdhbfaa.S
open Go.RowKit Go.Proofs.Ytndancjnfdhbfaa.G Go.Proofs.YtndancjnfdhbfaaW.PrintWords Go.Proofs.YtndancjnfdhbfaaW.PrintMore
set_option linter.unusedVariables false
theorem grows_bad (k : Nat) (nm : ByteArray) (kd fr tw : Int) (l4 l5 l6 : List S90) (a7 a8 a9 a10 n d p b bn bd dl : Int) (u1 u2 v1 v2 z1 z2 : Int) : bournelaw20_SeepGrows.j0 (k + 1) true true nm kd fr tw l4 l5 l6 a7 a8 a9 a10 n d p b bn bd dl u1 u2 v1 v2 z1 z2 = some true := by
  simp only [bournelaw20_SeepGrows.j0, if_true]
theorem grows_ok (k : Nat) (nm : ByteArray) (kd fr tw : Int) (l4 l5 l6 : List S90) (a7 a8 a9 a10 n d p b bn bd dl : Int) (u1 u2 v1 v2 z1 z2 : Int) (hu : 0 ≤ u1 ∧ u1 ≤ u2 ∧ u2 ≤ 1125899906842624) (hv : 0 ≤ v1 ∧ v1 ≤ v2 ∧ v2 ≤ 1125899906842624) (hz : 0 ≤ z1 ∧ z1 ≤ z2 ∧ z2 ≤ 1125899906842624) (hn : n ≤ d) (hb : bn ≤ bd) :
    bournelaw20_SeepGrows.j0 (k + 2) true false nm kd fr tw l4 l5 l6 a7 a8 a9 a10 n d p b bn bd dl u1 u2 v1 v2 z1 z2 = some true := by
  obtain ⟨u0, u3, u4⟩ := hu
  obtain ⟨v0, v3, v4⟩ := hv
  obtain ⟨z0, z3, z4⟩ := hz
  have X : ∀ {x x' y y' : Int}, x ≤ x' → y' ≤ y → 0 ≤ x → x' ≤ 1125899906842624 → 0 ≤ y' → y ≤ 1125899906842624 → xchg kd n d bn bd x y ≤ xchg kd n d bn bd x' y' := fun h1 h2 h3 h4 h5 h6 => xchg_mono h1 h2 h3 h4 h5 h6 hn hb
  simp only [bournelaw20_SeepGrows.j0, Bool.false_eq_true, if_false]
  unfold seep_Ask.f
  simp only [Option.bind_some]
  have x1 := X u3 (Int.le_refl v1) u0 u4 v0 (by omega)
  have x2 := X (Int.le_refl u1) v3 u0 (by omega) v0 v4
  rw [if_neg (by omega), decide_eq_false (by omega)]
  simp only [bournelaw20_SeepGrows.j1, Bool.false_eq_true, if_false]
  unfold span_Meet.f
  simp only [Option.bind_some]
  by_cases hm : mx u1 z1 ≤ mn u2 z2
  · have e : meet u1 u2 z1 z2 = (mx u1 z1, mn u2 z2, true) := by unfold meet; rw [if_pos hm]
    have m1 : u1 ≤ mx u1 z1 ∧ z1 ≤ mx u1 z1 := by unfold mx; split <;> omega
    have m2 : mn u2 z2 ≤ u2 ∧ mn u2 z2 ≤ z2 := by unfold mn; split <;> omega
    rw [e, if_pos rfl, if_pos trivial]
    unfold seep_Bounds.f span_Within.f
    simp only [Option.bind_some]
    have y1 := X m1.1 (Int.le_refl v2) u0 (by omega) (by omega) v4
    have y2 := X m2.1 (Int.le_refl v1) (by omega) u4 v0 (by omega)
    have y3 := X (Int.le_refl v1) m2.2 v0 (by omega) (by omega) z4
    have y4 := X (Int.le_refl v2) m1.2 (by omega) v4 z0 (by omega)
    rw [decide_eq_true ⟨y1, y2⟩, if_pos rfl, decide_eq_true ⟨y3, y4⟩]
  · have e : meet u1 u2 z1 z2 = (0, 0, false) := by unfold meet; rw [if_neg hm]
    rw [e, if_neg (by decide)]
theorem SeepGrows (a0_0 : ByteArray) (a0_1 : Int) (a0_2 : Int) (a0_3 : Int) (l0_4 : List (S90)) (l0_5 : List (S90)) (l0_6 : List (S90)) (a0_7 : Int) (a0_8 : Int) (a0_9 : Int) (a0_10 : Int) (a0_11 : Int) (a0_12 : Int) (a0_13 : Int) (a0_14 : Int) (a0_15 : Int) (a0_16 : Int) (a0_17 : Int) (a1_0 : Int) (a1_1 : Int) (a2_0 : Int) (a2_1 : Int) (a3_0 : Int) (a3_1 : Int) (z0_0 : a0_0.size ≤ maxLen) (w0_1 : (Lit.int .i64 a0_1).wf = true) (w0_2 : (Lit.int .i64 a0_2).wf = true) (w0_3 : (Lit.int .i64 a0_3).wf = true) (y0_4 : l0_4.length ≤ maxLen) (q0_4 : ∀ y ∈ l0_4, Q90 y) (y0_5 : l0_5.length ≤ maxLen) (q0_5 : ∀ y ∈ l0_5, Q90 y) (y0_6 : l0_6.length ≤ maxLen) (q0_6 : ∀ y ∈ l0_6, Q90 y) (w0_7 : (Lit.int .i64 a0_7).wf = true) (w0_8 : (Lit.int .i64 a0_8).wf = true) (w0_9 : (Lit.int .i64 a0_9).wf = true) (w0_10 : (Lit.int .i64 a0_10).wf = true) (w0_11 : (Lit.int .i64 a0_11).wf = true) (w0_12 : (Lit.int .i64 a0_12).wf = true) (w0_13 : (Lit.int .i64 a0_13).wf = true) (w0_14 : (Lit.int .i64 a0_14).wf = true) (w0_15 : (Lit.int .i64 a0_15).wf = true) (w0_16 : (Lit.int .i64 a0_16).wf = true) (w0_17 : (Lit.int .i64 a0_17).wf = true) (w1_0 : (Lit.int .i64 a1_0).wf = true) (w1_1 : (Lit.int .i64 a1_1).wf = true) (w2_0 : (Lit.int .i64 a2_0).wf = true) (w2_1 : (Lit.int .i64 a2_1).wf = true) (w3_0 : (Lit.int .i64 a3_0).wf = true) (w3_1 : (Lit.int .i64 a3_1).wf = true) :
    ∃ k, bournelaw20_SeepGrows.f k a0_0 a0_1 a0_2 a0_3 l0_4 l0_5 l0_6 a0_7 a0_8 a0_9 a0_10 a0_11 a0_12 a0_13 a0_14 a0_15 a0_16 a0_17 a1_0 a1_1 a2_0 a2_1 a3_0 a3_1 = some true := by
  refine ⟨2, ?_⟩
  unfold bournelaw20_SeepGrows.f bournelaw20_small.f bournelaw20_within.f
  simp only [Option.bind_some, decide_eq_true_eq]
  (repeat' split) <;> (try exact grows_bad 1 _ _ _ _ _ _ _ _ _ _ _ _ _ _ _ _ _ _ _ _ _ _ _ _)
  by_cases h : a0_16 > 1125899906842624
  · rw [decide_eq_true h]; exact grows_bad 1 _ _ _ _ _ _ _ _ _ _ _ _ _ _ _ _ _ _ _ _ _ _ _ _
  · rw [decide_eq_false h]
    exact grows_ok 0 _ _ _ _ _ _ _ _ _ _ _ _ _ _ _ _ _ _ _ _ _ _ _ _ (by assumption) (by assumption) (by assumption) (by omega) (by omega)
end Go.Proofs.Ytndancjnfdhbfaa.Pure

-- Written by a program of this session (wip/tools/row3.py): the row of the law SeepGrows, out of its pure statement and its walk; Lean checks it.
namespace Go.Proofs.Ytndancjnfdhbfaa.seepGrows
open Go.ChangeShapes Go.WideShapes Go.ChangeAt Go.RowKit Go.Joins Go.Proofs.Ytndancjnfdhbfaa.S Go.Proofs.YtndancjnfdhbfaaW.PrintWords Go.Proofs.YtndancjnfdhbfaaW.PrintLast Go.Proofs.YtndancjnfdhbfaaW.PrintMore
open Go.ChangeMaps (open_string shut_string)
set_option linter.unusedVariables false
theorem own : ownKnob Try.prog.godebug = none := by kernel_rfl
theorem laidOut : laidOutB Try.prog = true := by kernel_rfl
theorem walk (a0_0 : ByteArray) (a0_1 : Int) (a0_2 : Int) (a0_3 : Int) (A0_4 : Option Addr) (c0_4 : Nat) (l0_4 : List (S90)) (A0_5 : Option Addr) (c0_5 : Nat) (l0_5 : List (S90)) (A0_6 : Option Addr) (c0_6 : Nat) (l0_6 : List (S90)) (a0_7 : Int) (a0_8 : Int) (a0_9 : Int) (a0_10 : Int) (a0_11 : Int) (a0_12 : Int) (a0_13 : Int) (a0_14 : Int) (a0_15 : Int) (a0_16 : Int) (a0_17 : Int) (a1_0 : Int) (a1_1 : Int) (a2_0 : Int) (a2_1 : Int) (a3_0 : Int) (a3_1 : Int) (w : World) (hr0_4 : Kd.C k90 w A0_4 l0_4.length l0_4) (hc0_4 : l0_4.length ≤ c0_4) (hr0_5 : Kd.C k90 w A0_5 l0_5.length l0_5) (hc0_5 : l0_5.length ≤ c0_5) (hr0_6 : Kd.C k90 w A0_6 l0_6.length l0_6) (hc0_6 : l0_6.length ≤ c0_6) (z0_0 : a0_0.size ≤ maxLen) (w0_1 : (Lit.int .i64 a0_1).wf = true) (w0_2 : (Lit.int .i64 a0_2).wf = true) (w0_3 : (Lit.int .i64 a0_3).wf = true) (y0_4 : l0_4.length ≤ maxLen) (q0_4 : ∀ y ∈ l0_4, Q90 y) (y0_5 : l0_5.length ≤ maxLen) (q0_5 : ∀ y ∈ l0_5, Q90 y) (y0_6 : l0_6.length ≤ maxLen) (q0_6 : ∀ y ∈ l0_6, Q90 y) (w0_7 : (Lit.int .i64 a0_7).wf = true) (w0_8 : (Lit.int .i64 a0_8).wf = true) (w0_9 : (Lit.int .i64 a0_9).wf = true) (w0_10 : (Lit.int .i64 a0_10).wf = true) (w0_11 : (Lit.int .i64 a0_11).wf = true) (w0_12 : (Lit.int .i64 a0_12).wf = true) (w0_13 : (Lit.int .i64 a0_13).wf = true) (w0_14 : (Lit.int .i64 a0_14).wf = true) (w0_15 : (Lit.int .i64 a0_15).wf = true) (w0_16 : (Lit.int .i64 a0_16).wf = true) (w0_17 : (Lit.int .i64 a0_17).wf = true) (w1_0 : (Lit.int .i64 a1_0).wf = true) (w1_1 : (Lit.int .i64 a1_1).wf = true) (w2_0 : (Lit.int .i64 a2_0).wf = true) (w2_1 : (Lit.int .i64 a2_1).wf = true) (w3_0 : (Lit.int .i64 a3_0).wf = true) (w3_1 : (Lit.int .i64 a3_1).wf = true) :
    Calls Try.prog 6 #[.agg #[.string a0_0, .int .i64 a0_1, .int .i64 a0_2, .int .i64 a0_3, .slice A0_4 l0_4.length c0_4, .slice A0_5 l0_5.length c0_5, .slice A0_6 l0_6.length c0_6, .int .i64 a0_7, .int .i64 a0_8, .int .i64 a0_9, .int .i64 a0_10, .int .i64 a0_11, .int .i64 a0_12, .int .i64 a0_13, .int .i64 a0_14, .int .i64 a0_15, .int .i64 a0_16, .int .i64 a0_17], .agg #[.int .i64 a1_0, .int .i64 a1_1], .agg #[.int .i64 a2_0, .int .i64 a2_1], .agg #[.int .i64 a3_0, .int .i64 a3_1]] w fun e w' => e = .returned (.bool true) ∧ Below w.heap.size w w' := by
  obtain ⟨k, h⟩ := Pure.SeepGrows a0_0 a0_1 a0_2 a0_3 l0_4 l0_5 l0_6 a0_7 a0_8 a0_9 a0_10 a0_11 a0_12 a0_13 a0_14 a0_15 a0_16 a0_17 a1_0 a1_1 a2_0 a2_1 a3_0 a3_1 z0_0 w0_1 w0_2 w0_3 y0_4 q0_4 y0_5 q0_5 y0_6 q0_6 w0_7 w0_8 w0_9 w0_10 w0_11 w0_12 w0_13 w0_14 w0_15 w0_16 w0_17 w1_0 w1_1 w2_0 w2_1 w3_0 w3_1
  refine (G.bournelaw20_SeepGrows.calls k a0_0 a0_1 a0_2 a0_3 A0_4 c0_4 l0_4 A0_5 c0_5 l0_5 A0_6 c0_6 l0_6 a0_7 a0_8 a0_9 a0_10 a0_11 a0_12 a0_13 a0_14 a0_15 a0_16 a0_17 a1_0 a1_1 a2_0 a2_1 a3_0 a3_1 true w hr0_4 hc0_4 hr0_5 hc0_5 hr0_6 hc0_6 h ⟨rfl⟩).mono ?_
  rintro e w' ⟨rfl, hd⟩
  exact ⟨rfl, hd⟩
set_option maxRecDepth 100000 in
set_option maxHeartbeats 4000000 in
theorem lifted (os : Os) (started : os.Started) (H : Type) (enc : TypeId × Value → H) :
    ReturnsInHanded {} Try.checked os 6 .any (Rows.seepGrowsSpec.pre6 enc Try.prog Try.f6 Rows.seepGrowsRow.domain false) (Rows.seepGrowsSpec.post enc Try.prog Try.f6 false true false false) := by
  refine returnsInHanded_of_change_sized (C := Try.checked) own started (by kernel_rfl) Try.func6
    (ChangeSpec.witness6 (enc := enc) (C := Try.checked) false ⟨#[], #[.agg #[.string ⟨#[]⟩, .int .i64 0, .int .i64 0, .int .i64 0, .slice none 0 0, .slice none 0 0, .slice none 0 0, .int .i64 0, .int .i64 0, .int .i64 0, .int .i64 0, .int .i64 0, .int .i64 0, .int .i64 0, .int .i64 0, .int .i64 0, .int .i64 0, .int .i64 0], .agg #[.int .i64 0, .int .i64 0], .agg #[.int .i64 0, .int .i64 0], .agg #[.int .i64 0, .int .i64 0]], []⟩ 8 (by kernel_rfl) (by kernel_rfl) (by kernel_rfl) (by kernel_rfl)) ?_
  intro W base args ds gs before hval0 hW hcnd hsz0 _
  have hval : ∀ (j : Nat) t v, Try.f6.params[j]? = some t → args[j]? = some v → Value.okWide Try.prog W .any base t v := hval0
  have hW' := hW
  obtain ⟨p, q, hA0, hV, rfl, hfz, hnd⟩ := hW
  have hA : DataW.TrodAll enc Try.prog W 0 (fun _ => true) true Try.f6.params.toList args.toList ds p := hA0
  rw [Try.params6] at hA hval
  obtain ⟨v0, vs0, d0, ds0, p0, q0, hargs, rfl, rfl, h0, r0⟩ := trodAll_cons hA
  obtain ⟨v1, vs1, d1, ds1, p1, q1, rfl, rfl, rfl, h1, r1⟩ := trodAll_cons r0
  obtain ⟨v2, vs2, d2, ds2, p2, q2, rfl, rfl, rfl, h2, r2⟩ := trodAll_cons r1
  obtain ⟨v3, vs3, d3, ds3, p3, q3, rfl, rfl, rfl, h3, r3⟩ := trodAll_cons r2
  obtain ⟨rfl, rfl, rfl⟩ := trodAll_nil r3
  obtain rfl : args = #[v0, v1, v2, v3] := by cases args; simp_all
  obtain ⟨rfl, rfl⟩ := trodVars_none hV
  obtain ⟨cs0, rfl, sz0⟩ := okWide_struct Try.underlying26 (hval 0 26 v0 rfl rfl)
  have k0 := h0
  have lt0 : ∀ x ∈ p0, x.block < W.heap.size := by obtain ⟨m, hm⟩ := k0; exact DataW.trod_lt m _ _ _ hm
  obtain ⟨⟨a0_0, a0_1, a0_2, a0_3, l0_4, ⟨l0_5, l0_6⟩, a0_7, a0_8, a0_9, a0_10, a0_11, a0_12, a0_13, a0_14, a0_15, a0_16, a0_17⟩, hK0, hQ0⟩ := op26.open h0
  obtain ⟨_, _, E0, rfl, ⟨_, _, rfl, rfl, ⟨_, _, rfl, rfl, ⟨_, _, rfl, rfl, ⟨_, _, rfl, ⟨A0_4, c0_4, rfl, hc0_4, hr0_4⟩, ⟨_, _, rfl, ⟨_, _, rfl, ⟨A0_5, c0_5, rfl, hc0_5, hr0_5⟩, ⟨A0_6, c0_6, rfl, hc0_6, hr0_6⟩⟩, ⟨_, _, rfl, rfl, ⟨_, _, rfl, rfl, ⟨_, _, rfl, rfl, ⟨_, _, rfl, rfl, ⟨_, _, rfl, rfl, ⟨_, _, rfl, rfl, ⟨_, _, rfl, rfl, ⟨_, _, rfl, rfl, ⟨_, _, rfl, rfl, ⟨_, _, rfl, rfl, rfl⟩⟩⟩⟩⟩⟩⟩⟩⟩⟩⟩⟩⟩⟩⟩⟩ := hK0
  obtain ⟨z0_0, w0_1, w0_2, w0_3, ⟨y0_4, q0_4⟩, ⟨⟨y0_5, q0_5⟩, ⟨y0_6, q0_6⟩⟩, w0_7, w0_8, w0_9, w0_10, w0_11, w0_12, w0_13, w0_14, w0_15, w0_16, w0_17⟩ := hQ0
  obtain rfl : cs0 = #[.string a0_0, .int .i64 a0_1, .int .i64 a0_2, .int .i64 a0_3, .slice A0_4 l0_4.length c0_4, .slice A0_5 l0_5.length c0_5, .slice A0_6 l0_6.length c0_6, .int .i64 a0_7, .int .i64 a0_8, .int .i64 a0_9, .int .i64 a0_10, .int .i64 a0_11, .int .i64 a0_12, .int .i64 a0_13, .int .i64 a0_14, .int .i64 a0_15, .int .i64 a0_16, .int .i64 a0_17] := by apply Array.ext'; simpa [Value.cells] using E0
  obtain ⟨cs1, rfl, sz1⟩ := okWide_struct Try.underlying30 (hval 1 30 v1 rfl rfl)
  have k1 := h1
  have lt1 : ∀ x ∈ p1, x.block < W.heap.size := by obtain ⟨m, hm⟩ := k1; exact DataW.trod_lt m _ _ _ hm
  obtain ⟨⟨a1_0, a1_1⟩, hK1, hQ1⟩ := op30.open h1
  obtain ⟨_, _, E1, rfl, rfl⟩ := hK1
  obtain ⟨w1_0, w1_1⟩ := hQ1
  obtain rfl : cs1 = #[.int .i64 a1_0, .int .i64 a1_1] := by apply Array.ext'; simpa [Value.cells] using E1
  obtain ⟨cs2, rfl, sz2⟩ := okWide_struct Try.underlying30 (hval 2 30 v2 rfl rfl)
  have k2 := h2
  have lt2 : ∀ x ∈ p2, x.block < W.heap.size := by obtain ⟨m, hm⟩ := k2; exact DataW.trod_lt m _ _ _ hm
  obtain ⟨⟨a2_0, a2_1⟩, hK2, hQ2⟩ := op30.open h2
  obtain ⟨_, _, E2, rfl, rfl⟩ := hK2
  obtain ⟨w2_0, w2_1⟩ := hQ2
  obtain rfl : cs2 = #[.int .i64 a2_0, .int .i64 a2_1] := by apply Array.ext'; simpa [Value.cells] using E2
  obtain ⟨cs3, rfl, sz3⟩ := okWide_struct Try.underlying30 (hval 3 30 v3 rfl rfl)
  have k3 := h3
  have lt3 : ∀ x ∈ p3, x.block < W.heap.size := by obtain ⟨m, hm⟩ := k3; exact DataW.trod_lt m _ _ _ hm
  obtain ⟨⟨a3_0, a3_1⟩, hK3, hQ3⟩ := op30.open h3
  obtain ⟨_, _, E3, rfl, rfl⟩ := hK3
  obtain ⟨w3_0, w3_1⟩ := hQ3
  obtain rfl : cs3 = #[.int .i64 a3_0, .int .i64 a3_1] := by apply Array.ext'; simpa [Value.cells] using E3
  clear hA0 hval0 hsz0
  refine (walk a0_0 a0_1 a0_2 a0_3 _ _ l0_4 _ _ l0_5 _ _ l0_6 a0_7 a0_8 a0_9 a0_10 a0_11 a0_12 a0_13 a0_14 a0_15 a0_16 a0_17 a1_0 a1_1 a2_0 a2_1 a3_0 a3_1 W hr0_4 hc0_4 hr0_5 hc0_5 hr0_6 hc0_6 z0_0 w0_1 w0_2 w0_3 y0_4 q0_4 y0_5 q0_5 y0_6 q0_6 w0_7 w0_8 w0_9 w0_10 w0_11 w0_12 w0_13 w0_14 w0_15 w0_16 w0_17 w1_0 w1_1 w2_0 w2_1 w3_0 w3_1).mono fun e W' ⟨he, bel⟩ => ?_
  subst he
  exact ⟨_, rfl, _, _, _, [], _, [], hW', trodAll_mk1 (shut_bool Try.underlying4 _), (trodAll_cons_mk (Below.trod laidOut (by kernel_rfl) (of_decide_eq_true (by kernel_rfl)) k0 bel lt0) (trodAll_cons_mk (Below.trod laidOut (by kernel_rfl) (of_decide_eq_true (by kernel_rfl)) k1 bel lt1) (trodAll_cons_mk (Below.trod laidOut (by kernel_rfl) (of_decide_eq_true (by kernel_rfl)) k2 bel lt2) (trodAll_cons_mk (Below.trod laidOut (by kernel_rfl) (of_decide_eq_true (by kernel_rfl)) k3 bel lt3) trodAll_mk0)))), rfl, bel.frame _, fun h => by cases h⟩
theorem over : Rows.seepGrowsRow.holds Try.pinned (OpenSpec.ofChange Rows.seepGrowsSpec) :=
  OpenClaim.holds_of_wide 6 Try.f6 rfl rfl rfl rfl rfl rfl rfl ⟨rfl, rfl, rfl, rfl, rfl⟩ rfl rfl rfl rfl rfl (by kernel_rfl) Try.func6 (by kernel_rfl)
    (of_decide_eq_true (by kernel_rfl)) (by unfold Func.isWrapper; first | (rw [if_pos (by decide +kernel)]; kernel_rfl) | (rw [if_neg (by decide +kernel)]; exact ⟨rfl, rfl⟩))
    (fun os started H enc _ => lifted os started H enc)
theorem proved : Rows.SeepGrowsSaid := over
#print axioms proved
end Go.Proofs.Ytndancjnfdhbfaa.seepGrows
namespace Go.Proofs.Ytndancjnfdhbfaa
/-- The row, under a short name, for the claim. -/
theorem seepGrows_holds : Rows.SeepGrowsSaid := seepGrows.proved
end Go.Proofs.Ytndancjnfdhbfaa
