import Derived.Test.YtndancjnfdhbfaaIx2
import Derived.Test.YtndancjnfdhbfaaOr
import Derived.Test.YtndancjnfdhbfaaWf
import Derived.Test.YtndancjnfdhbfaaPu
import Derived.Test.YtndancjnfdhbfaaRows
import Derived.WalkKit
import Derived.ProofKit
import Derived.OpenShut
import Derived.ShutString
import Derived.ChangeOld
import Derived.Below
import Derived.SizedLaws
import Derived.Lib.SmallJoins
/- SeepEncloses holds: the exchange lies within the bounds, both ends of the bounds occur, and the state of a siphon after the step lies within what is known, if the one before did. No conditions beyond the statement's own. -/
namespace Go.Proofs.Ytndancjnfdhbfaa.Pure
open Go.Proofs.Ytndancjnfdhbfaa.S
open Go.RowKit Go.Proofs.Ytndancjnfdhbfaa.I Go.Proofs.YtndancjnfdhbfaaW.PrintWords Go.Proofs.YtndancjnfdhbfaaW.PrintMore
set_option linter.unusedVariables false
theorem enc_bad (k : Nat) (x y : Int) (op : Bool) (nm : ByteArray) (kd fr tw : Int) (l4 l5 l6 : List S90) (a7 a8 a9 a10 n d p b bn bd dl : Int) (u1 u2 v1 v2 q0 q1 t k0 k1 : Int) : bournelaw20_SeepEncloses.j0 (k + 1) x y op true true nm kd fr tw l4 l5 l6 a7 a8 a9 a10 n d p b bn bd dl u1 u2 v1 v2 q0 q1 t k0 k1 = some true := by
  simp only [bournelaw20_SeepEncloses.j0, if_true]
theorem enc_j3 (k : Nat) (x : Int) (o : Bool) (nm : ByteArray) (kd fr tw : Int) (l4 l5 l6 : List S90) (a7 a8 a9 a10 n d p b bn bd dl : Int) (u1 u2 q0 q1 t k0 k1 : Int) (ip : I64 p) (ib : I64 b) (hx : u1 ≤ x ∧ x ≤ u2) (hk : k0 ≤ nn o ∧ nn o ≤ k1) :
    bournelaw20_SeepEncloses.j3 (k + 2) x o true (kd != 3) nm kd fr tw l4 l5 l6 a7 a8 a9 a10 n d p b bn bd dl u1 u2 q0 q1 t k0 k1 = some true := by
  simp only [bournelaw20_SeepEncloses.j3]
  by_cases h3 : kd = 3
  · subst h3
    rw [if_neg (by decide)]
    unfold seep_Siphon.f
    simp only [Option.bind_some]
    have e : sipo 3 p b o x = sph p b x o := by unfold sipo; rw [if_pos rfl]
    have m := may_has (p := p) (b := b) hx.1 hx.2 hk.1 hk.2
    have em : mays 3 u1 u2 p b k0 k1 = may u1 u2 p b k0 k1 := by unfold mays; rw [if_pos rfl]
    have j4 : bournelaw20_SeepEncloses.j4 (k + 1) true (nn (sph p b x o)) nm 3 fr tw l4 l5 l6 a7 a8 a9 a10 n d p b bn bd dl u1 u2 q0 q1 t k0 k1 = some true := by
      simp only [bournelaw20_SeepEncloses.j4]
      unfold seep_Maybe.f span_Has.f
      rw [if_pos ⟨ip, ib⟩, em]
      simp only [Option.bind_some, if_true]
      rw [decide_eq_true ⟨m.1, m.2.1⟩, if_pos rfl, if_pos m.2.2.1, if_pos m.2.2.2]
      simp
    rw [e]
    cases hs : sph p b x o with
    | true => rw [hs] at j4; rw [if_pos rfl]; exact j4
    | false => rw [hs] at j4; rw [if_neg (by decide)]; exact j4
  · rw [if_pos (by simpa using h3)]
theorem enc_ok (k : Nat) (x y : Int) (o : Bool) (nm : ByteArray) (kd fr tw : Int) (l4 l5 l6 : List S90) (a7 a8 a9 a10 n d p b bn bd dl : Int) (u1 u2 v1 v2 q0 q1 t k0 k1 : Int) (hu : 0 ≤ u1 ∧ u1 ≤ u2 ∧ u2 ≤ 1125899906842624) (hv : 0 ≤ v1 ∧ v1 ≤ v2 ∧ v2 ≤ 1125899906842624) (hn : n ≤ d) (hb : bn ≤ bd) (ip : I64 p) (ib : I64 b) :
    bournelaw20_SeepEncloses.j0 (k + 5) x y o true false nm kd fr tw l4 l5 l6 a7 a8 a9 a10 n d p b bn bd dl u1 u2 v1 v2 q0 q1 t k0 k1 = some true := by
  obtain ⟨u0, u3, u4⟩ := hu
  obtain ⟨v0, v3, v4⟩ := hv
  have X : ∀ {x x' y y' : Int}, x ≤ x' → y' ≤ y → 0 ≤ x → x' ≤ 1125899906842624 → 0 ≤ y' → y ≤ 1125899906842624 → xchg kd n d bn bd x y ≤ xchg kd n d bn bd x' y' := fun h1 h2 h3 h4 h5 h6 => xchg_mono h1 h2 h3 h4 h5 h6 hn hb
  simp only [bournelaw20_SeepEncloses.j0, Bool.false_eq_true, if_false]
  unfold bournelaw20_inside.f
  simp only [Option.bind_some]
  have cx := clamp_in (n := x) u3
  have cy := clamp_in (n := y) v3
  generalize (if x < u1 then u1 else if x > u2 then u2 else x) = x' at *
  generalize (if y < v1 then v1 else if y > v2 then v2 else y) = y' at *
  unfold seep_Bounds.f seep_Ask.f span_Has.f
  simp only [Option.bind_some]
  have x1 := X cx.1 cy.2 u0 (by omega) (by omega) v4
  have x2 := X cx.2 cy.1 (by omega) u4 v0 (by omega)
  rw [decide_eq_true ⟨x1, x2⟩, if_pos rfl, if_pos trivial, bne_self_eq_false]
  have j2 : bournelaw20_SeepEncloses.j2 (k + 3) x' o true (nn o) nm kd fr tw l4 l5 l6 a7 a8 a9 a10 n d p b bn bd dl u1 u2 q0 q1 t k0 k1 = some true := by
    simp only [bournelaw20_SeepEncloses.j2]
    unfold span_Has.f
    simp only [Option.bind_some]
    by_cases hk : k0 ≤ nn o ∧ nn o ≤ k1
    · rw [decide_eq_true hk, if_pos rfl]
      exact enc_j3 k x' o nm kd fr tw l4 l5 l6 a7 a8 a9 a10 n d p b bn bd dl u1 u2 q0 q1 t k0 k1 ip ib cx hk
    · rw [decide_eq_false hk, if_neg (by decide)]
      simp only [bournelaw20_SeepEncloses.j3, if_true]
  simp only [bournelaw20_SeepEncloses.j1, Bool.false_eq_true, if_false]
  cases o with
  | true => rw [if_pos rfl]; exact j2
  | false => rw [if_neg (by decide)]; exact j2
theorem SeepEncloses (a0_0 : ByteArray) (a0_1 : Int) (a0_2 : Int) (a0_3 : Int) (l0_4 : List (S90)) (l0_5 : List (S90)) (l0_6 : List (S90)) (a0_7 : Int) (a0_8 : Int) (a0_9 : Int) (a0_10 : Int) (a0_11 : Int) (a0_12 : Int) (a0_13 : Int) (a0_14 : Int) (a0_15 : Int) (a0_16 : Int) (a0_17 : Int) (a1_0 : Int) (a1_1 : Int) (a2_0 : Int) (a2_1 : Int) (a3 : Int) (a4 : Int) (a5_0 : Int) (a5_1 : Int) (a5_2 : Int) (a5_3 : Int) (a5_4 : Int) (a6 : Bool) (z0_0 : a0_0.size ≤ maxLen) (w0_1 : (Lit.int .i64 a0_1).wf = true) (w0_2 : (Lit.int .i64 a0_2).wf = true) (w0_3 : (Lit.int .i64 a0_3).wf = true) (y0_4 : l0_4.length ≤ maxLen) (q0_4 : ∀ y ∈ l0_4, Q90 y) (y0_5 : l0_5.length ≤ maxLen) (q0_5 : ∀ y ∈ l0_5, Q90 y) (y0_6 : l0_6.length ≤ maxLen) (q0_6 : ∀ y ∈ l0_6, Q90 y) (w0_7 : (Lit.int .i64 a0_7).wf = true) (w0_8 : (Lit.int .i64 a0_8).wf = true) (w0_9 : (Lit.int .i64 a0_9).wf = true) (w0_10 : (Lit.int .i64 a0_10).wf = true) (w0_11 : (Lit.int .i64 a0_11).wf = true) (w0_12 : (Lit.int .i64 a0_12).wf = true) (w0_13 : (Lit.int .i64 a0_13).wf = true) (w0_14 : (Lit.int .i64 a0_14).wf = true) (w0_15 : (Lit.int .i64 a0_15).wf = true) (w0_16 : (Lit.int .i64 a0_16).wf = true) (w0_17 : (Lit.int .i64 a0_17).wf = true) (w1_0 : (Lit.int .i64 a1_0).wf = true) (w1_1 : (Lit.int .i64 a1_1).wf = true) (w2_0 : (Lit.int .i64 a2_0).wf = true) (w2_1 : (Lit.int .i64 a2_1).wf = true) (w3 : (Lit.int .i64 a3).wf = true) (w4 : (Lit.int .i64 a4).wf = true) (w5_0 : (Lit.int .i64 a5_0).wf = true) (w5_1 : (Lit.int .i64 a5_1).wf = true) (w5_2 : (Lit.int .i64 a5_2).wf = true) (w5_3 : (Lit.int .i64 a5_3).wf = true) (w5_4 : (Lit.int .i64 a5_4).wf = true) :
    ∃ k, bournelaw20_SeepEncloses.f k a0_0 a0_1 a0_2 a0_3 l0_4 l0_5 l0_6 a0_7 a0_8 a0_9 a0_10 a0_11 a0_12 a0_13 a0_14 a0_15 a0_16 a0_17 a1_0 a1_1 a2_0 a2_1 a3 a4 a5_0 a5_1 a5_2 a5_3 a5_4 a6 = some true := by
  have ip : I64 a0_13 := by have := i64b w0_13; unfold I64; omega
  have ib : I64 a0_14 := by have := i64b w0_14; unfold I64; omega
  refine ⟨5, ?_⟩
  unfold bournelaw20_SeepEncloses.f bournelaw20_small.f bournelaw20_within.f
  simp only [Option.bind_some, decide_eq_true_eq]
  (repeat' split) <;> (try exact enc_bad 4 _ _ _ _ _ _ _ _ _ _ _ _ _ _ _ _ _ _ _ _ _ _ _ _ _ _ _ _ _ _)
  by_cases h : a0_15 > a0_16
  · rw [decide_eq_true h]; exact enc_bad 4 _ _ _ _ _ _ _ _ _ _ _ _ _ _ _ _ _ _ _ _ _ _ _ _ _ _ _ _ _ _
  · rw [decide_eq_false h]
    exact enc_ok 0 _ _ _ _ _ _ _ _ _ _ _ _ _ _ _ _ _ _ _ _ _ _ _ _ _ _ _ _ _ _ (by assumption) (by assumption) (by omega) (by omega) ip ib
end Go.Proofs.Ytndancjnfdhbfaa.Pure

-- Written by a program of this session (wip/tools/row3.py): the row of the law SeepEncloses, out of its pure statement and its walk; Lean checks it.
namespace Go.Proofs.Ytndancjnfdhbfaa.seepEncloses
open Go.ChangeShapes Go.WideShapes Go.ChangeAt Go.RowKit Go.Joins Go.Proofs.Ytndancjnfdhbfaa.S Go.Proofs.YtndancjnfdhbfaaW.PrintWords Go.Proofs.YtndancjnfdhbfaaW.PrintLast Go.Proofs.YtndancjnfdhbfaaW.PrintMore
open Go.ChangeMaps (open_string shut_string)
set_option linter.unusedVariables false
theorem own : ownKnob Try.prog.godebug = none := by kernel_rfl
theorem laidOut : laidOutB Try.prog = true := by kernel_rfl
theorem walk (a0_0 : ByteArray) (a0_1 : Int) (a0_2 : Int) (a0_3 : Int) (A0_4 : Option Addr) (c0_4 : Nat) (l0_4 : List (S90)) (A0_5 : Option Addr) (c0_5 : Nat) (l0_5 : List (S90)) (A0_6 : Option Addr) (c0_6 : Nat) (l0_6 : List (S90)) (a0_7 : Int) (a0_8 : Int) (a0_9 : Int) (a0_10 : Int) (a0_11 : Int) (a0_12 : Int) (a0_13 : Int) (a0_14 : Int) (a0_15 : Int) (a0_16 : Int) (a0_17 : Int) (a1_0 : Int) (a1_1 : Int) (a2_0 : Int) (a2_1 : Int) (a3 : Int) (a4 : Int) (a5_0 : Int) (a5_1 : Int) (a5_2 : Int) (a5_3 : Int) (a5_4 : Int) (a6 : Bool) (w : World) (hr0_4 : Kd.C k90 w A0_4 l0_4.length l0_4) (hc0_4 : l0_4.length ≤ c0_4) (hr0_5 : Kd.C k90 w A0_5 l0_5.length l0_5) (hc0_5 : l0_5.length ≤ c0_5) (hr0_6 : Kd.C k90 w A0_6 l0_6.length l0_6) (hc0_6 : l0_6.length ≤ c0_6) (z0_0 : a0_0.size ≤ maxLen) (w0_1 : (Lit.int .i64 a0_1).wf = true) (w0_2 : (Lit.int .i64 a0_2).wf = true) (w0_3 : (Lit.int .i64 a0_3).wf = true) (y0_4 : l0_4.length ≤ maxLen) (q0_4 : ∀ y ∈ l0_4, Q90 y) (y0_5 : l0_5.length ≤ maxLen) (q0_5 : ∀ y ∈ l0_5, Q90 y) (y0_6 : l0_6.length ≤ maxLen) (q0_6 : ∀ y ∈ l0_6, Q90 y) (w0_7 : (Lit.int .i64 a0_7).wf = true) (w0_8 : (Lit.int .i64 a0_8).wf = true) (w0_9 : (Lit.int .i64 a0_9).wf = true) (w0_10 : (Lit.int .i64 a0_10).wf = true) (w0_11 : (Lit.int .i64 a0_11).wf = true) (w0_12 : (Lit.int .i64 a0_12).wf = true) (w0_13 : (Lit.int .i64 a0_13).wf = true) (w0_14 : (Lit.int .i64 a0_14).wf = true) (w0_15 : (Lit.int .i64 a0_15).wf = true) (w0_16 : (Lit.int .i64 a0_16).wf = true) (w0_17 : (Lit.int .i64 a0_17).wf = true) (w1_0 : (Lit.int .i64 a1_0).wf = true) (w1_1 : (Lit.int .i64 a1_1).wf = true) (w2_0 : (Lit.int .i64 a2_0).wf = true) (w2_1 : (Lit.int .i64 a2_1).wf = true) (w3 : (Lit.int .i64 a3).wf = true) (w4 : (Lit.int .i64 a4).wf = true) (w5_0 : (Lit.int .i64 a5_0).wf = true) (w5_1 : (Lit.int .i64 a5_1).wf = true) (w5_2 : (Lit.int .i64 a5_2).wf = true) (w5_3 : (Lit.int .i64 a5_3).wf = true) (w5_4 : (Lit.int .i64 a5_4).wf = true) :
    Calls Try.prog 7 #[.agg #[.string a0_0, .int .i64 a0_1, .int .i64 a0_2, .int .i64 a0_3, .slice A0_4 l0_4.length c0_4, .slice A0_5 l0_5.length c0_5, .slice A0_6 l0_6.length c0_6, .int .i64 a0_7, .int .i64 a0_8, .int .i64 a0_9, .int .i64 a0_10, .int .i64 a0_11, .int .i64 a0_12, .int .i64 a0_13, .int .i64 a0_14, .int .i64 a0_15, .int .i64 a0_16, .int .i64 a0_17], .agg #[.int .i64 a1_0, .int .i64 a1_1], .agg #[.int .i64 a2_0, .int .i64 a2_1], .int .i64 a3, .int .i64 a4, .agg #[.int .i64 a5_0, .int .i64 a5_1, .int .i64 a5_2, .int .i64 a5_3, .int .i64 a5_4], .bool a6] w fun e w' => e = .returned (.bool true) ∧ Below w.heap.size w w' := by
  obtain ⟨k, h⟩ := Pure.SeepEncloses a0_0 a0_1 a0_2 a0_3 l0_4 l0_5 l0_6 a0_7 a0_8 a0_9 a0_10 a0_11 a0_12 a0_13 a0_14 a0_15 a0_16 a0_17 a1_0 a1_1 a2_0 a2_1 a3 a4 a5_0 a5_1 a5_2 a5_3 a5_4 a6 z0_0 w0_1 w0_2 w0_3 y0_4 q0_4 y0_5 q0_5 y0_6 q0_6 w0_7 w0_8 w0_9 w0_10 w0_11 w0_12 w0_13 w0_14 w0_15 w0_16 w0_17 w1_0 w1_1 w2_0 w2_1 w3 w4 w5_0 w5_1 w5_2 w5_3 w5_4
  refine (I.bournelaw20_SeepEncloses.calls k a0_0 a0_1 a0_2 a0_3 A0_4 c0_4 l0_4 A0_5 c0_5 l0_5 A0_6 c0_6 l0_6 a0_7 a0_8 a0_9 a0_10 a0_11 a0_12 a0_13 a0_14 a0_15 a0_16 a0_17 a1_0 a1_1 a2_0 a2_1 a3 a4 a5_0 a5_1 a5_2 a5_3 a5_4 a6 true w hr0_4 hc0_4 hr0_5 hc0_5 hr0_6 hc0_6 h ⟨rfl⟩).mono ?_
  rintro e w' ⟨rfl, hd⟩
  exact ⟨rfl, hd⟩
set_option maxRecDepth 100000 in
set_option maxHeartbeats 4000000 in
theorem lifted (os : Os) (started : os.Started) (H : Type) (enc : TypeId × Value → H) :
    ReturnsInHanded {} Try.checked os 7 .any (Rows.seepEnclosesSpec.pre6 enc Try.prog Try.f7 Rows.seepEnclosesRow.domain false) (Rows.seepEnclosesSpec.post enc Try.prog Try.f7 false true false false) := by
  refine returnsInHanded_of_change_sized (C := Try.checked) own started (by kernel_rfl) Try.func7
    (ChangeSpec.witness6 (enc := enc) (C := Try.checked) false ⟨#[], #[.agg #[.string ⟨#[]⟩, .int .i64 0, .int .i64 0, .int .i64 0, .slice none 0 0, .slice none 0 0, .slice none 0 0, .int .i64 0, .int .i64 0, .int .i64 0, .int .i64 0, .int .i64 0, .int .i64 0, .int .i64 0, .int .i64 0, .int .i64 0, .int .i64 0, .int .i64 0], .agg #[.int .i64 0, .int .i64 0], .agg #[.int .i64 0, .int .i64 0], .int .i64 0, .int .i64 0, .agg #[.int .i64 0, .int .i64 0, .int .i64 0, .int .i64 0, .int .i64 0], .bool false], []⟩ 8 (by kernel_rfl) (by kernel_rfl) (by kernel_rfl) (by kernel_rfl)) ?_
  intro W base args ds gs before hval0 hW hcnd hsz0 _
  have hval : ∀ (j : Nat) t v, Try.f7.params[j]? = some t → args[j]? = some v → Value.okWide Try.prog W .any base t v := hval0
  have hW' := hW
  obtain ⟨p, q, hA0, hV, rfl, hfz, hnd⟩ := hW
  have hA : DataW.TrodAll enc Try.prog W 0 (fun _ => true) true Try.f7.params.toList args.toList ds p := hA0
  rw [Try.params7] at hA hval
  obtain ⟨v0, vs0, d0, ds0, p0, q0, hargs, rfl, rfl, h0, r0⟩ := trodAll_cons hA
  obtain ⟨v1, vs1, d1, ds1, p1, q1, rfl, rfl, rfl, h1, r1⟩ := trodAll_cons r0
  obtain ⟨v2, vs2, d2, ds2, p2, q2, rfl, rfl, rfl, h2, r2⟩ := trodAll_cons r1
  obtain ⟨v3, vs3, d3, ds3, p3, q3, rfl, rfl, rfl, h3, r3⟩ := trodAll_cons r2
  obtain ⟨v4, vs4, d4, ds4, p4, q4, rfl, rfl, rfl, h4, r4⟩ := trodAll_cons r3
  obtain ⟨v5, vs5, d5, ds5, p5, q5, rfl, rfl, rfl, h5, r5⟩ := trodAll_cons r4
  obtain ⟨v6, vs6, d6, ds6, p6, q6, rfl, rfl, rfl, h6, r6⟩ := trodAll_cons r5
  obtain ⟨rfl, rfl, rfl⟩ := trodAll_nil r6
  obtain rfl : args = #[v0, v1, v2, v3, v4, v5, v6] := by cases args; simp_all
  obtain ⟨rfl, rfl⟩ := trodVars_none hV
  obtain ⟨cs0, rfl, sz0⟩ := okWide_struct Try.underlying26 (hval 0 26 v0 rfl rfl)
  have k0 := h0
  have lt0 : ∀ x ∈ p0, x.block < W.heap.size := by obtain ⟨m, hm⟩ := k0; exact DataW.trod_lt m _ _ _ hm
  obtain ⟨⟨a0_0, a0_1, a0_2, a0_3, l0_4, ⟨l0_5, l0_6⟩, a0_7, a0_8, a0_9, a0_10, a0_11, a0_12, a0_13, a0_14, a0_15, a0_16, a0_17⟩, hK0, hQ0⟩ := op26.open h0
  obtain ⟨_, _, E0, rfl, ⟨_, _, rfl, rfl, ⟨_, _, rfl, rfl, ⟨_, _, rfl, rfl, ⟨_, _, rfl, ⟨A0_4, c0_4, rfl, hc0_4, hr0_4⟩, ⟨_, _, rfl, ⟨_, _, rfl, ⟨A0_5, c0_5, rfl, hc0_5, hr0_5⟩, ⟨A0_6, c0_6, rfl, hc0_6, hr0_6⟩⟩, ⟨_, _, rfl, rfl, ⟨_, _, rfl, rfl, ⟨_, _, rfl, rfl, ⟨_, _, rfl, rfl, ⟨_, _, rfl, rfl, ⟨_, _, rfl, rfl, ⟨_, _, rfl, rfl, ⟨_, _, rfl, rfl, ⟨_, _, rfl, rfl, ⟨_, _, rfl, rfl, rfl⟩⟩⟩⟩⟩⟩⟩⟩⟩⟩⟩⟩⟩⟩⟩⟩ := hK0
  obtain ⟨z0_0, w0_1, w0_2, w0_3, ⟨y0_4, q0_4⟩, ⟨⟨y0_5, q0_5⟩, ⟨y0_6, q0_6⟩⟩, w0_7, w0_8, w0_9, w0_10, w0_11, w0_12, w0_13, w0_14, w0_15, w0_16, w0_17⟩ := hQ0
  obtain rfl : cs0 = #[.string a0_0, .int .i64 a0_1, .int .i64 a0_2, .int .i64 a0_3, .slice A0_4 l0_4.length c0_4, .slice A0_5 l0_5.length c0_5, .slice A0_6 l0_6.length c0_6, .int .i64 a0_7, .int .i64 a0_8, .int .i64 a0_9, .int .i64 a0_10, .int .i64 a0_11, .int .i64 a0_12, .int .i64 a0_13, .int .i64 a0_14, .int .i64 a0_15, .int .i64 a0_16, .int .i64 a0_17] := by apply Array.ext'; simpa [Value.cells] using E0
  obtain ⟨cs1, rfl, sz1⟩ := okWide_struct Try.underlying30 (hval 1 30 v1 rfl rfl)
  have k1 := h1
  have lt1 : ∀ x ∈ p1, x.block < W.heap.size := by obtain ⟨m, hm⟩ := k1; exact DataW.trod_lt m _ _ _ hm
  obtain ⟨⟨a1_0, a1_1⟩, hK1, hQ1⟩ := op30.open h1
  obtain ⟨_, _, E1, rfl, rfl⟩ := hK1
  obtain ⟨w1_0, w1_1⟩ := hQ1
  obtain rfl : cs1 = #[.int .i64 a1_0, .int .i64 a1_1] := by apply Array.ext'; simpa [Value.cells] using E1
  obtain ⟨cs2, rfl, sz2⟩ := okWide_struct Try.underlying30 (hval 2 30 v2 rfl rfl)
  have k2 := h2
  have lt2 : ∀ x ∈ p2, x.block < W.heap.size := by obtain ⟨m, hm⟩ := k2; exact DataW.trod_lt m _ _ _ hm
  obtain ⟨⟨a2_0, a2_1⟩, hK2, hQ2⟩ := op30.open h2
  obtain ⟨_, _, E2, rfl, rfl⟩ := hK2
  obtain ⟨w2_0, w2_1⟩ := hQ2
  obtain rfl : cs2 = #[.int .i64 a2_0, .int .i64 a2_1] := by apply Array.ext'; simpa [Value.cells] using E2
  obtain ⟨a3, rfl, rfl, rfl, w3⟩ := open_int Try.underlying3 (hval 3 3 v3 rfl rfl) h3
  obtain ⟨a4, rfl, rfl, rfl, w4⟩ := open_int Try.underlying3 (hval 4 3 v4 rfl rfl) h4
  obtain ⟨cs5, rfl, sz5⟩ := okWide_struct Try.underlying32 (hval 5 32 v5 rfl rfl)
  have k5 := h5
  have lt5 : ∀ x ∈ p5, x.block < W.heap.size := by obtain ⟨m, hm⟩ := k5; exact DataW.trod_lt m _ _ _ hm
  obtain ⟨⟨⟨a5_0, a5_1⟩, a5_2, ⟨a5_3, a5_4⟩⟩, hK5, hQ5⟩ := op32.open h5
  obtain ⟨_, _, E5, ⟨_, _, rfl, rfl, rfl⟩, ⟨_, _, rfl, rfl, ⟨_, _, rfl, rfl, rfl⟩⟩⟩ := hK5
  obtain ⟨⟨w5_0, w5_1⟩, w5_2, ⟨w5_3, w5_4⟩⟩ := hQ5
  obtain rfl : cs5 = #[.int .i64 a5_0, .int .i64 a5_1, .int .i64 a5_2, .int .i64 a5_3, .int .i64 a5_4] := by apply Array.ext'; simpa [Value.cells] using E5
  obtain ⟨a6, rfl, rfl, rfl⟩ := open_bool Try.underlying4 (hval 6 4 v6 rfl rfl) h6
  clear hA0 hval0 hsz0
  refine (walk a0_0 a0_1 a0_2 a0_3 _ _ l0_4 _ _ l0_5 _ _ l0_6 a0_7 a0_8 a0_9 a0_10 a0_11 a0_12 a0_13 a0_14 a0_15 a0_16 a0_17 a1_0 a1_1 a2_0 a2_1 a3 a4 a5_0 a5_1 a5_2 a5_3 a5_4 a6 W hr0_4 hc0_4 hr0_5 hc0_5 hr0_6 hc0_6 z0_0 w0_1 w0_2 w0_3 y0_4 q0_4 y0_5 q0_5 y0_6 q0_6 w0_7 w0_8 w0_9 w0_10 w0_11 w0_12 w0_13 w0_14 w0_15 w0_16 w0_17 w1_0 w1_1 w2_0 w2_1 w3 w4 w5_0 w5_1 w5_2 w5_3 w5_4).mono fun e W' ⟨he, bel⟩ => ?_
  subst he
  exact ⟨_, rfl, _, _, _, [], _, [], hW', trodAll_mk1 (shut_bool Try.underlying4 _), (trodAll_cons_mk (Below.trod laidOut (by kernel_rfl) (of_decide_eq_true (by kernel_rfl)) k0 bel lt0) (trodAll_cons_mk (Below.trod laidOut (by kernel_rfl) (of_decide_eq_true (by kernel_rfl)) k1 bel lt1) (trodAll_cons_mk (Below.trod laidOut (by kernel_rfl) (of_decide_eq_true (by kernel_rfl)) k2 bel lt2) (trodAll_cons_mk (shut_int Try.underlying3 w3) (trodAll_cons_mk (shut_int Try.underlying3 w4) (trodAll_cons_mk (Below.trod laidOut (by kernel_rfl) (of_decide_eq_true (by kernel_rfl)) k5 bel lt5) (trodAll_cons_mk (shut_bool Try.underlying4 _) trodAll_mk0))))))), rfl, bel.frame _, fun h => by cases h⟩
theorem over : Rows.seepEnclosesRow.holds Try.pinned (OpenSpec.ofChange Rows.seepEnclosesSpec) :=
  OpenClaim.holds_of_wide 7 Try.f7 rfl rfl rfl rfl rfl rfl rfl ⟨rfl, rfl, rfl, rfl, rfl⟩ rfl rfl rfl rfl rfl (by kernel_rfl) Try.func7 (by kernel_rfl)
    (of_decide_eq_true (by kernel_rfl)) (by unfold Func.isWrapper; first | (rw [if_pos (by decide +kernel)]; kernel_rfl) | (rw [if_neg (by decide +kernel)]; exact ⟨rfl, rfl⟩))
    (fun os started H enc _ => lifted os started H enc)
theorem proved : Rows.SeepEnclosesSaid := over
#print axioms proved
end Go.Proofs.Ytndancjnfdhbfaa.seepEncloses
namespace Go.Proofs.Ytndancjnfdhbfaa
/-- The row, under a short name, for the claim. -/
theorem seepEncloses_holds : Rows.SeepEnclosesSaid := seepEncloses.proved
end Go.Proofs.Ytndancjnfdhbfaa
