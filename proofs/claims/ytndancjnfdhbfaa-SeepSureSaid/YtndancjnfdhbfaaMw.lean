/- seep.Maybe's contract, in closed form. -/
import Derived.Test.YtndancjnfdhbfaaMr
import Derived.Test.YtndancjnfdhbfaaSp
namespace Go.Proofs.Ytndancjnfdhbfaa.S
open Go.RowKit Go.Proofs.YtndancjnfdhbfaaW.PrintWords Go.Proofs.YtndancjnfdhbfaaW.PrintLast Go.Proofs.YtndancjnfdhbfaaW.PrintMore
set_option linter.unusedVariables false
set_option linter.unusedSimpArgs false
def mays (kd lo hi p b k0 k1 : Int) : Int × Int := if kd = 3 then may lo hi p b k0 k1 else (k0, k1)
def seep_Maybe.f (a0_0 : ByteArray) (a0_1 : Int) (a0_2 : Int) (a0_3 : Int) (l0_4 : List (S90)) (l0_5 : List (S90)) (l0_6 : List (S90)) (a0_7 : Int) (a0_8 : Int) (a0_9 : Int) (a0_10 : Int) (a0_11 : Int) (a0_12 : Int) (a0_13 : Int) (a0_14 : Int) (a0_15 : Int) (a0_16 : Int) (a0_17 : Int) (a1_0 : Int) (a1_1 : Int) (a1_2 : Int) (a1_3 : Int) (a1_4 : Int) (a2_0 : Int) (a2_1 : Int) : Option (Int × Int × Int × Int × Int) :=
  if I64 a0_13 ∧ I64 a0_14 then some (a1_0, a1_1, a1_2, (mays a0_1 a2_0 a2_1 a0_13 a0_14 a1_3 a1_4).1, (mays a0_1 a2_0 a2_1 a0_13 a0_14 a1_3 a1_4).2) else none
set_option maxRecDepth 100000 in
set_option maxHeartbeats 8000000 in
theorem Maybe_not (a0 a2 a3 : Value) (s1 s2 s3 : Value) (b1 b2 b3 b4 b5 b6 b7 b8 b9 b10 b11 : Value) (kd lo hi q0 q1 t k0 k1 : Int) (hk : kd ≠ 3) (w : World) :
    Calls Try.prog 16 #[.agg #[a0, .int .i64 kd, a2, a3, s1, s2, s3, b1, b2, b3, b4, b5, b6, b7, b8, b9, b10, b11], .agg #[.int .i64 q0, .int .i64 q1, .int .i64 t, .int .i64 k0, .int .i64 k1], .agg #[.int .i64 lo, .int .i64 hi]] w fun e w' =>
      e = .returned (.agg #[.int .i64 q0, .int .i64 q1, .int .i64 t, .int .i64 k0, .int .i64 k1]) ∧ Below w.heap.size w w' := by
  have hu30 := Try.underlying30
  have hu26 := Try.underlying26
  have hu32 := Try.underlying32
  have hkb : (kd != 3) = true := bne_iff_ne.mpr hk
  go_enter Try.func16, Try.ntmps16
  go_wp2
  refine bodyPost_ret (results_cell_row rfl _ _ (w.heap.size + 1 + 1 + 1) 32 #[.int .i64 q0, .int .i64 q1, .int .i64 t, .int .i64 k0, .int .i64 k1] (0, 0) _ rfl (al_new (by simp)) Try.underlying32 rfl (by kernel_rfl)) rfl ?_
  exact ⟨rfl, below_alloc (below_alloc (below_alloc (below_alloc (Below.refl _ _) _) _) _) _⟩
theorem seep_Maybe.calls (a0_0 : ByteArray) (a0_1 : Int) (a0_2 : Int) (a0_3 : Int) (A0_4 : Option Addr) (c0_4 : Nat) (l0_4 : List (S90)) (A0_5 : Option Addr) (c0_5 : Nat) (l0_5 : List (S90)) (A0_6 : Option Addr) (c0_6 : Nat) (l0_6 : List (S90)) (a0_7 : Int) (a0_8 : Int) (a0_9 : Int) (a0_10 : Int) (a0_11 : Int) (a0_12 : Int) (a0_13 : Int) (a0_14 : Int) (a0_15 : Int) (a0_16 : Int) (a0_17 : Int) (a1_0 : Int) (a1_1 : Int) (a1_2 : Int) (a1_3 : Int) (a1_4 : Int) (a2_0 : Int) (a2_1 : Int) (r1 : Int) (r2 : Int) (r3 : Int) (r4 : Int) (r5 : Int) (w : World) (hr0_4 : Kd.C k90 w A0_4 l0_4.length l0_4) (hc0_4 : l0_4.length ≤ c0_4) (hr0_5 : Kd.C k90 w A0_5 l0_5.length l0_5) (hc0_5 : l0_5.length ≤ c0_5) (hr0_6 : Kd.C k90 w A0_6 l0_6.length l0_6) (hc0_6 : l0_6.length ≤ c0_6) (h : seep_Maybe.f a0_0 a0_1 a0_2 a0_3 l0_4 l0_5 l0_6 a0_7 a0_8 a0_9 a0_10 a0_11 a0_12 a0_13 a0_14 a0_15 a0_16 a0_17 a1_0 a1_1 a1_2 a1_3 a1_4 a2_0 a2_1 = some (r1, r2, r3, r4, r5)) :
    Calls Try.prog 16 #[.agg #[.string a0_0, .int .i64 a0_1, .int .i64 a0_2, .int .i64 a0_3, .slice A0_4 l0_4.length c0_4, .slice A0_5 l0_5.length c0_5, .slice A0_6 l0_6.length c0_6, .int .i64 a0_7, .int .i64 a0_8, .int .i64 a0_9, .int .i64 a0_10, .int .i64 a0_11, .int .i64 a0_12, .int .i64 a0_13, .int .i64 a0_14, .int .i64 a0_15, .int .i64 a0_16, .int .i64 a0_17], .agg #[.int .i64 a1_0, .int .i64 a1_1, .int .i64 a1_2, .int .i64 a1_3, .int .i64 a1_4], .agg #[.int .i64 a2_0, .int .i64 a2_1]] w fun e w' => e = .returned (.agg #[.int .i64 r1, .int .i64 r2, .int .i64 r3, .int .i64 r4, .int .i64 r5]) ∧ Below w.heap.size w w' := by
  unfold seep_Maybe.f at h
  split at h
  · rename_i hc
    simp only [Option.some.injEq, Prod.mk.injEq] at h
    obtain ⟨rfl, rfl, rfl, rfl, rfl⟩ := h
    unfold mays
    by_cases h3 : a0_1 = 3
    · subst h3
      rw [if_pos rfl, ← mayb_eq]
      refine (callsIn_wide (n := 6)).1 (Maybe_in (fun lo hi x w => C.span_Has.calls lo hi x _ w (C.span_Has_ok lo hi x)) _ _ _ _ _ _ _ _ _ _ _ _ _ _ _ _ _ _ _ _ _ _ _ _ hc.1 hc.2 w fun W hW o x => ?_)
      refine C.seep_Siphon.calls a0_0 3 a0_2 a0_3 A0_4 c0_4 l0_4 A0_5 c0_5 l0_5 A0_6 c0_6 l0_6 a0_7 a0_8 a0_9 a0_10 a0_11 a0_12 a0_13 a0_14 a0_15 a0_16 a0_17 0 0 false o x 0 0 false _ W (Kd.C_below hr0_4 hW) hc0_4 (Kd.C_below hr0_5 hW) hc0_5 (Kd.C_below hr0_6 hW) hc0_6 ?_
      unfold C.seep_Siphon.f sph
      rw [if_pos rfl]
      by_cases h1 : x ≥ a0_13
      · rw [if_pos h1, decide_eq_true h1]; rfl
      · rw [if_neg h1, decide_eq_false h1]
        cases o <;> simp
    · rw [if_neg h3]
      exact Maybe_not _ _ _ _ _ _ _ _ _ _ _ _ _ _ _ _ _ _ _ _ _ _ _ _ _ h3 w
  · cases h
end Go.Proofs.Ytndancjnfdhbfaa.S
