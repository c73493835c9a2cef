-- Written by a program of this session (wip/tools/pp.py) out of the translation; Lean checks it.
import Derived.Test.YtmlimfleekddgaaTx0
import Derived.Test.YtmlimfleekddgaaQs
import Derived.Test.YtmlimfleekddgaaTx1
namespace Go.Proofs.Ytmlimfleekddgaa.T
open Go.RowKit Go.Proofs.YtmlimfleekddgaaW.PrintWords Go.Proofs.YtmlimfleekddgaaW.PrintLast Go.Proofs.YtmlimfleekddgaaW.PrintMore
open Go.Proofs.Ytmlimfleekddgaa.S
attribute [local go_sem] max2_int min2_int max_two min_two max_three min_three max_four min_four   -- for this text's walks alone
set_option linter.unusedVariables false
set_option linter.unusedSimpArgs false

attribute [local go_sem high] eqA23
/-! ### bournelaw09_SpanTells: function 3 -/
def bournelaw09_SpanTells.f (a0_0 : Int) (a0_1 : Int) (a1_0 : Int) (a1_1 : Int) (a2 : Int) (a3 : Int) (a4 : Int) : Option (Bool) := (bournelaw09_small.f).bind fun t103 => ((span_Scale.f a0_0 a0_1 a3 a4).bind fun bt104 => ((bourneref09_Scale.f a0_0 a0_1 a3 a4).bind fun bt108 => ((span_Meet.f a0_0 a0_1 a1_0 a1_1).bind fun bt112 => ((bourneref09_Meet.f a0_0 a0_1 a1_0 a1_1).bind fun bt116 => (if (!(bt104.1 == bt108.1) || (!(bt104.2.1 == bt108.2.1))) = true then (some false) else (if (bt104.2.2 != bt108.2.2) = true then (some false) else (if (!(bt112.1 == bt116.1) || (!(bt112.2.1 == bt116.2.1))) = true then (some false) else (if (bt112.2.2 != bt116.2.2) = true then (some false) else ((span_Right.f a0_0 a0_1).bind fun t120 => ((bourneref09_Right.f a0_0 a0_1).bind fun t121 => (if (t120 == t121) = true then ((span_Of.f a2).bind fun bt122 => ((bourneref09_Of.f a2).bind fun bt124 => (if (bt122.1 == bt124.1 && (bt122.2 == bt124.2)) = true then ((span_Has.f a0_0 a0_1 a2).bind fun t126 => ((bourneref09_Has.f a0_0 a0_1 a2).bind fun t127 => ((span_Add.f a0_0 a0_1 a1_0 a1_1).bind fun bt128 => ((bourneref09_Add.f a0_0 a0_1 a1_0 a1_1).bind fun bt130 => (if (bt128.1 == bt130.1 && (bt128.2 == bt130.2)) = true then ((span_Sub.f a0_0 a0_1 a1_0 a1_1).bind fun bt132 => ((bourneref09_Sub.f a0_0 a0_1 a1_0 a1_1).bind fun bt134 => (if (bt132.1 == bt134.1 && (bt132.2 == bt134.2)) = true then ((span_Join.f a0_0 a0_1 a1_0 a1_1).bind fun bt136 => ((bourneref09_Join.f a0_0 a0_1 a1_0 a1_1).bind fun bt138 => (if t103 = true then (if (t126 == t127) = true then (if (bt136.1 == bt138.1 && (bt136.2 == bt138.2)) = true then ((span_Within.f a0_0 a0_1 a1_0 a1_1).bind fun t140 => ((bourneref09_Within.f a0_0 a0_1 a1_0 a1_1).bind fun t141 => (if (t140 == t141) = true then ((span_Width.f a0_0 a0_1).bind fun t142 => ((bourneref09_Width.f a0_0 a0_1).bind fun t143 => (some (t142 == t143)))) else (some false)))) else (some false)) else (some false)) else (some false)))) else (if t103 = true then (if (t126 == t127) = true then (some false) else (some false)) else (some false))))) else (if t103 = true then (if (t126 == t127) = true then (some false) else (some false)) else (some false))))))) else ((span_Add.f a0_0 a0_1 a1_0 a1_1).bind fun bt144 => ((bourneref09_Add.f a0_0 a0_1 a1_0 a1_1).bind fun bt146 => (if (bt144.1 == bt146.1 && (bt144.2 == bt146.2)) = true then ((span_Sub.f a0_0 a0_1 a1_0 a1_1).bind fun bt148 => ((bourneref09_Sub.f a0_0 a0_1 a1_0 a1_1).bind fun bt150 => (if (bt148.1 == bt150.1 && (bt148.2 == bt150.2)) = true then ((span_Join.f a0_0 a0_1 a1_0 a1_1).bind fun bt152 => ((bourneref09_Join.f a0_0 a0_1 a1_0 a1_1).bind fun bt154 => (if t103 = true then (some false) else (some false)))) else (if t103 = true then (some false) else (some false))))) else (if t103 = true then (some false) else (some false)))))))) else ((span_Add.f a0_0 a0_1 a1_0 a1_1).bind fun bt156 => ((bourneref09_Add.f a0_0 a0_1 a1_0 a1_1).bind fun bt158 => (if (bt156.1 == bt158.1 && (bt156.2 == bt158.2)) = true then ((span_Sub.f a0_0 a0_1 a1_0 a1_1).bind fun bt160 => ((bourneref09_Sub.f a0_0 a0_1 a1_0 a1_1).bind fun bt162 => (if (bt160.1 == bt162.1 && (bt160.2 == bt162.2)) = true then ((span_Join.f a0_0 a0_1 a1_0 a1_1).bind fun bt164 => ((bourneref09_Join.f a0_0 a0_1 a1_0 a1_1).bind fun bt166 => (if t103 = true then (some false) else (some false)))) else (if t103 = true then (some false) else (some false))))) else (if t103 = true then (some false) else (some false))))))))))))))))
def bournelaw09_SpanTells.T8 : Bool × List (List Nat × List Nat) := (true, [([], []), ([0], [0]), ([], []), ([2, 1], [2]), ([1, 3], [1, 3]), ([4, 3], [4]), ([5], [5]), ([6, 5, 5], [5, 6]), ([5], [5]), ([8, 7, 5], [5, 8]), ([7, 9, 5], [5, 7, 9]), ([5, 10], [5, 10]), ([11, 9], [11]), ([12], [12]), ([12], [12]), ([13, 14, 12, 12], [12, 13, 14]), ([12], [12]), ([12], [12]), ([16, 17, 15, 12], [12, 16, 17]), ([15, 18, 12], [12, 15, 18]), ([12, 19], [12, 19]), ([20, 18, 0, 1, 2, 3, 4, 5, 6, 7, 8, 9, 10, 11, 12, 13, 14, 15, 16, 17, 18, 19, 20], [20])])
def bournelaw09_SpanTells.B8 : List Nat := [0, 1, 0, 7, 15, 31, 63, 127, 63, 511, 1023, 2047, 4095, 8191, 8191, 32767, 8191, 8191, 262143, 524287, 1048575, 2097151]
theorem bournelaw09_SpanTells.tab8 : rtab .any (opsOf Try.f3 8) = bournelaw09_SpanTells.T8 := by kernel_rfl
theorem bournelaw09_SpanTells.bits8 : waitsOk bournelaw09_SpanTells.T8.2 bournelaw09_SpanTells.B8 = true := by kernel_rfl
def bournelaw09_SpanTells.T9 : Bool × List (List Nat × List Nat) := (true, [([], []), ([], []), ([0, 1], [0, 1]), ([], []), ([], []), ([3, 4, 2], [3, 4]), ([2, 5], [2, 5]), ([6, 5], [6]), ([7], [7]), ([7], [7]), ([8, 9, 7, 7], [7, 8, 9]), ([7], [7]), ([7], [7]), ([11, 12, 10, 7], [7, 11, 12]), ([10, 13, 7], [7, 10, 13]), ([7, 14], [7, 14]), ([15, 13], [15]), ([16], [16]), ([16], [16]), ([17, 18, 16, 16], [16, 17, 18]), ([16], [16]), ([16], [16]), ([20, 21, 19, 16], [16, 20, 21]), ([19, 22, 16], [16, 19, 22]), ([16, 23], [16, 23]), ([24, 22, 0, 1, 2, 3, 4, 5, 6, 7, 8, 9, 10, 11, 12, 13, 14, 15, 16, 17, 18, 19, 20, 21, 22, 23, 24], [24])])
def bournelaw09_SpanTells.B9 : List Nat := [0, 0, 3, 0, 0, 31, 63, 127, 255, 255, 1023, 255, 255, 8191, 16383, 32767, 65535, 131071, 131071, 524287, 131071, 131071, 4194303, 8388607, 16777215, 33554431]
theorem bournelaw09_SpanTells.tab9 : rtab .any (opsOf Try.f3 9) = bournelaw09_SpanTells.T9 := by kernel_rfl
theorem bournelaw09_SpanTells.bits9 : waitsOk bournelaw09_SpanTells.T9.2 bournelaw09_SpanTells.B9 = true := by kernel_rfl
def bournelaw09_SpanTells.T10 : Bool × List (List Nat × List Nat) := (true, [([], []), ([0], [0]), ([1], [1]), ([1, 2], [1, 2]), ([3, 1], [3]), ([4], [4]), ([4, 5], [4, 5]), ([6, 4], [6]), ([7], [7]), ([7], [7]), ([8, 9, 7, 7], [7, 8, 9]), ([7], [7]), ([7], [7]), ([11, 12, 10, 7], [7, 11, 12]), ([10, 13, 7], [7, 10, 13]), ([7, 14], [7, 14]), ([15, 13], [15]), ([16], [16]), ([17, 16, 16], [16, 17]), ([16], [16]), ([19, 18, 16], [16, 19]), ([18, 20, 16], [16, 18, 20]), ([16, 21], [16, 21]), ([22, 20, 0, 1, 2, 3, 4, 5, 6, 7, 8, 9, 10, 11, 12, 13, 14, 15, 16, 17, 18, 19, 20, 21, 22], [22])])
def bournelaw09_SpanTells.B10 : List Nat := [0, 1, 3, 7, 15, 31, 63, 127, 255, 255, 1023, 255, 255, 8191, 16383, 32767, 65535, 131071, 262143, 131071, 1048575, 2097151, 4194303, 8388607]
theorem bournelaw09_SpanTells.tab10 : rtab .any (opsOf Try.f3 10) = bournelaw09_SpanTells.T10 := by kernel_rfl
theorem bournelaw09_SpanTells.bits10 : waitsOk bournelaw09_SpanTells.T10.2 bournelaw09_SpanTells.B10 = true := by kernel_rfl
set_option maxHeartbeats 8000000 in
set_option maxRecDepth 100000 in
theorem bournelaw09_SpanTells.calls (a0_0 : Int) (a0_1 : Int) (a1_0 : Int) (a1_1 : Int) (a2 : Int) (a3 : Int) (a4 : Int) (r : Bool) (w : World) (h : bournelaw09_SpanTells.f a0_0 a0_1 a1_0 a1_1 a2 a3 a4 = some r) (hr : Aside0 (r = true)) :
  Calls Try.prog 3 #[.agg #[.int .i64 a0_0, .int .i64 a0_1], .agg #[.int .i64 a1_0, .int .i64 a1_1], .int .i64 a2, .int .i64 a3, .int .i64 a4] w fun e w' => e = .returned (.bool r) ∧ Below w.heap.size w w' := by
 have hu23 := Try.underlying23
 have HB := Aside0.mk (Below.refl w.heap.size w)
 have H : ((bournelaw09_small.f).bind fun t103 => ((span_Scale.f a0_0 a0_1 a3 a4).bind fun bt104 => ((bourneref09_Scale.f a0_0 a0_1 a3 a4).bind fun bt108 => ((span_Meet.f a0_0 a0_1 a1_0 a1_1).bind fun bt112 => ((bourneref09_Meet.f a0_0 a0_1 a1_0 a1_1).bind fun bt116 => (if (!(bt104.1 == bt108.1) || (!(bt104.2.1 == bt108.2.1))) = true then (some false) else (if (bt104.2.2 != bt108.2.2) = true then (some false) else (if (!(bt112.1 == bt116.1) || (!(bt112.2.1 == bt116.2.1))) = true then (some false) else (if (bt112.2.2 != bt116.2.2) = true then (some false) else ((span_Right.f a0_0 a0_1).bind fun t120 => ((bourneref09_Right.f a0_0 a0_1).bind fun t121 => (if (t120 == t121) = true then ((span_Of.f a2).bind fun bt122 => ((bourneref09_Of.f a2).bind fun bt124 => (if (bt122.1 == bt124.1 && (bt122.2 == bt124.2)) = true then ((span_Has.f a0_0 a0_1 a2).bind fun t126 => ((bourneref09_Has.f a0_0 a0_1 a2).bind fun t127 => ((span_Add.f a0_0 a0_1 a1_0 a1_1).bind fun bt128 => ((bourneref09_Add.f a0_0 a0_1 a1_0 a1_1).bind fun bt130 => (if (bt128.1 == bt130.1 && (bt128.2 == bt130.2)) = true then ((span_Sub.f a0_0 a0_1 a1_0 a1_1).bind fun bt132 => ((bourneref09_Sub.f a0_0 a0_1 a1_0 a1_1).bind fun bt134 => (if (bt132.1 == bt134.1 && (bt132.2 == bt134.2)) = true then ((span_Join.f a0_0 a0_1 a1_0 a1_1).bind fun bt136 => ((bourneref09_Join.f a0_0 a0_1 a1_0 a1_1).bind fun bt138 => (if t103 = true then (if (t126 == t127) = true then (if (bt136.1 == bt138.1 && (bt136.2 == bt138.2)) = true then ((span_Within.f a0_0 a0_1 a1_0 a1_1).bind fun t140 => ((bourneref09_Within.f a0_0 a0_1 a1_0 a1_1).bind fun t141 => (if (t140 == t141) = true then ((span_Width.f a0_0 a0_1).bind fun t142 => ((bourneref09_Width.f a0_0 a0_1).bind fun t143 => (some (t142 == t143)))) else (some false)))) else (some false)) else (some false)) else (some false)))) else (if t103 = true then (if (t126 == t127) = true then (some false) else (some false)) else (some false))))) else (if t103 = true then (if (t126 == t127) = true then (some false) else (some false)) else (some false))))))) else ((span_Add.f a0_0 a0_1 a1_0 a1_1).bind fun bt144 => ((bourneref09_Add.f a0_0 a0_1 a1_0 a1_1).bind fun bt146 => (if (bt144.1 == bt146.1 && (bt144.2 == bt146.2)) = true then ((span_Sub.f a0_0 a0_1 a1_0 a1_1).bind fun bt148 => ((bourneref09_Sub.f a0_0 a0_1 a1_0 a1_1).bind fun bt150 => (if (bt148.1 == bt150.1 && (bt148.2 == bt150.2)) = true then ((span_Join.f a0_0 a0_1 a1_0 a1_1).bind fun bt152 => ((bourneref09_Join.f a0_0 a0_1 a1_0 a1_1).bind fun bt154 => (if t103 = true then (some false) else (some false)))) else (if t103 = true then (some false) else (some false))))) else (if t103 = true then (some false) else (some false)))))))) else ((span_Add.f a0_0 a0_1 a1_0 a1_1).bind fun bt156 => ((bourneref09_Add.f a0_0 a0_1 a1_0 a1_1).bind fun bt158 => (if (bt156.1 == bt158.1 && (bt156.2 == bt158.2)) = true then ((span_Sub.f a0_0 a0_1 a1_0 a1_1).bind fun bt160 => ((bourneref09_Sub.f a0_0 a0_1 a1_0 a1_1).bind fun bt162 => (if (bt160.1 == bt162.1 && (bt160.2 == bt162.2)) = true then ((span_Join.f a0_0 a0_1 a1_0 a1_1).bind fun bt164 => ((bourneref09_Join.f a0_0 a0_1 a1_0 a1_1).bind fun bt166 => (if t103 = true then (some false) else (some false)))) else (if t103 = true then (some false) else (some false))))) else (if t103 = true then (some false) else (some false))))))))))))))))) = some r := h
 clear h
 replace H := Option.bind_eq_some_iff.mp H
 obtain ⟨t103, A60, H⟩ := H
 replace H : ((span_Scale.f a0_0 a0_1 a3 a4).bind fun bt104 => ((bourneref09_Scale.f a0_0 a0_1 a3 a4).bind fun bt108 => ((span_Meet.f a0_0 a0_1 a1_0 a1_1).bind fun bt112 => ((bourneref09_Meet.f a0_0 a0_1 a1_0 a1_1).bind fun bt116 => (if (!(bt104.1 == bt108.1) || (!(bt104.2.1 == bt108.2.1))) = true then (some false) else (if (bt104.2.2 != bt108.2.2) = true then (some false) else (if (!(bt112.1 == bt116.1) || (!(bt112.2.1 == bt116.2.1))) = true then (some false) else (if (bt112.2.2 != bt116.2.2) = true then (some false) else ((span_Right.f a0_0 a0_1).bind fun t120 => ((bourneref09_Right.f a0_0 a0_1).bind fun t121 => (if (t120 == t121) = true then ((span_Of.f a2).bind fun bt122 => ((bourneref09_Of.f a2).bind fun bt124 => (if (bt122.1 == bt124.1 && (bt122.2 == bt124.2)) = true then ((span_Has.f a0_0 a0_1 a2).bind fun t126 => ((bourneref09_Has.f a0_0 a0_1 a2).bind fun t127 => ((span_Add.f a0_0 a0_1 a1_0 a1_1).bind fun bt128 => ((bourneref09_Add.f a0_0 a0_1 a1_0 a1_1).bind fun bt130 => (if (bt128.1 == bt130.1 && (bt128.2 == bt130.2)) = true then ((span_Sub.f a0_0 a0_1 a1_0 a1_1).bind fun bt132 => ((bourneref09_Sub.f a0_0 a0_1 a1_0 a1_1).bind fun bt134 => (if (bt132.1 == bt134.1 && (bt132.2 == bt134.2)) = true then ((span_Join.f a0_0 a0_1 a1_0 a1_1).bind fun bt136 => ((bourneref09_Join.f a0_0 a0_1 a1_0 a1_1).bind fun bt138 => (if t103 = true then (if (t126 == t127) = true then (if (bt136.1 == bt138.1 && (bt136.2 == bt138.2)) = true then ((span_Within.f a0_0 a0_1 a1_0 a1_1).bind fun t140 => ((bourneref09_Within.f a0_0 a0_1 a1_0 a1_1).bind fun t141 => (if (t140 == t141) = true then ((span_Width.f a0_0 a0_1).bind fun t142 => ((bourneref09_Width.f a0_0 a0_1).bind fun t143 => (some (t142 == t143)))) else (some false)))) else (some false)) else (some false)) else (some false)))) else (if t103 = true then (if (t126 == t127) = true then (some false) else (some false)) else (some false))))) else (if t103 = true then (if (t126 == t127) = true then (some false) else (some false)) else (some false))))))) else ((span_Add.f a0_0 a0_1 a1_0 a1_1).bind fun bt144 => ((bourneref09_Add.f a0_0 a0_1 a1_0 a1_1).bind fun bt146 => (if (bt144.1 == bt146.1 && (bt144.2 == bt146.2)) = true then ((span_Sub.f a0_0 a0_1 a1_0 a1_1).bind fun bt148 => ((bourneref09_Sub.f a0_0 a0_1 a1_0 a1_1).bind fun bt150 => (if (bt148.1 == bt150.1 && (bt148.2 == bt150.2)) = true then ((span_Join.f a0_0 a0_1 a1_0 a1_1).bind fun bt152 => ((bourneref09_Join.f a0_0 a0_1 a1_0 a1_1).bind fun bt154 => (if t103 = true then (some false) else (some false)))) else (if t103 = true then (some false) else (some false))))) else (if t103 = true then (some false) else (some false)))))))) else ((span_Add.f a0_0 a0_1 a1_0 a1_1).bind fun bt156 => ((bourneref09_Add.f a0_0 a0_1 a1_0 a1_1).bind fun bt158 => (if (bt156.1 == bt158.1 && (bt156.2 == bt158.2)) = true then ((span_Sub.f a0_0 a0_1 a1_0 a1_1).bind fun bt160 => ((bourneref09_Sub.f a0_0 a0_1 a1_0 a1_1).bind fun bt162 => (if (bt160.1 == bt162.1 && (bt160.2 == bt162.2)) = true then ((span_Join.f a0_0 a0_1 a1_0 a1_1).bind fun bt164 => ((bourneref09_Join.f a0_0 a0_1 a1_0 a1_1).bind fun bt166 => (if t103 = true then (some false) else (some false)))) else (if t103 = true then (some false) else (some false))))) else (if t103 = true then (some false) else (some false)))))))))))))))) = some r := H
 have A6 := Aside0.mk A60
 clear A60
 replace H := Option.bind_eq_some_iff.mp H
 obtain ⟨⟨t104, t105, t106⟩, A70, H⟩ := H
 replace H : ((bourneref09_Scale.f a0_0 a0_1 a3 a4).bind fun bt108 => ((span_Meet.f a0_0 a0_1 a1_0 a1_1).bind fun bt112 => ((bourneref09_Meet.f a0_0 a0_1 a1_0 a1_1).bind fun bt116 => (if (!(t104 == bt108.1) || (!(t105 == bt108.2.1))) = true then (some false) else (if (t106 != bt108.2.2) = true then (some false) else (if (!(bt112.1 == bt116.1) || (!(bt112.2.1 == bt116.2.1))) = true then (some false) else (if (bt112.2.2 != bt116.2.2) = true then (some false) else ((span_Right.f a0_0 a0_1).bind fun t120 => ((bourneref09_Right.f a0_0 a0_1).bind fun t121 => (if (t120 == t121) = true then ((span_Of.f a2).bind fun bt122 => ((bourneref09_Of.f a2).bind fun bt124 => (if (bt122.1 == bt124.1 && (bt122.2 == bt124.2)) = true then ((span_Has.f a0_0 a0_1 a2).bind fun t126 => ((bourneref09_Has.f a0_0 a0_1 a2).bind fun t127 => ((span_Add.f a0_0 a0_1 a1_0 a1_1).bind fun bt128 => ((bourneref09_Add.f a0_0 a0_1 a1_0 a1_1).bind fun bt130 => (if (bt128.1 == bt130.1 && (bt128.2 == bt130.2)) = true then ((span_Sub.f a0_0 a0_1 a1_0 a1_1).bind fun bt132 => ((bourneref09_Sub.f a0_0 a0_1 a1_0 a1_1).bind fun bt134 => (if (bt132.1 == bt134.1 && (bt132.2 == bt134.2)) = true then ((span_Join.f a0_0 a0_1 a1_0 a1_1).bind fun bt136 => ((bourneref09_Join.f a0_0 a0_1 a1_0 a1_1).bind fun bt138 => (if t103 = true then (if (t126 == t127) = true then (if (bt136.1 == bt138.1 && (bt136.2 == bt138.2)) = true then ((span_Within.f a0_0 a0_1 a1_0 a1_1).bind fun t140 => ((bourneref09_Within.f a0_0 a0_1 a1_0 a1_1).bind fun t141 => (if (t140 == t141) = true then ((span_Width.f a0_0 a0_1).bind fun t142 => ((bourneref09_Width.f a0_0 a0_1).bind fun t143 => (some (t142 == t143)))) else (some false)))) else (some false)) else (some false)) else (some false)))) else (if t103 = true then (if (t126 == t127) = true then (some false) else (some false)) else (some false))))) else (if t103 = true then (if (t126 == t127) = true then (some false) else (some false)) else (some false))))))) else ((span_Add.f a0_0 a0_1 a1_0 a1_1).bind fun bt144 => ((bourneref09_Add.f a0_0 a0_1 a1_0 a1_1).bind fun bt146 => (if (bt144.1 == bt146.1 && (bt144.2 == bt146.2)) = true then ((span_Sub.f a0_0 a0_1 a1_0 a1_1).bind fun bt148 => ((bourneref09_Sub.f a0_0 a0_1 a1_0 a1_1).bind fun bt150 => (if (bt148.1 == bt150.1 && (bt148.2 == bt150.2)) = true then ((span_Join.f a0_0 a0_1 a1_0 a1_1).bind fun bt152 => ((bourneref09_Join.f a0_0 a0_1 a1_0 a1_1).bind fun bt154 => (if t103 = true then (some false) else (some false)))) else (if t103 = true then (some false) else (some false))))) else (if t103 = true then (some false) else (some false)))))))) else ((span_Add.f a0_0 a0_1 a1_0 a1_1).bind fun bt156 => ((bourneref09_Add.f a0_0 a0_1 a1_0 a1_1).bind fun bt158 => (if (bt156.1 == bt158.1 && (bt156.2 == bt158.2)) = true then ((span_Sub.f a0_0 a0_1 a1_0 a1_1).bind fun bt160 => ((bourneref09_Sub.f a0_0 a0_1 a1_0 a1_1).bind fun bt162 => (if (bt160.1 == bt162.1 && (bt160.2 == bt162.2)) = true then ((span_Join.f a0_0 a0_1 a1_0 a1_1).bind fun bt164 => ((bourneref09_Join.f a0_0 a0_1 a1_0 a1_1).bind fun bt166 => (if t103 = true then (some false) else (some false)))) else (if t103 = true then (some false) else (some false))))) else (if t103 = true then (some false) else (some false))))))))))))))) = some r := H
 have A7 := Aside0.mk A70
 clear A70
 replace H := Option.bind_eq_some_iff.mp H
 obtain ⟨⟨t108, t109, t110⟩, A80, H⟩ := H
 replace H : ((span_Meet.f a0_0 a0_1 a1_0 a1_1).bind fun bt112 => ((bourneref09_Meet.f a0_0 a0_1 a1_0 a1_1).bind fun bt116 => (if (!(t104 == t108) || (!(t105 == t109))) = true then (some false) else (if (t106 != t110) = true then (some false) else (if (!(bt112.1 == bt116.1) || (!(bt112.2.1 == bt116.2.1))) = true then (some false) else (if (bt112.2.2 != bt116.2.2) = true then (some false) else ((span_Right.f a0_0 a0_1).bind fun t120 => ((bourneref09_Right.f a0_0 a0_1).bind fun t121 => (if (t120 == t121) = true then ((span_Of.f a2).bind fun bt122 => ((bourneref09_Of.f a2).bind fun bt124 => (if (bt122.1 == bt124.1 && (bt122.2 == bt124.2)) = true then ((span_Has.f a0_0 a0_1 a2).bind fun t126 => ((bourneref09_Has.f a0_0 a0_1 a2).bind fun t127 => ((span_Add.f a0_0 a0_1 a1_0 a1_1).bind fun bt128 => ((bourneref09_Add.f a0_0 a0_1 a1_0 a1_1).bind fun bt130 => (if (bt128.1 == bt130.1 && (bt128.2 == bt130.2)) = true then ((span_Sub.f a0_0 a0_1 a1_0 a1_1).bind fun bt132 => ((bourneref09_Sub.f a0_0 a0_1 a1_0 a1_1).bind fun bt134 => (if (bt132.1 == bt134.1 && (bt132.2 == bt134.2)) = true then ((span_Join.f a0_0 a0_1 a1_0 a1_1).bind fun bt136 => ((bourneref09_Join.f a0_0 a0_1 a1_0 a1_1).bind fun bt138 => (if t103 = true then (if (t126 == t127) = true then (if (bt136.1 == bt138.1 && (bt136.2 == bt138.2)) = true then ((span_Within.f a0_0 a0_1 a1_0 a1_1).bind fun t140 => ((bourneref09_Within.f a0_0 a0_1 a1_0 a1_1).bind fun t141 => (if (t140 == t141) = true then ((span_Width.f a0_0 a0_1).bind fun t142 => ((bourneref09_Width.f a0_0 a0_1).bind fun t143 => (some (t142 == t143)))) else (some false)))) else (some false)) else (some false)) else (some false)))) else (if t103 = true then (if (t126 == t127) = true then (some false) else (some false)) else (some false))))) else (if t103 = true then (if (t126 == t127) = true then (some false) else (some false)) else (some false))))))) else ((span_Add.f a0_0 a0_1 a1_0 a1_1).bind fun bt144 => ((bourneref09_Add.f a0_0 a0_1 a1_0 a1_1).bind fun bt146 => (if (bt144.1 == bt146.1 && (bt144.2 == bt146.2)) = true then ((span_Sub.f a0_0 a0_1 a1_0 a1_1).bind fun bt148 => ((bourneref09_Sub.f a0_0 a0_1 a1_0 a1_1).bind fun bt150 => (if (bt148.1 == bt150.1 && (bt148.2 == bt150.2)) = true then ((span_Join.f a0_0 a0_1 a1_0 a1_1).bind fun bt152 => ((bourneref09_Join.f a0_0 a0_1 a1_0 a1_1).bind fun bt154 => (if t103 = true then (some false) else (some false)))) else (if t103 = true then (some false) else (some false))))) else (if t103 = true then (some false) else (some false)))))))) else ((span_Add.f a0_0 a0_1 a1_0 a1_1).bind fun bt156 => ((bourneref09_Add.f a0_0 a0_1 a1_0 a1_1).bind fun bt158 => (if (bt156.1 == bt158.1 && (bt156.2 == bt158.2)) = true then ((span_Sub.f a0_0 a0_1 a1_0 a1_1).bind fun bt160 => ((bourneref09_Sub.f a0_0 a0_1 a1_0 a1_1).bind fun bt162 => (if (bt160.1 == bt162.1 && (bt160.2 == bt162.2)) = true then ((span_Join.f a0_0 a0_1 a1_0 a1_1).bind fun bt164 => ((bourneref09_Join.f a0_0 a0_1 a1_0 a1_1).bind fun bt166 => (if t103 = true then (some false) else (some false)))) else (if t103 = true then (some false) else (some false))))) else (if t103 = true then (some false) else (some false)))))))))))))) = some r := H
 have A8 := Aside0.mk A80
 clear A80
 replace H := Option.bind_eq_some_iff.mp H
 obtain ⟨⟨t112, t113, t114⟩, A90, H⟩ := H
 replace H : ((bourneref09_Meet.f a0_0 a0_1 a1_0 a1_1).bind fun bt116 => (if (!(t104 == t108) || (!(t105 == t109))) = true then (some false) else (if (t106 != t110) = true then (some false) else (if (!(t112 == bt116.1) || (!(t113 == bt116.2.1))) = true then (some false) else (if (t114 != bt116.2.2) = true then (some false) else ((span_Right.f a0_0 a0_1).bind fun t120 => ((bourneref09_Right.f a0_0 a0_1).bind fun t121 => (if (t120 == t121) = true then ((span_Of.f a2).bind fun bt122 => ((bourneref09_Of.f a2).bind fun bt124 => (if (bt122.1 == bt124.1 && (bt122.2 == bt124.2)) = true then ((span_Has.f a0_0 a0_1 a2).bind fun t126 => ((bourneref09_Has.f a0_0 a0_1 a2).bind fun t127 => ((span_Add.f a0_0 a0_1 a1_0 a1_1).bind fun bt128 => ((bourneref09_Add.f a0_0 a0_1 a1_0 a1_1).bind fun bt130 => (if (bt128.1 == bt130.1 && (bt128.2 == bt130.2)) = true then ((span_Sub.f a0_0 a0_1 a1_0 a1_1).bind fun bt132 => ((bourneref09_Sub.f a0_0 a0_1 a1_0 a1_1).bind fun bt134 => (if (bt132.1 == bt134.1 && (bt132.2 == bt134.2)) = true then ((span_Join.f a0_0 a0_1 a1_0 a1_1).bind fun bt136 => ((bourneref09_Join.f a0_0 a0_1 a1_0 a1_1).bind fun bt138 => (if t103 = true then (if (t126 == t127) = true then (if (bt136.1 == bt138.1 && (bt136.2 == bt138.2)) = true then ((span_Within.f a0_0 a0_1 a1_0 a1_1).bind fun t140 => ((bourneref09_Within.f a0_0 a0_1 a1_0 a1_1).bind fun t141 => (if (t140 == t141) = true then ((span_Width.f a0_0 a0_1).bind fun t142 => ((bourneref09_Width.f a0_0 a0_1).bind fun t143 => (some (t142 == t143)))) else (some false)))) else (some false)) else (some false)) else (some false)))) else (if t103 = true then (if (t126 == t127) = true then (some false) else (some false)) else (some false))))) else (if t103 = true then (if (t126 == t127) = true then (some false) else (some false)) else (some false))))))) else ((span_Add.f a0_0 a0_1 a1_0 a1_1).bind fun bt144 => ((bourneref09_Add.f a0_0 a0_1 a1_0 a1_1).bind fun bt146 => (if (bt144.1 == bt146.1 && (bt144.2 == bt146.2)) = true then ((span_Sub.f a0_0 a0_1 a1_0 a1_1).bind fun bt148 => ((bourneref09_Sub.f a0_0 a0_1 a1_0 a1_1).bind fun bt150 => (if (bt148.1 == bt150.1 && (bt148.2 == bt150.2)) = true then ((span_Join.f a0_0 a0_1 a1_0 a1_1).bind fun bt152 => ((bourneref09_Join.f a0_0 a0_1 a1_0 a1_1).bind fun bt154 => (if t103 = true then (some false) else (some false)))) else (if t103 = true then (some false) else (some false))))) else (if t103 = true then (some false) else (some false)))))))) else ((span_Add.f a0_0 a0_1 a1_0 a1_1).bind fun bt156 => ((bourneref09_Add.f a0_0 a0_1 a1_0 a1_1).bind fun bt158 => (if (bt156.1 == bt158.1 && (bt156.2 == bt158.2)) = true then ((span_Sub.f a0_0 a0_1 a1_0 a1_1).bind fun bt160 => ((bourneref09_Sub.f a0_0 a0_1 a1_0 a1_1).bind fun bt162 => (if (bt160.1 == bt162.1 && (bt160.2 == bt162.2)) = true then ((span_Join.f a0_0 a0_1 a1_0 a1_1).bind fun bt164 => ((bourneref09_Join.f a0_0 a0_1 a1_0 a1_1).bind fun bt166 => (if t103 = true then (some false) else (some false)))) else (if t103 = true then (some false) else (some false))))) else (if t103 = true then (some false) else (some false))))))))))))) = some r := H
 have A9 := Aside0.mk A90
 clear A90
 replace H := Option.bind_eq_some_iff.mp H
 obtain ⟨⟨t116, t117, t118⟩, A100, H⟩ := H
 replace H : (if (!(t104 == t108) || (!(t105 == t109))) = true then (some false) else (if (t106 != t110) = true then (some false) else (if (!(t112 == t116) || (!(t113 == t117))) = true then (some false) else (if (t114 != t118) = true then (some false) else ((span_Right.f a0_0 a0_1).bind fun t120 => ((bourneref09_Right.f a0_0 a0_1).bind fun t121 => (if (t120 == t121) = true then ((span_Of.f a2).bind fun bt122 => ((bourneref09_Of.f a2).bind fun bt124 => (if (bt122.1 == bt124.1 && (bt122.2 == bt124.2)) = true then ((span_Has.f a0_0 a0_1 a2).bind fun t126 => ((bourneref09_Has.f a0_0 a0_1 a2).bind fun t127 => ((span_Add.f a0_0 a0_1 a1_0 a1_1).bind fun bt128 => ((bourneref09_Add.f a0_0 a0_1 a1_0 a1_1).bind fun bt130 => (if (bt128.1 == bt130.1 && (bt128.2 == bt130.2)) = true then ((span_Sub.f a0_0 a0_1 a1_0 a1_1).bind fun bt132 => ((bourneref09_Sub.f a0_0 a0_1 a1_0 a1_1).bind fun bt134 => (if (bt132.1 == bt134.1 && (bt132.2 == bt134.2)) = true then ((span_Join.f a0_0 a0_1 a1_0 a1_1).bind fun bt136 => ((bourneref09_Join.f a0_0 a0_1 a1_0 a1_1).bind fun bt138 => (if t103 = true then (if (t126 == t127) = true then (if (bt136.1 == bt138.1 && (bt136.2 == bt138.2)) = true then ((span_Within.f a0_0 a0_1 a1_0 a1_1).bind fun t140 => ((bourneref09_Within.f a0_0 a0_1 a1_0 a1_1).bind fun t141 => (if (t140 == t141) = true then ((span_Width.f a0_0 a0_1).bind fun t142 => ((bourneref09_Width.f a0_0 a0_1).bind fun t143 => (some (t142 == t143)))) else (some false)))) else (some false)) else (some false)) else (some false)))) else (if t103 = true then (if (t126 == t127) = true then (some false) else (some false)) else (some false))))) else (if t103 = true then (if (t126 == t127) = true then (some false) else (some false)) else (some false))))))) else ((span_Add.f a0_0 a0_1 a1_0 a1_1).bind fun bt144 => ((bourneref09_Add.f a0_0 a0_1 a1_0 a1_1).bind fun bt146 => (if (bt144.1 == bt146.1 && (bt144.2 == bt146.2)) = true then ((span_Sub.f a0_0 a0_1 a1_0 a1_1).bind fun bt148 => ((bourneref09_Sub.f a0_0 a0_1 a1_0 a1_1).bind fun bt150 => (if (bt148.1 == bt150.1 && (bt148.2 == bt150.2)) = true then ((span_Join.f a0_0 a0_1 a1_0 a1_1).bind fun bt152 => ((bourneref09_Join.f a0_0 a0_1 a1_0 a1_1).bind fun bt154 => (if t103 = true then (some false) else (some false)))) else (if t103 = true then (some false) else (some false))))) else (if t103 = true then (some false) else (some false)))))))) else ((span_Add.f a0_0 a0_1 a1_0 a1_1).bind fun bt156 => ((bourneref09_Add.f a0_0 a0_1 a1_0 a1_1).bind fun bt158 => (if (bt156.1 == bt158.1 && (bt156.2 == bt158.2)) = true then ((span_Sub.f a0_0 a0_1 a1_0 a1_1).bind fun bt160 => ((bourneref09_Sub.f a0_0 a0_1 a1_0 a1_1).bind fun bt162 => (if (bt160.1 == bt162.1 && (bt160.2 == bt162.2)) = true then ((span_Join.f a0_0 a0_1 a1_0 a1_1).bind fun bt164 => ((bourneref09_Join.f a0_0 a0_1 a1_0 a1_1).bind fun bt166 => (if t103 = true then (some false) else (some false)))) else (if t103 = true then (some false) else (some false))))) else (if t103 = true then (some false) else (some false)))))))))))) = some r := H
 have A10 := Aside0.mk A100
 clear A100
 by_cases c11 : (!(t104 == t108) || (!(t105 == t109))) = true
 ·rw [if_pos c11] at H
  have c11b0 : (!(t104 == t108) || (!(t105 == t109))) = true := c11
  clear c11
  exact NF.go H hr.out (by repeat' first | exact NF.none | exact NF.ff | refine NF.ite ?_ ?_ | refine NF.bind (fun _ => ?_))
 ·rw [if_neg c11] at H
  have c11b0 : (!(t104 == t108) || (!(t105 == t109))) = false := by simpa using c11
  clear c11
  by_cases c12 : (t106 != t110) = true
  ·rw [if_pos c12] at H
   have c12b0 : (t106 != t110) = true := c12
   (try (have c12b1 : decide (t106 = t110) = false := by simpa using c12))
   (try (have c12b2 : (t106 == t110) = false := by simpa using c12))
   (try (have c12b3 : ¬ (t106 = t110) := by simpa using c12))
   clear c12
   exact NF.go H hr.out (by repeat' first | exact NF.none | exact NF.ff | refine NF.ite ?_ ?_ | refine NF.bind (fun _ => ?_))
  ·rw [if_neg c12] at H
   have c12b0 : (t106 != t110) = false := by simpa using c12
   (try (have c12b1 : decide (t106 = t110) = true := by simpa using c12))
   (try (have c12b2 : (t106 == t110) = true := by simpa using c12))
   clear c12
   by_cases c13 : (!(t112 == t116) || (!(t113 == t117))) = true
   ·rw [if_pos c13] at H
    have c13b0 : (!(t112 == t116) || (!(t113 == t117))) = true := c13
    clear c13
    exact NF.go H hr.out (by repeat' first | exact NF.none | exact NF.ff | refine NF.ite ?_ ?_ | refine NF.bind (fun _ => ?_))
   ·rw [if_neg c13] at H
    have c13b0 : (!(t112 == t116) || (!(t113 == t117))) = false := by simpa using c13
    clear c13
    by_cases c14 : (t114 != t118) = true
    ·rw [if_pos c14] at H
     have c14b0 : (t114 != t118) = true := c14
     (try (have c14b1 : decide (t114 = t118) = false := by simpa using c14))
     (try (have c14b2 : (t114 == t118) = false := by simpa using c14))
     (try (have c14b3 : ¬ (t114 = t118) := by simpa using c14))
     clear c14
     exact NF.go H hr.out (by repeat' first | exact NF.none | exact NF.ff | refine NF.ite ?_ ?_ | refine NF.bind (fun _ => ?_))
    ·rw [if_neg c14] at H
     have c14b0 : (t114 != t118) = false := by simpa using c14
     (try (have c14b1 : decide (t114 = t118) = true := by simpa using c14))
     (try (have c14b2 : (t114 == t118) = true := by simpa using c14))
     clear c14
     replace H := Option.bind_eq_some_iff.mp H
     obtain ⟨t120, A150, H⟩ := H
     replace H : ((bourneref09_Right.f a0_0 a0_1).bind fun t121 => (if (t120 == t121) = true then ((span_Of.f a2).bind fun bt122 => ((bourneref09_Of.f a2).bind fun bt124 => (if (bt122.1 == bt124.1 && (bt122.2 == bt124.2)) = true then ((span_Has.f a0_0 a0_1 a2).bind fun t126 => ((bourneref09_Has.f a0_0 a0_1 a2).bind fun t127 => ((span_Add.f a0_0 a0_1 a1_0 a1_1).bind fun bt128 => ((bourneref09_Add.f a0_0 a0_1 a1_0 a1_1).bind fun bt130 => (if (bt128.1 == bt130.1 && (bt128.2 == bt130.2)) = true then ((span_Sub.f a0_0 a0_1 a1_0 a1_1).bind fun bt132 => ((bourneref09_Sub.f a0_0 a0_1 a1_0 a1_1).bind fun bt134 => (if (bt132.1 == bt134.1 && (bt132.2 == bt134.2)) = true then ((span_Join.f a0_0 a0_1 a1_0 a1_1).bind fun bt136 => ((bourneref09_Join.f a0_0 a0_1 a1_0 a1_1).bind fun bt138 => (if t103 = true then (if (t126 == t127) = true then (if (bt136.1 == bt138.1 && (bt136.2 == bt138.2)) = true then ((span_Within.f a0_0 a0_1 a1_0 a1_1).bind fun t140 => ((bourneref09_Within.f a0_0 a0_1 a1_0 a1_1).bind fun t141 => (if (t140 == t141) = true then ((span_Width.f a0_0 a0_1).bind fun t142 => ((bourneref09_Width.f a0_0 a0_1).bind fun t143 => (some (t142 == t143)))) else (some false)))) else (some false)) else (some false)) else (some false)))) else (if t103 = true then (if (t126 == t127) = true then (some false) else (some false)) else (some false))))) else (if t103 = true then (if (t126 == t127) = true then (some false) else (some false)) else (some false))))))) else ((span_Add.f a0_0 a0_1 a1_0 a1_1).bind fun bt144 => ((bourneref09_Add.f a0_0 a0_1 a1_0 a1_1).bind fun bt146 => (if (bt144.1 == bt146.1 && (bt144.2 == bt146.2)) = true then ((span_Sub.f a0_0 a0_1 a1_0 a1_1).bind fun bt148 => ((bourneref09_Sub.f a0_0 a0_1 a1_0 a1_1).bind fun bt150 => (if (bt148.1 == bt150.1 && (bt148.2 == bt150.2)) = true then ((span_Join.f a0_0 a0_1 a1_0 a1_1).bind fun bt152 => ((bourneref09_Join.f a0_0 a0_1 a1_0 a1_1).bind fun bt154 => (if t103 = true then (some false) else (some false)))) else (if t103 = true then (some false) else (some false))))) else (if t103 = true then (some false) else (some false)))))))) else ((span_Add.f a0_0 a0_1 a1_0 a1_1).bind fun bt156 => ((bourneref09_Add.f a0_0 a0_1 a1_0 a1_1).bind fun bt158 => (if (bt156.1 == bt158.1 && (bt156.2 == bt158.2)) = true then ((span_Sub.f a0_0 a0_1 a1_0 a1_1).bind fun bt160 => ((bourneref09_Sub.f a0_0 a0_1 a1_0 a1_1).bind fun bt162 => (if (bt160.1 == bt162.1 && (bt160.2 == bt162.2)) = true then ((span_Join.f a0_0 a0_1 a1_0 a1_1).bind fun bt164 => ((bourneref09_Join.f a0_0 a0_1 a1_0 a1_1).bind fun bt166 => (if t103 = true then (some false) else (some false)))) else (if t103 = true then (some false) else (some false))))) else (if t103 = true then (some false) else (some false))))))) = some r := H
     have A15 := Aside0.mk A150
     clear A150
     replace H := Option.bind_eq_some_iff.mp H
     obtain ⟨t121, A160, H⟩ := H
     replace H : (if (t120 == t121) = true then ((span_Of.f a2).bind fun bt122 => ((bourneref09_Of.f a2).bind fun bt124 => (if (bt122.1 == bt124.1 && (bt122.2 == bt124.2)) = true then ((span_Has.f a0_0 a0_1 a2).bind fun t126 => ((bourneref09_Has.f a0_0 a0_1 a2).bind fun t127 => ((span_Add.f a0_0 a0_1 a1_0 a1_1).bind fun bt128 => ((bourneref09_Add.f a0_0 a0_1 a1_0 a1_1).bind fun bt130 => (if (bt128.1 == bt130.1 && (bt128.2 == bt130.2)) = true then ((span_Sub.f a0_0 a0_1 a1_0 a1_1).bind fun bt132 => ((bourneref09_Sub.f a0_0 a0_1 a1_0 a1_1).bind fun bt134 => (if (bt132.1 == bt134.1 && (bt132.2 == bt134.2)) = true then ((span_Join.f a0_0 a0_1 a1_0 a1_1).bind fun bt136 => ((bourneref09_Join.f a0_0 a0_1 a1_0 a1_1).bind fun bt138 => (if t103 = true then (if (t126 == t127) = true then (if (bt136.1 == bt138.1 && (bt136.2 == bt138.2)) = true then ((span_Within.f a0_0 a0_1 a1_0 a1_1).bind fun t140 => ((bourneref09_Within.f a0_0 a0_1 a1_0 a1_1).bind fun t141 => (if (t140 == t141) = true then ((span_Width.f a0_0 a0_1).bind fun t142 => ((bourneref09_Width.f a0_0 a0_1).bind fun t143 => (some (t142 == t143)))) else (some false)))) else (some false)) else (some false)) else (some false)))) else (if t103 = true then (if (t126 == t127) = true then (some false) else (some false)) else (some false))))) else (if t103 = true then (if (t126 == t127) = true then (some false) else (some false)) else (some false))))))) else ((span_Add.f a0_0 a0_1 a1_0 a1_1).bind fun bt144 => ((bourneref09_Add.f a0_0 a0_1 a1_0 a1_1).bind fun bt146 => (if (bt144.1 == bt146.1 && (bt144.2 == bt146.2)) = true then ((span_Sub.f a0_0 a0_1 a1_0 a1_1).bind fun bt148 => ((bourneref09_Sub.f a0_0 a0_1 a1_0 a1_1).bind fun bt150 => (if (bt148.1 == bt150.1 && (bt148.2 == bt150.2)) = true then ((span_Join.f a0_0 a0_1 a1_0 a1_1).bind fun bt152 => ((bourneref09_Join.f a0_0 a0_1 a1_0 a1_1).bind fun bt154 => (if t103 = true then (some false) else (some false)))) else (if t103 = true then (some false) else (some false))))) else (if t103 = true then (some false) else (some false)))))))) else ((span_Add.f a0_0 a0_1 a1_0 a1_1).bind fun bt156 => ((bourneref09_Add.f a0_0 a0_1 a1_0 a1_1).bind fun bt158 => (if (bt156.1 == bt158.1 && (bt156.2 == bt158.2)) = true then ((span_Sub.f a0_0 a0_1 a1_0 a1_1).bind fun bt160 => ((bourneref09_Sub.f a0_0 a0_1 a1_0 a1_1).bind fun bt162 => (if (bt160.1 == bt162.1 && (bt160.2 == bt162.2)) = true then ((span_Join.f a0_0 a0_1 a1_0 a1_1).bind fun bt164 => ((bourneref09_Join.f a0_0 a0_1 a1_0 a1_1).bind fun bt166 => (if t103 = true then (some false) else (some false)))) else (if t103 = true then (some false) else (some false))))) else (if t103 = true then (some false) else (some false)))))) = some r := H
     have A16 := Aside0.mk A160
     clear A160
     by_cases c17 : (t120 == t121) = true
     ·rw [if_pos c17] at H
      have c17b0 : (t120 == t121) = true := c17
      (try (have c17b1 : decide (t120 = t121) = true := by simpa using c17))
      (try (have c17b2 : (t120 == t121) = true := by simpa using c17))
      clear c17
      replace H := Option.bind_eq_some_iff.mp H
      obtain ⟨⟨t122, t123⟩, A180, H⟩ := H
      replace H : ((bourneref09_Of.f a2).bind fun bt124 => (if (t122 == bt124.1 && (t123 == bt124.2)) = true then ((span_Has.f a0_0 a0_1 a2).bind fun t126 => ((bourneref09_Has.f a0_0 a0_1 a2).bind fun t127 => ((span_Add.f a0_0 a0_1 a1_0 a1_1).bind fun bt128 => ((bourneref09_Add.f a0_0 a0_1 a1_0 a1_1).bind fun bt130 => (if (bt128.1 == bt130.1 && (bt128.2 == bt130.2)) = true then ((span_Sub.f a0_0 a0_1 a1_0 a1_1).bind fun bt132 => ((bourneref09_Sub.f a0_0 a0_1 a1_0 a1_1).bind fun bt134 => (if (bt132.1 == bt134.1 && (bt132.2 == bt134.2)) = true then ((span_Join.f a0_0 a0_1 a1_0 a1_1).bind fun bt136 => ((bourneref09_Join.f a0_0 a0_1 a1_0 a1_1).bind fun bt138 => (if t103 = true then (if (t126 == t127) = true then (if (bt136.1 == bt138.1 && (bt136.2 == bt138.2)) = true then ((span_Within.f a0_0 a0_1 a1_0 a1_1).bind fun t140 => ((bourneref09_Within.f a0_0 a0_1 a1_0 a1_1).bind fun t141 => (if (t140 == t141) = true then ((span_Width.f a0_0 a0_1).bind fun t142 => ((bourneref09_Width.f a0_0 a0_1).bind fun t143 => (some (t142 == t143)))) else (some false)))) else (some false)) else (some false)) else (some false)))) else (if t103 = true then (if (t126 == t127) = true then (some false) else (some false)) else (some false))))) else (if t103 = true then (if (t126 == t127) = true then (some false) else (some false)) else (some false))))))) else ((span_Add.f a0_0 a0_1 a1_0 a1_1).bind fun bt144 => ((bourneref09_Add.f a0_0 a0_1 a1_0 a1_1).bind fun bt146 => (if (bt144.1 == bt146.1 && (bt144.2 == bt146.2)) = true then ((span_Sub.f a0_0 a0_1 a1_0 a1_1).bind fun bt148 => ((bourneref09_Sub.f a0_0 a0_1 a1_0 a1_1).bind fun bt150 => (if (bt148.1 == bt150.1 && (bt148.2 == bt150.2)) = true then ((span_Join.f a0_0 a0_1 a1_0 a1_1).bind fun bt152 => ((bourneref09_Join.f a0_0 a0_1 a1_0 a1_1).bind fun bt154 => (if t103 = true then (some false) else (some false)))) else (if t103 = true then (some false) else (some false))))) else (if t103 = true then (some false) else (some false))))))) = some r := H
      have A18 := Aside0.mk A180
      clear A180
      replace H := Option.bind_eq_some_iff.mp H
      obtain ⟨⟨t124, t125⟩, A190, H⟩ := H
      replace H : (if (t122 == t124 && (t123 == t125)) = true then ((span_Has.f a0_0 a0_1 a2).bind fun t126 => ((bourneref09_Has.f a0_0 a0_1 a2).bind fun t127 => ((span_Add.f a0_0 a0_1 a1_0 a1_1).bind fun bt128 => ((bourneref09_Add.f a0_0 a0_1 a1_0 a1_1).bind fun bt130 => (if (bt128.1 == bt130.1 && (bt128.2 == bt130.2)) = true then ((span_Sub.f a0_0 a0_1 a1_0 a1_1).bind fun bt132 => ((bourneref09_Sub.f a0_0 a0_1 a1_0 a1_1).bind fun bt134 => (if (bt132.1 == bt134.1 && (bt132.2 == bt134.2)) = true then ((span_Join.f a0_0 a0_1 a1_0 a1_1).bind fun bt136 => ((bourneref09_Join.f a0_0 a0_1 a1_0 a1_1).bind fun bt138 => (if t103 = true then (if (t126 == t127) = true then (if (bt136.1 == bt138.1 && (bt136.2 == bt138.2)) = true then ((span_Within.f a0_0 a0_1 a1_0 a1_1).bind fun t140 => ((bourneref09_Within.f a0_0 a0_1 a1_0 a1_1).bind fun t141 => (if (t140 == t141) = true then ((span_Width.f a0_0 a0_1).bind fun t142 => ((bourneref09_Width.f a0_0 a0_1).bind fun t143 => (some (t142 == t143)))) else (some false)))) else (some false)) else (some false)) else (some false)))) else (if t103 = true then (if (t126 == t127) = true then (some false) else (some false)) else (some false))))) else (if t103 = true then (if (t126 == t127) = true then (some false) else (some false)) else (some false))))))) else ((span_Add.f a0_0 a0_1 a1_0 a1_1).bind fun bt144 => ((bourneref09_Add.f a0_0 a0_1 a1_0 a1_1).bind fun bt146 => (if (bt144.1 == bt146.1 && (bt144.2 == bt146.2)) = true then ((span_Sub.f a0_0 a0_1 a1_0 a1_1).bind fun bt148 => ((bourneref09_Sub.f a0_0 a0_1 a1_0 a1_1).bind fun bt150 => (if (bt148.1 == bt150.1 && (bt148.2 == bt150.2)) = true then ((span_Join.f a0_0 a0_1 a1_0 a1_1).bind fun bt152 => ((bourneref09_Join.f a0_0 a0_1 a1_0 a1_1).bind fun bt154 => (if t103 = true then (some false) else (some false)))) else (if t103 = true then (some false) else (some false))))) else (if t103 = true then (some false) else (some false)))))) = some r := H
      have A19 := Aside0.mk A190
      clear A190
      by_cases c20 : (t122 == t124 && (t123 == t125)) = true
      ·rw [if_pos c20] at H
       have c20b0 : (t122 == t124 && (t123 == t125)) = true := c20
       (try (have c20b1 : decide (t122 = t124 && (t123 == t125)) = true := by simpa using c20))
       (try (have c20b2 : (t122 == t124 && (t123 == t125)) = true := by simpa using c20))
       clear c20
       replace H := Option.bind_eq_some_iff.mp H
       obtain ⟨t126, A210, H⟩ := H
       replace H : ((bourneref09_Has.f a0_0 a0_1 a2).bind fun t127 => ((span_Add.f a0_0 a0_1 a1_0 a1_1).bind fun bt128 => ((bourneref09_Add.f a0_0 a0_1 a1_0 a1_1).bind fun bt130 => (if (bt128.1 == bt130.1 && (bt128.2 == bt130.2)) = true then ((span_Sub.f a0_0 a0_1 a1_0 a1_1).bind fun bt132 => ((bourneref09_Sub.f a0_0 a0_1 a1_0 a1_1).bind fun bt134 => (if (bt132.1 == bt134.1 && (bt132.2 == bt134.2)) = true then ((span_Join.f a0_0 a0_1 a1_0 a1_1).bind fun bt136 => ((bourneref09_Join.f a0_0 a0_1 a1_0 a1_1).bind fun bt138 => (if t103 = true then (if (t126 == t127) = true then (if (bt136.1 == bt138.1 && (bt136.2 == bt138.2)) = true then ((span_Within.f a0_0 a0_1 a1_0 a1_1).bind fun t140 => ((bourneref09_Within.f a0_0 a0_1 a1_0 a1_1).bind fun t141 => (if (t140 == t141) = true then ((span_Width.f a0_0 a0_1).bind fun t142 => ((bourneref09_Width.f a0_0 a0_1).bind fun t143 => (some (t142 == t143)))) else (some false)))) else (some false)) else (some false)) else (some false)))) else (if t103 = true then (if (t126 == t127) = true then (some false) else (some false)) else (some false))))) else (if t103 = true then (if (t126 == t127) = true then (some false) else (some false)) else (some false)))))) = some r := H
       have A21 := Aside0.mk A210
       clear A210
       replace H := Option.bind_eq_some_iff.mp H
       obtain ⟨t127, A220, H⟩ := H
       replace H : ((span_Add.f a0_0 a0_1 a1_0 a1_1).bind fun bt128 => ((bourneref09_Add.f a0_0 a0_1 a1_0 a1_1).bind fun bt130 => (if (bt128.1 == bt130.1 && (bt128.2 == bt130.2)) = true then ((span_Sub.f a0_0 a0_1 a1_0 a1_1).bind fun bt132 => ((bourneref09_Sub.f a0_0 a0_1 a1_0 a1_1).bind fun bt134 => (if (bt132.1 == bt134.1 && (bt132.2 == bt134.2)) = true then ((span_Join.f a0_0 a0_1 a1_0 a1_1).bind fun bt136 => ((bourneref09_Join.f a0_0 a0_1 a1_0 a1_1).bind fun bt138 => (if t103 = true then (if (t126 == t127) = true then (if (bt136.1 == bt138.1 && (bt136.2 == bt138.2)) = true then ((span_Within.f a0_0 a0_1 a1_0 a1_1).bind fun t140 => ((bourneref09_Within.f a0_0 a0_1 a1_0 a1_1).bind fun t141 => (if (t140 == t141) = true then ((span_Width.f a0_0 a0_1).bind fun t142 => ((bourneref09_Width.f a0_0 a0_1).bind fun t143 => (some (t142 == t143)))) else (some false)))) else (some false)) else (some false)) else (some false)))) else (if t103 = true then (if (t126 == t127) = true then (some false) else (some false)) else (some false))))) else (if t103 = true then (if (t126 == t127) = true then (some false) else (some false)) else (some false))))) = some r := H
       have A22 := Aside0.mk A220
       clear A220
       replace H := Option.bind_eq_some_iff.mp H
       obtain ⟨⟨t128, t129⟩, A230, H⟩ := H
       replace H : ((bourneref09_Add.f a0_0 a0_1 a1_0 a1_1).bind fun bt130 => (if (t128 == bt130.1 && (t129 == bt130.2)) = true then ((span_Sub.f a0_0 a0_1 a1_0 a1_1).bind fun bt132 => ((bourneref09_Sub.f a0_0 a0_1 a1_0 a1_1).bind fun bt134 => (if (bt132.1 == bt134.1 && (bt132.2 == bt134.2)) = true then ((span_Join.f a0_0 a0_1 a1_0 a1_1).bind fun bt136 => ((bourneref09_Join.f a0_0 a0_1 a1_0 a1_1).bind fun bt138 => (if t103 = true then (if (t126 == t127) = true then (if (bt136.1 == bt138.1 && (bt136.2 == bt138.2)) = true then ((span_Within.f a0_0 a0_1 a1_0 a1_1).bind fun t140 => ((bourneref09_Within.f a0_0 a0_1 a1_0 a1_1).bind fun t141 => (if (t140 == t141) = true then ((span_Width.f a0_0 a0_1).bind fun t142 => ((bourneref09_Width.f a0_0 a0_1).bind fun t143 => (some (t142 == t143)))) else (some false)))) else (some false)) else (some false)) else (some false)))) else (if t103 = true then (if (t126 == t127) = true then (some false) else (some false)) else (some false))))) else (if t103 = true then (if (t126 == t127) = true then (some false) else (some false)) else (some false)))) = some r := H
       have A23 := Aside0.mk A230
       clear A230
       replace H := Option.bind_eq_some_iff.mp H
       obtain ⟨⟨t130, t131⟩, A240, H⟩ := H
       replace H : (if (t128 == t130 && (t129 == t131)) = true then ((span_Sub.f a0_0 a0_1 a1_0 a1_1).bind fun bt132 => ((bourneref09_Sub.f a0_0 a0_1 a1_0 a1_1).bind fun bt134 => (if (bt132.1 == bt134.1 && (bt132.2 == bt134.2)) = true then ((span_Join.f a0_0 a0_1 a1_0 a1_1).bind fun bt136 => ((bourneref09_Join.f a0_0 a0_1 a1_0 a1_1).bind fun bt138 => (if t103 = true then (if (t126 == t127) = true then (if (bt136.1 == bt138.1 && (bt136.2 == bt138.2)) = true then ((span_Within.f a0_0 a0_1 a1_0 a1_1).bind fun t140 => ((bourneref09_Within.f a0_0 a0_1 a1_0 a1_1).bind fun t141 => (if (t140 == t141) = true then ((span_Width.f a0_0 a0_1).bind fun t142 => ((bourneref09_Width.f a0_0 a0_1).bind fun t143 => (some (t142 == t143)))) else (some false)))) else (some false)) else (some false)) else (some false)))) else (if t103 = true then (if (t126 == t127) = true then (some false) else (some false)) else (some false))))) else (if t103 = true then (if (t126 == t127) = true then (some false) else (some false)) else (some false))) = some r := H
       have A24 := Aside0.mk A240
       clear A240
       by_cases c25 : (t128 == t130 && (t129 == t131)) = true
       ·rw [if_pos c25] at H
        have c25b0 : (t128 == t130 && (t129 == t131)) = true := c25
        (try (have c25b1 : decide (t128 = t130 && (t129 == t131)) = true := by simpa using c25))
        (try (have c25b2 : (t128 == t130 && (t129 == t131)) = true := by simpa using c25))
        clear c25
        replace H := Option.bind_eq_some_iff.mp H
        obtain ⟨⟨t132, t133⟩, A260, H⟩ := H
        replace H : ((bourneref09_Sub.f a0_0 a0_1 a1_0 a1_1).bind fun bt134 => (if (t132 == bt134.1 && (t133 == bt134.2)) = true then ((span_Join.f a0_0 a0_1 a1_0 a1_1).bind fun bt136 => ((bourneref09_Join.f a0_0 a0_1 a1_0 a1_1).bind fun bt138 => (if t103 = true then (if (t126 == t127) = true then (if (bt136.1 == bt138.1 && (bt136.2 == bt138.2)) = true then ((span_Within.f a0_0 a0_1 a1_0 a1_1).bind fun t140 => ((bourneref09_Within.f a0_0 a0_1 a1_0 a1_1).bind fun t141 => (if (t140 == t141) = true then ((span_Width.f a0_0 a0_1).bind fun t142 => ((bourneref09_Width.f a0_0 a0_1).bind fun t143 => (some (t142 == t143)))) else (some false)))) else (some false)) else (some false)) else (some false)))) else (if t103 = true then (if (t126 == t127) = true then (some false) else (some false)) else (some false)))) = some r := H
        have A26 := Aside0.mk A260
        clear A260
        replace H := Option.bind_eq_some_iff.mp H
        obtain ⟨⟨t134, t135⟩, A270, H⟩ := H
        replace H : (if (t132 == t134 && (t133 == t135)) = true then ((span_Join.f a0_0 a0_1 a1_0 a1_1).bind fun bt136 => ((bourneref09_Join.f a0_0 a0_1 a1_0 a1_1).bind fun bt138 => (if t103 = true then (if (t126 == t127) = true then (if (bt136.1 == bt138.1 && (bt136.2 == bt138.2)) = true then ((span_Within.f a0_0 a0_1 a1_0 a1_1).bind fun t140 => ((bourneref09_Within.f a0_0 a0_1 a1_0 a1_1).bind fun t141 => (if (t140 == t141) = true then ((span_Width.f a0_0 a0_1).bind fun t142 => ((bourneref09_Width.f a0_0 a0_1).bind fun t143 => (some (t142 == t143)))) else (some false)))) else (some false)) else (some false)) else (some false)))) else (if t103 = true then (if (t126 == t127) = true then (some false) else (some false)) else (some false))) = some r := H
        have A27 := Aside0.mk A270
        clear A270
        by_cases c28 : (t132 == t134 && (t133 == t135)) = true
        ·rw [if_pos c28] at H
         have c28b0 : (t132 == t134 && (t133 == t135)) = true := c28
         (try (have c28b1 : decide (t132 = t134 && (t133 == t135)) = true := by simpa using c28))
         (try (have c28b2 : (t132 == t134 && (t133 == t135)) = true := by simpa using c28))
         clear c28
         replace H := Option.bind_eq_some_iff.mp H
         obtain ⟨⟨t136, t137⟩, A290, H⟩ := H
         replace H : ((bourneref09_Join.f a0_0 a0_1 a1_0 a1_1).bind fun bt138 => (if t103 = true then (if (t126 == t127) = true then (if (t136 == bt138.1 && (t137 == bt138.2)) = true then ((span_Within.f a0_0 a0_1 a1_0 a1_1).bind fun t140 => ((bourneref09_Within.f a0_0 a0_1 a1_0 a1_1).bind fun t141 => (if (t140 == t141) = true then ((span_Width.f a0_0 a0_1).bind fun t142 => ((bourneref09_Width.f a0_0 a0_1).bind fun t143 => (some (t142 == t143)))) else (some false)))) else (some false)) else (some false)) else (some false))) = some r := H
         have A29 := Aside0.mk A290
         clear A290
         replace H := Option.bind_eq_some_iff.mp H
         obtain ⟨⟨t138, t139⟩, A300, H⟩ := H
         replace H : (if t103 = true then (if (t126 == t127) = true then (if (t136 == t138 && (t137 == t139)) = true then ((span_Within.f a0_0 a0_1 a1_0 a1_1).bind fun t140 => ((bourneref09_Within.f a0_0 a0_1 a1_0 a1_1).bind fun t141 => (if (t140 == t141) = true then ((span_Width.f a0_0 a0_1).bind fun t142 => ((bourneref09_Width.f a0_0 a0_1).bind fun t143 => (some (t142 == t143)))) else (some false)))) else (some false)) else (some false)) else (some false)) = some r := H
         have A30 := Aside0.mk A300
         clear A300
         by_cases c31 : t103 = true
         ·subst c31
          have H1 : (if (t126 == t127) = true then (if (t136 == t138 && (t137 == t139)) = true then ((span_Within.f a0_0 a0_1 a1_0 a1_1).bind fun t140 => ((bourneref09_Within.f a0_0 a0_1 a1_0 a1_1).bind fun t141 => (if (t140 == t141) = true then ((span_Width.f a0_0 a0_1).bind fun t142 => ((bourneref09_Width.f a0_0 a0_1).bind fun t143 => (some (t142 == t143)))) else (some false)))) else (some false)) else (some false)) = some r := by rw [if_pos rfl] at H; exact H
          clear H
          have H := H1
          clear H1
          by_cases c32 : (t126 == t127) = true
          ·rw [if_pos c32] at H
           have c32b0 : (t126 == t127) = true := c32
           (try (have c32b1 : decide (t126 = t127) = true := by simpa using c32))
           (try (have c32b2 : (t126 == t127) = true := by simpa using c32))
           clear c32
           by_cases c33 : (t136 == t138 && (t137 == t139)) = true
           ·rw [if_pos c33] at H
            have c33b0 : (t136 == t138 && (t137 == t139)) = true := c33
            (try (have c33b1 : decide (t136 = t138 && (t137 == t139)) = true := by simpa using c33))
            (try (have c33b2 : (t136 == t138 && (t137 == t139)) = true := by simpa using c33))
            clear c33
            replace H := Option.bind_eq_some_iff.mp H
            obtain ⟨t140, A340, H⟩ := H
            replace H : ((bourneref09_Within.f a0_0 a0_1 a1_0 a1_1).bind fun t141 => (if (t140 == t141) = true then ((span_Width.f a0_0 a0_1).bind fun t142 => ((bourneref09_Width.f a0_0 a0_1).bind fun t143 => (some (t142 == t143)))) else (some false))) = some r := H
            have A34 := Aside0.mk A340
            clear A340
            replace H := Option.bind_eq_some_iff.mp H
            obtain ⟨t141, A350, H⟩ := H
            replace H : (if (t140 == t141) = true then ((span_Width.f a0_0 a0_1).bind fun t142 => ((bourneref09_Width.f a0_0 a0_1).bind fun t143 => (some (t142 == t143)))) else (some false)) = some r := H
            have A35 := Aside0.mk A350
            clear A350
            by_cases c36 : (t140 == t141) = true
            ·rw [if_pos c36] at H
             have c36b0 : (t140 == t141) = true := c36
             (try (have c36b1 : decide (t140 = t141) = true := by simpa using c36))
             (try (have c36b2 : (t140 == t141) = true := by simpa using c36))
             clear c36
             replace H := Option.bind_eq_some_iff.mp H
             obtain ⟨t142, A370, H⟩ := H
             replace H : ((bourneref09_Width.f a0_0 a0_1).bind fun t143 => (some (t142 == t143))) = some r := H
             have A37 := Aside0.mk A370
             clear A370
             replace H := Option.bind_eq_some_iff.mp H
             obtain ⟨t143, A380, H⟩ := H
             replace H : (some (t142 == t143)) = some r := H
             have A38 := Aside0.mk A380
             clear A380
             obtain rfl := Option.some.inj H
             go_enter Try.func3, Try.ntmps3
             try go_wp2_with (first | ((with_reducible refine gate_dst (N := 5) rfl ?_); refine box_event ?hg (N := 5) ?hd (cs := #[.int .i64 a0_0, .int .i64 a0_1]) (t := 23) ?hr ?_; (case hd => rfl); (case hg => rfl); (case hr => first | (go_simp; done) | (go_simp; rfl)); intro gb101 hg w39 hbox hb; have n0_ := Aside0.mk (below_step ahx hb); have n1_ := Aside0.mk (hbox); have n2_ := Aside0.mk ((by rw [hg]; exact (below_size ahx) : w.heap.size ≤ gb101)); have n3_ := Aside0.mk ((by rw [hg]; exact (below_size ahx) : w.heap.size ≤ gb101)); clear HB; have HB := n0_; have BK101 := n1_; have GW101 := n2_; have GE101 := n3_; clear n0_ n1_ n2_ n3_; clear hb hbox hg) | ((with_reducible refine gate_dst (N := 6) rfl ?_); refine box_event ?hg (N := 6) ?hd (cs := #[.int .i64 a1_0, .int .i64 a1_1]) (t := 23) ?hr ?_; (case hd => rfl); (case hg => rfl); (case hr => first | (go_simp; done) | (go_simp; rfl)); intro gb102 hg w40 hbox hb; have n0_ := Aside0.mk (blk_below (g := gb101) (o := .cells #[.int .i64 a0_0, .int .i64 a0_1] 23 (0, 0)) abx hb); have n1_ := Aside0.mk (below_step ahx hb); have n2_ := Aside0.mk (hbox); have n3_ := Aside0.mk ((by rw [hg]; exact (below_size ahx) : w.heap.size ≤ gb102)); have n4_ := Aside0.mk ((by rw [hg]; exact (below_size ahx) : w.heap.size ≤ gb102)); have n5_ := Aside0.mk ((by rw [hg]; exact Nat.ne_of_lt (blk_lt (g := gb101) (o := .cells #[.int .i64 a0_0, .int .i64 a0_1] 23 (0, 0)) abx) : gb101 ≠ gb102)); have n6_ := Aside0.mk ((by rw [hg]; exact Nat.ne_of_gt (blk_lt (g := gb101) (o := .cells #[.int .i64 a0_0, .int .i64 a0_1] 23 (0, 0)) abx) : gb102 ≠ gb101)); clear BK101; clear HB; have BK101 := n0_; have HB := n1_; have BK102 := n2_; have GW102 := n3_; have GE102 := n4_; have NB101_102 := n5_; have NB102_101 := n6_; clear n0_ n1_ n2_ n3_ n4_ n5_ n6_; clear hb hbox hg) | ((with_reducible refine gate_callee (f := 8) rfl ?_); refine goesL_ (some 22) rfl rfl Try.func8 (by kernel_rfl) rfl #[] rfl (by first | done | rfl) ?_; (with_reducible refine (bournelaw09_small.calls  true _ A6.out).mono ?_); rintro e w41 ⟨rfl, hb⟩; refine ⟨_, rfl, ?_⟩; have n0_ := Aside0.mk (blk_below (g := gb101) (o := .cells #[.int .i64 a0_0, .int .i64 a0_1] 23 (0, 0)) abx hb); have n1_ := Aside0.mk (blk_below (g := gb102) (o := .cells #[.int .i64 a1_0, .int .i64 a1_1] 23 (0, 0)) abx hb); have n2_ := Aside0.mk (below_step ahx hb); clear BK101; clear BK102; clear HB; have BK101 := n0_; have BK102 := n1_; have HB := n2_; clear n0_ n1_ n2_; (try clear hb); (try clear hb2); (try clear hk); (try clear hi); have hnb42 := NB101_102.out; have hnc42 := NB102_101.out; have hcz43_0 : w41.cell? ⟨gb101, 0, none⟩ = some (.int .i64 a0_0) := (blk_cell BK101.out 0).trans rfl; have hcz43_1 : w41.cell? ⟨gb101, 1, none⟩ = some (.int .i64 a0_1) := (blk_cell BK101.out 1).trans rfl; have hfz43_0 := blk_frozen BK101.out 0; have hfz43_1 := blk_frozen BK101.out 1) | (go_at_call 8; (with_reducible refine (bournelaw09_small.calls  true _ A6.out).mono ?_); rintro e w41 ⟨rfl, hb⟩; have n0_ := Aside0.mk (blk_below (g := gb101) (o := .cells #[.int .i64 a0_0, .int .i64 a0_1] 23 (0, 0)) abx hb); have n1_ := Aside0.mk (blk_below (g := gb102) (o := .cells #[.int .i64 a1_0, .int .i64 a1_1] 23 (0, 0)) abx hb); have n2_ := Aside0.mk (below_step ahx hb); clear BK101; clear BK102; clear HB; have BK101 := n0_; have BK102 := n1_; have HB := n2_; clear n0_ n1_ n2_; (try clear hb); (try clear hb2); (try clear hk); (try clear hi); have hnb42 := NB101_102.out; have hnc42 := NB102_101.out; have hcz43_0 : w41.cell? ⟨gb101, 0, none⟩ = some (.int .i64 a0_0) := (blk_cell BK101.out 0).trans rfl; have hcz43_1 : w41.cell? ⟨gb101, 1, none⟩ = some (.int .i64 a0_1) := (blk_cell BK101.out 1).trans rfl; have hfz43_0 := blk_frozen BK101.out 0; have hfz43_1 := blk_frozen BK101.out 1) | ((with_reducible refine gate_callee (f := 9) rfl ?_); refine goesL_ (some 27) rfl rfl Try.func9 (by kernel_rfl) rfl #[.agg #[.int .i64 a0_0, .int .i64 a0_1], .int .i64 a3, .int .i64 a4] rfl (by first | done | rfl) ?_; (with_reducible refine (span_Scale.calls a0_0 a0_1 a3 a4 t104 t105 t106 _ A7.out).mono ?_); rintro e w44 ⟨rfl, hb⟩; refine ⟨_, rfl, ?_⟩; have n0_ := Aside0.mk (blk_below (g := gb101) (o := .cells #[.int .i64 a0_0, .int .i64 a0_1] 23 (0, 0)) abx hb); have n1_ := Aside0.mk (blk_below (g := gb102) (o := .cells #[.int .i64 a1_0, .int .i64 a1_1] 23 (0, 0)) abx hb); have n2_ := Aside0.mk (below_step ahx hb); clear BK101; clear BK102; clear HB; have BK101 := n0_; have BK102 := n1_; have HB := n2_; clear n0_ n1_ n2_; (try clear hb); (try clear hb2); (try clear hk); (try clear hi)) | (go_at_call 9; (with_reducible refine (span_Scale.calls a0_0 a0_1 a3 a4 t104 t105 t106 _ A7.out).mono ?_); rintro e w44 ⟨rfl, hb⟩; have n0_ := Aside0.mk (blk_below (g := gb101) (o := .cells #[.int .i64 a0_0, .int .i64 a0_1] 23 (0, 0)) abx hb); have n1_ := Aside0.mk (blk_below (g := gb102) (o := .cells #[.int .i64 a1_0, .int .i64 a1_1] 23 (0, 0)) abx hb); have n2_ := Aside0.mk (below_step ahx hb); clear BK101; clear BK102; clear HB; have BK101 := n0_; have BK102 := n1_; have HB := n2_; clear n0_ n1_ n2_; (try clear hb); (try clear hb2); (try clear hk); (try clear hi)) | ((with_reducible refine gate_dst (N := 12) rfl ?_); refine box_event ?hg (N := 12) ?hd (cs := #[.int .i64 0, .int .i64 0]) (t := 23) ?hr ?_; (case hd => rfl); (case hg => rfl); (case hr => first | (go_simp; done) | (go_simp; rfl)); intro gb107 hg w45 hbox hb; have n0_ := Aside0.mk (blk_below (g := gb101) (o := .cells #[.int .i64 a0_0, .int .i64 a0_1] 23 (0, 0)) abx hb); have n1_ := Aside0.mk (blk_below (g := gb102) (o := .cells #[.int .i64 a1_0, .int .i64 a1_1] 23 (0, 0)) abx hb); have n2_ := Aside0.mk (below_step ahx hb); have n3_ := Aside0.mk (hbox); have n4_ := Aside0.mk ((by rw [hg]; exact (below_size ahx) : w.heap.size ≤ gb107)); have n5_ := Aside0.mk ((by rw [hg]; exact (below_size ahx) : w.heap.size ≤ gb107)); have n6_ := Aside0.mk ((by rw [hg]; exact Nat.ne_of_lt (blk_lt (g := gb101) (o := .cells #[.int .i64 a0_0, .int .i64 a0_1] 23 (0, 0)) abx) : gb101 ≠ gb107)); have n7_ := Aside0.mk ((by rw [hg]; exact Nat.ne_of_gt (blk_lt (g := gb101) (o := .cells #[.int .i64 a0_0, .int .i64 a0_1] 23 (0, 0)) abx) : gb107 ≠ gb101)); have n8_ := Aside0.mk ((by rw [hg]; exact Nat.ne_of_lt (blk_lt (g := gb102) (o := .cells #[.int .i64 a1_0, .int .i64 a1_1] 23 (0, 0)) abx) : gb102 ≠ gb107)); have n9_ := Aside0.mk ((by rw [hg]; exact Nat.ne_of_gt (blk_lt (g := gb102) (o := .cells #[.int .i64 a1_0, .int .i64 a1_1] 23 (0, 0)) abx) : gb107 ≠ gb102)); clear BK101; clear BK102; clear HB; have BK101 := n0_; have BK102 := n1_; have HB := n2_; have BK107 := n3_; have GW107 := n4_; have GE107 := n5_; have NB101_107 := n6_; have NB107_101 := n7_; have NB102_107 := n8_; have NB107_102 := n9_; clear n0_ n1_ n2_ n3_ n4_ n5_ n6_ n7_ n8_ n9_; clear hb hbox hg; have hnb46 := NB107_101.out; have hnc46 := NB101_107.out; have hnb47 := NB107_102.out; have hnc47 := NB102_107.out; have hcz48_0 : w45.cell? ⟨gb107, 0, none⟩ = some (.int .i64 0) := (blk_cell BK107.out 0).trans rfl; have hcz48_1 : w45.cell? ⟨gb107, 1, none⟩ = some (.int .i64 0) := (blk_cell BK107.out 1).trans rfl; have hfz48_0 := blk_frozen BK107.out 0; have hfz48_1 := blk_frozen BK107.out 1; have hcz49_0 : w45.cell? ⟨gb101, 0, none⟩ = some (.int .i64 a0_0) := (blk_cell BK101.out 0).trans rfl; have hcz49_1 : w45.cell? ⟨gb101, 1, none⟩ = some (.int .i64 a0_1) := (blk_cell BK101.out 1).trans rfl; have hfz49_0 := blk_frozen BK101.out 0; have hfz49_1 := blk_frozen BK101.out 1) | ((with_reducible refine gate_callee (f := 10) rfl ?_); refine goesL_ (some 34) rfl rfl Try.func10 (by kernel_rfl) rfl #[.agg #[.int .i64 a0_0, .int .i64 a0_1], .int .i64 a3, .int .i64 a4] rfl (by first | done | rfl) ?_; (with_reducible refine (bourneref09_Scale.calls a0_0 a0_1 a3 a4 t108 t109 t110 _ A8.out).mono ?_); rintro e w50 ⟨rfl, hb⟩; refine ⟨_, rfl, ?_⟩; have n0_ := Aside0.mk (blk_below (g := gb101) (o := .cells #[.int .i64 a0_0, .int .i64 a0_1] 23 (0, 0)) (by (with_reducible repeat (first | refine blk_drewN ?_ _ | refine blk_drew ?_ | refine blk_alloc ?_ _)); refine blk_far ?_ NB101_107.out _; (with_reducible repeat (first | refine blk_drewN ?_ _ | refine blk_drew ?_ | refine blk_alloc ?_ _)); refine blk_far ?_ NB101_107.out _; (with_reducible repeat (first | refine blk_drewN ?_ _ | refine blk_drew ?_ | refine blk_alloc ?_ _)); exact BK101.out) hb); have n1_ := Aside0.mk (blk_below (g := gb102) (o := .cells #[.int .i64 a1_0, .int .i64 a1_1] 23 (0, 0)) (by (with_reducible repeat (first | refine blk_drewN ?_ _ | refine blk_drew ?_ | refine blk_alloc ?_ _)); refine blk_far ?_ NB102_107.out _; (with_reducible repeat (first | refine blk_drewN ?_ _ | refine blk_drew ?_ | refine blk_alloc ?_ _)); refine blk_far ?_ NB102_107.out _; (with_reducible repeat (first | refine blk_drewN ?_ _ | refine blk_drew ?_ | refine blk_alloc ?_ _)); exact BK102.out) hb); have n2_ := Aside0.mk (blk_below (g := gb107) (o := .cells #[.int .i64 t104, .int .i64 t105] 23 (0, 0)) (by (with_reducible repeat (first | refine blk_drewN ?_ _ | refine blk_drew ?_ | refine blk_alloc ?_ _)); refine blk_put (cs := #[.int .i64 t104, .int .i64 0]) ?_ 1 _ rfl; (with_reducible repeat (first | refine blk_drewN ?_ _ | refine blk_drew ?_ | refine blk_alloc ?_ _)); refine blk_put (cs := #[.int .i64 0, .int .i64 0]) ?_ 0 _ rfl; (with_reducible repeat (first | refine blk_drewN ?_ _ | refine blk_drew ?_ | refine blk_alloc ?_ _)); exact BK107.out) hb); have n3_ := Aside0.mk (below_step ahx hb); clear BK101; clear BK102; clear BK107; clear HB; have BK101 := n0_; have BK102 := n1_; have BK107 := n2_; have HB := n3_; clear n0_ n1_ n2_ n3_; (try clear hb); (try clear hb2); (try clear hk); (try clear hi)) | (go_at_call 10; (with_reducible refine (bourneref09_Scale.calls a0_0 a0_1 a3 a4 t108 t109 t110 _ A8.out).mono ?_); rintro e w50 ⟨rfl, hb⟩; have n0_ := Aside0.mk (blk_below (g := gb101) (o := .cells #[.int .i64 a0_0, .int .i64 a0_1] 23 (0, 0)) (by (with_reducible repeat (first | refine blk_drewN ?_ _ | refine blk_drew ?_ | refine blk_alloc ?_ _)); refine blk_far ?_ NB101_107.out _; (with_reducible repeat (first | refine blk_drewN ?_ _ | refine blk_drew ?_ | refine blk_alloc ?_ _)); refine blk_far ?_ NB101_107.out _; (with_reducible repeat (first | refine blk_drewN ?_ _ | refine blk_drew ?_ | refine blk_alloc ?_ _)); exact BK101.out) hb); have n1_ := Aside0.mk (blk_below (g := gb102) (o := .cells #[.int .i64 a1_0, .int .i64 a1_1] 23 (0, 0)) (by (with_reducible repeat (first | refine blk_drewN ?_ _ | refine blk_drew ?_ | refine blk_alloc ?_ _)); refine blk_far ?_ NB102_107.out _; (with_reducible repeat (first | refine blk_drewN ?_ _ | refine blk_drew ?_ | refine blk_alloc ?_ _)); refine blk_far ?_ NB102_107.out _; (with_reducible repeat (first | refine blk_drewN ?_ _ | refine blk_drew ?_ | refine blk_alloc ?_ _)); exact BK102.out) hb); have n2_ := Aside0.mk (blk_below (g := gb107) (o := .cells #[.int .i64 t104, .int .i64 t105] 23 (0, 0)) (by (with_reducible repeat (first | refine blk_drewN ?_ _ | refine blk_drew ?_ | refine blk_alloc ?_ _)); refine blk_put (cs := #[.int .i64 t104, .int .i64 0]) ?_ 1 _ rfl; (with_reducible repeat (first | refine blk_drewN ?_ _ | refine blk_drew ?_ | refine blk_alloc ?_ _)); refine blk_put (cs := #[.int .i64 0, .int .i64 0]) ?_ 0 _ rfl; (with_reducible repeat (first | refine blk_drewN ?_ _ | refine blk_drew ?_ | refine blk_alloc ?_ _)); exact BK107.out) hb); have n3_ := Aside0.mk (below_step ahx hb); clear BK101; clear BK102; clear BK107; clear HB; have BK101 := n0_; have BK102 := n1_; have BK107 := n2_; have HB := n3_; clear n0_ n1_ n2_ n3_; (try clear hb); (try clear hb2); (try clear hk); (try clear hi)) | ((with_reducible refine gate_dst (N := 14) rfl ?_); refine box_event ?hg (N := 14) ?hd (cs := #[.int .i64 0, .int .i64 0]) (t := 23) ?hr ?_; (case hd => rfl); (case hg => rfl); (case hr => first | (go_simp; done) | (go_simp; rfl)); intro gb111 hg w51 hbox hb; have n0_ := Aside0.mk (blk_below (g := gb101) (o := .cells #[.int .i64 a0_0, .int .i64 a0_1] 23 (0, 0)) abx hb); have n1_ := Aside0.mk (blk_below (g := gb102) (o := .cells #[.int .i64 a1_0, .int .i64 a1_1] 23 (0, 0)) abx hb); have n2_ := Aside0.mk (blk_below (g := gb107) (o := .cells #[.int .i64 t104, .int .i64 t105] 23 (0, 0)) abx hb); have n3_ := Aside0.mk (below_step ahx hb); have n4_ := Aside0.mk (hbox); have n5_ := Aside0.mk ((by rw [hg]; exact (below_size ahx) : w.heap.size ≤ gb111)); have n6_ := Aside0.mk ((by rw [hg]; exact (below_size ahx) : w.heap.size ≤ gb111)); have n7_ := Aside0.mk ((by rw [hg]; exact Nat.ne_of_lt (blk_lt (g := gb101) (o := .cells #[.int .i64 a0_0, .int .i64 a0_1] 23 (0, 0)) abx) : gb101 ≠ gb111)); have n8_ := Aside0.mk ((by rw [hg]; exact Nat.ne_of_gt (blk_lt (g := gb101) (o := .cells #[.int .i64 a0_0, .int .i64 a0_1] 23 (0, 0)) abx) : gb111 ≠ gb101)); have n9_ := Aside0.mk ((by rw [hg]; exact Nat.ne_of_lt (blk_lt (g := gb102) (o := .cells #[.int .i64 a1_0, .int .i64 a1_1] 23 (0, 0)) abx) : gb102 ≠ gb111)); have n10_ := Aside0.mk ((by rw [hg]; exact Nat.ne_of_gt (blk_lt (g := gb102) (o := .cells #[.int .i64 a1_0, .int .i64 a1_1] 23 (0, 0)) abx) : gb111 ≠ gb102)); have n11_ := Aside0.mk ((by rw [hg]; exact Nat.ne_of_lt (blk_lt (g := gb107) (o := .cells #[.int .i64 t104, .int .i64 t105] 23 (0, 0)) abx) : gb107 ≠ gb111)); have n12_ := Aside0.mk ((by rw [hg]; exact Nat.ne_of_gt (blk_lt (g := gb107) (o := .cells #[.int .i64 t104, .int .i64 t105] 23 (0, 0)) abx) : gb111 ≠ gb107)); clear BK101; clear BK102; clear BK107; clear HB; have BK101 := n0_; have BK102 := n1_; have BK107 := n2_; have HB := n3_; have BK111 := n4_; have GW111 := n5_; have GE111 := n6_; have NB101_111 := n7_; have NB111_101 := n8_; have NB102_111 := n9_; have NB111_102 := n10_; have NB107_111 := n11_; have NB111_107 := n12_; clear n0_ n1_ n2_ n3_ n4_ n5_ n6_ n7_ n8_ n9_ n10_ n11_ n12_; clear hb hbox hg; have hnb52 := NB111_101.out; have hnc52 := NB101_111.out; have hnb53 := NB111_102.out; have hnc53 := NB102_111.out; have hnb54 := NB111_107.out; have hnc54 := NB107_111.out; have hcz55_0 : w51.cell? ⟨gb111, 0, none⟩ = some (.int .i64 0) := (blk_cell BK111.out 0).trans rfl; have hcz55_1 : w51.cell? ⟨gb111, 1, none⟩ = some (.int .i64 0) := (blk_cell BK111.out 1).trans rfl; have hfz55_0 := blk_frozen BK111.out 0; have hfz55_1 := blk_frozen BK111.out 1; have hcz56_0 : w51.cell? ⟨gb101, 0, none⟩ = some (.int .i64 a0_0) := (blk_cell BK101.out 0).trans rfl; have hcz56_1 : w51.cell? ⟨gb101, 1, none⟩ = some (.int .i64 a0_1) := (blk_cell BK101.out 1).trans rfl; have hfz56_0 := blk_frozen BK101.out 0; have hfz56_1 := blk_frozen BK101.out 1; have hcz57_0 : w51.cell? ⟨gb102, 0, none⟩ = some (.int .i64 a1_0) := (blk_cell BK102.out 0).trans rfl; have hcz57_1 : w51.cell? ⟨gb102, 1, none⟩ = some (.int .i64 a1_1) := (blk_cell BK102.out 1).trans rfl; have hfz57_0 := blk_frozen BK102.out 0; have hfz57_1 := blk_frozen BK102.out 1) | ((with_reducible refine gate_callee (f := 11) rfl ?_); refine goesL_ (some 40) rfl rfl Try.func11 (by kernel_rfl) rfl #[.agg #[.int .i64 a0_0, .int .i64 a0_1], .agg #[.int .i64 a1_0, .int .i64 a1_1]] rfl (by first | done | rfl) ?_; (with_reducible refine (span_Meet.calls a0_0 a0_1 a1_0 a1_1 t112 t113 t114 _ A9.out).mono ?_); rintro e w58 ⟨rfl, hb⟩; refine ⟨_, rfl, ?_⟩; have n0_ := Aside0.mk (blk_below (g := gb101) (o := .cells #[.int .i64 a0_0, .int .i64 a0_1] 23 (0, 0)) (by (with_reducible repeat (first | refine blk_drewN ?_ _ | refine blk_drew ?_ | refine blk_alloc ?_ _)); refine blk_far ?_ NB101_111.out _; (with_reducible repeat (first | refine blk_drewN ?_ _ | refine blk_drew ?_ | refine blk_alloc ?_ _)); refine blk_far ?_ NB101_111.out _; (with_reducible repeat (first | refine blk_drewN ?_ _ | refine blk_drew ?_ | refine blk_alloc ?_ _)); exact BK101.out) hb); have n1_ := Aside0.mk (blk_below (g := gb102) (o := .cells #[.int .i64 a1_0, .int .i64 a1_1] 23 (0, 0)) (by (with_reducible repeat (first | refine blk_drewN ?_ _ | refine blk_drew ?_ | refine blk_alloc ?_ _)); refine blk_far ?_ NB102_111.out _; (with_reducible repeat (first | refine blk_drewN ?_ _ | refine blk_drew ?_ | refine blk_alloc ?_ _)); refine blk_far ?_ NB102_111.out _; (with_reducible repeat (first | refine blk_drewN ?_ _ | refine blk_drew ?_ | refine blk_alloc ?_ _)); exact BK102.out) hb); have n2_ := Aside0.mk (blk_below (g := gb107) (o := .cells #[.int .i64 t104, .int .i64 t105] 23 (0, 0)) (by (with_reducible repeat (first | refine blk_drewN ?_ _ | refine blk_drew ?_ | refine blk_alloc ?_ _)); refine blk_far ?_ NB107_111.out _; (with_reducible repeat (first | refine blk_drewN ?_ _ | refine blk_drew ?_ | refine blk_alloc ?_ _)); refine blk_far ?_ NB107_111.out _; (with_reducible repeat (first | refine blk_drewN ?_ _ | refine blk_drew ?_ | refine blk_alloc ?_ _)); exact BK107.out) hb); have n3_ := Aside0.mk (blk_below (g := gb111) (o := .cells #[.int .i64 t108, .int .i64 t109] 23 (0, 0)) (by (with_reducible repeat (first | refine blk_drewN ?_ _ | refine blk_drew ?_ | refine blk_alloc ?_ _)); refine blk_put (cs := #[.int .i64 t108, .int .i64 0]) ?_ 1 _ rfl; (with_reducible repeat (first | refine blk_drewN ?_ _ | refine blk_drew ?_ | refine blk_alloc ?_ _)); refine blk_put (cs := #[.int .i64 0, .int .i64 0]) ?_ 0 _ rfl; (with_reducible repeat (first | refine blk_drewN ?_ _ | refine blk_drew ?_ | refine blk_alloc ?_ _)); exact BK111.out) hb); have n4_ := Aside0.mk (below_step ahx hb); clear BK101; clear BK102; clear BK107; clear BK111; clear HB; have BK101 := n0_; have BK102 := n1_; have BK107 := n2_; have BK111 := n3_; have HB := n4_; clear n0_ n1_ n2_ n3_ n4_; (try clear hb); (try clear hb2); (try clear hk); (try clear hi)) | (go_at_call 11; (with_reducible refine (span_Meet.calls a0_0 a0_1 a1_0 a1_1 t112 t113 t114 _ A9.out).mono ?_); rintro e w58 ⟨rfl, hb⟩; have n0_ := Aside0.mk (blk_below (g := gb101) (o := .cells #[.int .i64 a0_0, .int .i64 a0_1] 23 (0, 0)) (by (with_reducible repeat (first | refine blk_drewN ?_ _ | refine blk_drew ?_ | refine blk_alloc ?_ _)); refine blk_far ?_ NB101_111.out _; (with_reducible repeat (first | refine blk_drewN ?_ _ | refine blk_drew ?_ | refine blk_alloc ?_ _)); refine blk_far ?_ NB101_111.out _; (with_reducible repeat (first | refine blk_drewN ?_ _ | refine blk_drew ?_ | refine blk_alloc ?_ _)); exact BK101.out) hb); have n1_ := Aside0.mk (blk_below (g := gb102) (o := .cells #[.int .i64 a1_0, .int .i64 a1_1] 23 (0, 0)) (by (with_reducible repeat (first | refine blk_drewN ?_ _ | refine blk_drew ?_ | refine blk_alloc ?_ _)); refine blk_far ?_ NB102_111.out _; (with_reducible repeat (first | refine blk_drewN ?_ _ | refine blk_drew ?_ | refine blk_alloc ?_ _)); refine blk_far ?_ NB102_111.out _; (with_reducible repeat (first | refine blk_drewN ?_ _ | refine blk_drew ?_ | refine blk_alloc ?_ _)); exact BK102.out) hb); have n2_ := Aside0.mk (blk_below (g := gb107) (o := .cells #[.int .i64 t104, .int .i64 t105] 23 (0, 0)) (by (with_reducible repeat (first | refine blk_drewN ?_ _ | refine blk_drew ?_ | refine blk_alloc ?_ _)); refine blk_far ?_ NB107_111.out _; (with_reducible repeat (first | refine blk_drewN ?_ _ | refine blk_drew ?_ | refine blk_alloc ?_ _)); refine blk_far ?_ NB107_111.out _; (with_reducible repeat (first | refine blk_drewN ?_ _ | refine blk_drew ?_ | refine blk_alloc ?_ _)); exact BK107.out) hb); have n3_ := Aside0.mk (blk_below (g := gb111) (o := .cells #[.int .i64 t108, .int .i64 t109] 23 (0, 0)) (by (with_reducible repeat (first | refine blk_drewN ?_ _ | refine blk_drew ?_ | refine blk_alloc ?_ _)); refine blk_put (cs := #[.int .i64 t108, .int .i64 0]) ?_ 1 _ rfl; (with_reducible repeat (first | refine blk_drewN ?_ _ | refine blk_drew ?_ | refine blk_alloc ?_ _)); refine blk_put (cs := #[.int .i64 0, .int .i64 0]) ?_ 0 _ rfl; (with_reducible repeat (first | refine blk_drewN ?_ _ | refine blk_drew ?_ | refine blk_alloc ?_ _)); exact BK111.out) hb); have n4_ := Aside0.mk (below_step ahx hb); clear BK101; clear BK102; clear BK107; clear BK111; clear HB; have BK101 := n0_; have BK102 := n1_; have BK107 := n2_; have BK111 := n3_; have HB := n4_; clear n0_ n1_ n2_ n3_ n4_; (try clear hb); (try clear hb2); (try clear hk); (try clear hi)) | ((with_reducible refine gate_dst (N := 16) rfl ?_); refine box_event ?hg (N := 16) ?hd (cs := #[.int .i64 0, .int .i64 0]) (t := 23) ?hr ?_; (case hd => rfl); (case hg => rfl); (case hr => first | (go_simp; done) | (go_simp; rfl)); intro gb115 hg w59 hbox hb; have n0_ := Aside0.mk (blk_below (g := gb101) (o := .cells #[.int .i64 a0_0, .int .i64 a0_1] 23 (0, 0)) abx hb); have n1_ := Aside0.mk (blk_below (g := gb102) (o := .cells #[.int .i64 a1_0, .int .i64 a1_1] 23 (0, 0)) abx hb); have n2_ := Aside0.mk (blk_below (g := gb107) (o := .cells #[.int .i64 t104, .int .i64 t105] 23 (0, 0)) abx hb); have n3_ := Aside0.mk (blk_below (g := gb111) (o := .cells #[.int .i64 t108, .int .i64 t109] 23 (0, 0)) abx hb); have n4_ := Aside0.mk (below_step ahx hb); have n5_ := Aside0.mk (hbox); have n6_ := Aside0.mk ((by rw [hg]; exact (below_size ahx) : w.heap.size ≤ gb115)); have n7_ := Aside0.mk ((by rw [hg]; exact (below_size ahx) : w.heap.size ≤ gb115)); have n8_ := Aside0.mk ((by rw [hg]; exact Nat.ne_of_lt (blk_lt (g := gb101) (o := .cells #[.int .i64 a0_0, .int .i64 a0_1] 23 (0, 0)) abx) : gb101 ≠ gb115)); have n9_ := Aside0.mk ((by rw [hg]; exact Nat.ne_of_gt (blk_lt (g := gb101) (o := .cells #[.int .i64 a0_0, .int .i64 a0_1] 23 (0, 0)) abx) : gb115 ≠ gb101)); have n10_ := Aside0.mk ((by rw [hg]; exact Nat.ne_of_lt (blk_lt (g := gb102) (o := .cells #[.int .i64 a1_0, .int .i64 a1_1] 23 (0, 0)) abx) : gb102 ≠ gb115)); have n11_ := Aside0.mk ((by rw [hg]; exact Nat.ne_of_gt (blk_lt (g := gb102) (o := .cells #[.int .i64 a1_0, .int .i64 a1_1] 23 (0, 0)) abx) : gb115 ≠ gb102)); have n12_ := Aside0.mk ((by rw [hg]; exact Nat.ne_of_lt (blk_lt (g := gb107) (o := .cells #[.int .i64 t104, .int .i64 t105] 23 (0, 0)) abx) : gb107 ≠ gb115)); have n13_ := Aside0.mk ((by rw [hg]; exact Nat.ne_of_gt (blk_lt (g := gb107) (o := .cells #[.int .i64 t104, .int .i64 t105] 23 (0, 0)) abx) : gb115 ≠ gb107)); have n14_ := Aside0.mk ((by rw [hg]; exact Nat.ne_of_lt (blk_lt (g := gb111) (o := .cells #[.int .i64 t108, .int .i64 t109] 23 (0, 0)) abx) : gb111 ≠ gb115)); have n15_ := Aside0.mk ((by rw [hg]; exact Nat.ne_of_gt (blk_lt (g := gb111) (o := .cells #[.int .i64 t108, .int .i64 t109] 23 (0, 0)) abx) : gb115 ≠ gb111)); clear BK101; clear BK102; clear BK107; clear BK111; clear HB; have BK101 := n0_; have BK102 := n1_; have BK107 := n2_; have BK111 := n3_; have HB := n4_; have BK115 := n5_; have GW115 := n6_; have GE115 := n7_; have NB101_115 := n8_; have NB115_101 := n9_; have NB102_115 := n10_; have NB115_102 := n11_; have NB107_115 := n12_; have NB115_107 := n13_; have NB111_115 := n14_; have NB115_111 := n15_; clear n0_ n1_ n2_ n3_ n4_ n5_ n6_ n7_ n8_ n9_ n10_ n11_ n12_ n13_ n14_ n15_; clear hb hbox hg; have hnb60 := NB115_101.out; have hnc60 := NB101_115.out; have hnb61 := NB115_102.out; have hnc61 := NB102_115.out; have hnb62 := NB115_107.out; have hnc62 := NB107_115.out; have hnb63 := NB115_111.out; have hnc63 := NB111_115.out; have hcz64_0 : w59.cell? ⟨gb115, 0, none⟩ = some (.int .i64 0) := (blk_cell BK115.out 0).trans rfl; have hcz64_1 : w59.cell? ⟨gb115, 1, none⟩ = some (.int .i64 0) := (blk_cell BK115.out 1).trans rfl; have hfz64_0 := blk_frozen BK115.out 0; have hfz64_1 := blk_frozen BK115.out 1; have hcz65_0 : w59.cell? ⟨gb101, 0, none⟩ = some (.int .i64 a0_0) := (blk_cell BK101.out 0).trans rfl; have hcz65_1 : w59.cell? ⟨gb101, 1, none⟩ = some (.int .i64 a0_1) := (blk_cell BK101.out 1).trans rfl; have hfz65_0 := blk_frozen BK101.out 0; have hfz65_1 := blk_frozen BK101.out 1; have hcz66_0 : w59.cell? ⟨gb102, 0, none⟩ = some (.int .i64 a1_0) := (blk_cell BK102.out 0).trans rfl; have hcz66_1 : w59.cell? ⟨gb102, 1, none⟩ = some (.int .i64 a1_1) := (blk_cell BK102.out 1).trans rfl; have hfz66_0 := blk_frozen BK102.out 0; have hfz66_1 := blk_frozen BK102.out 1) | ((with_reducible refine gate_callee (f := 12) rfl ?_); refine goesL_ (some 46) rfl rfl Try.func12 (by kernel_rfl) rfl #[.agg #[.int .i64 a0_0, .int .i64 a0_1], .agg #[.int .i64 a1_0, .int .i64 a1_1]] rfl (by first | done | rfl) ?_; (with_reducible refine (bourneref09_Meet.calls a0_0 a0_1 a1_0 a1_1 t116 t117 t118 _ A10.out).mono ?_); rintro e w67 ⟨rfl, hb⟩; refine ⟨_, rfl, ?_⟩; have n0_ := Aside0.mk (blk_below (g := gb101) (o := .cells #[.int .i64 a0_0, .int .i64 a0_1] 23 (0, 0)) (by (with_reducible repeat (first | refine blk_drewN ?_ _ | refine blk_drew ?_ | refine blk_alloc ?_ _)); refine blk_far ?_ NB101_115.out _; (with_reducible repeat (first | refine blk_drewN ?_ _ | refine blk_drew ?_ | refine blk_alloc ?_ _)); refine blk_far ?_ NB101_115.out _; (with_reducible repeat (first | refine blk_drewN ?_ _ | refine blk_drew ?_ | refine blk_alloc ?_ _)); exact BK101.out) hb); have n1_ := Aside0.mk (blk_below (g := gb102) (o := .cells #[.int .i64 a1_0, .int .i64 a1_1] 23 (0, 0)) (by (with_reducible repeat (first | refine blk_drewN ?_ _ | refine blk_drew ?_ | refine blk_alloc ?_ _)); refine blk_far ?_ NB102_115.out _; (with_reducible repeat (first | refine blk_drewN ?_ _ | refine blk_drew ?_ | refine blk_alloc ?_ _)); refine blk_far ?_ NB102_115.out _; (with_reducible repeat (first | refine blk_drewN ?_ _ | refine blk_drew ?_ | refine blk_alloc ?_ _)); exact BK102.out) hb); have n2_ := Aside0.mk (blk_below (g := gb107) (o := .cells #[.int .i64 t104, .int .i64 t105] 23 (0, 0)) (by (with_reducible repeat (first | refine blk_drewN ?_ _ | refine blk_drew ?_ | refine blk_alloc ?_ _)); refine blk_far ?_ NB107_115.out _; (with_reducible repeat (first | refine blk_drewN ?_ _ | refine blk_drew ?_ | refine blk_alloc ?_ _)); refine blk_far ?_ NB107_115.out _; (with_reducible repeat (first | refine blk_drewN ?_ _ | refine blk_drew ?_ | refine blk_alloc ?_ _)); exact BK107.out) hb); have n3_ := Aside0.mk (blk_below (g := gb111) (o := .cells #[.int .i64 t108, .int .i64 t109] 23 (0, 0)) (by (with_reducible repeat (first | refine blk_drewN ?_ _ | refine blk_drew ?_ | refine blk_alloc ?_ _)); refine blk_far ?_ NB111_115.out _; (with_reducible repeat (first | refine blk_drewN ?_ _ | refine blk_drew ?_ | refine blk_alloc ?_ _)); refine blk_far ?_ NB111_115.out _; (with_reducible repeat (first | refine blk_drewN ?_ _ | refine blk_drew ?_ | refine blk_alloc ?_ _)); exact BK111.out) hb); have n4_ := Aside0.mk (blk_below (g := gb115) (o := .cells #[.int .i64 t112, .int .i64 t113] 23 (0, 0)) (by (with_reducible repeat (first | refine blk_drewN ?_ _ | refine blk_drew ?_ | refine blk_alloc ?_ _)); refine blk_put (cs := #[.int .i64 t112, .int .i64 0]) ?_ 1 _ rfl; (with_reducible repeat (first | refine blk_drewN ?_ _ | refine blk_drew ?_ | refine blk_alloc ?_ _)); refine blk_put (cs := #[.int .i64 0, .int .i64 0]) ?_ 0 _ rfl; (with_reducible repeat (first | refine blk_drewN ?_ _ | refine blk_drew ?_ | refine blk_alloc ?_ _)); exact BK115.out) hb); have n5_ := Aside0.mk (below_step ahx hb); clear BK101; clear BK102; clear BK107; clear BK111; clear BK115; clear HB; have BK101 := n0_; have BK102 := n1_; have BK107 := n2_; have BK111 := n3_; have BK115 := n4_; have HB := n5_; clear n0_ n1_ n2_ n3_ n4_ n5_; (try clear hb); (try clear hb2); (try clear hk); (try clear hi)) | (go_at_call 12; (with_reducible refine (bourneref09_Meet.calls a0_0 a0_1 a1_0 a1_1 t116 t117 t118 _ A10.out).mono ?_); rintro e w67 ⟨rfl, hb⟩; have n0_ := Aside0.mk (blk_below (g := gb101) (o := .cells #[.int .i64 a0_0, .int .i64 a0_1] 23 (0, 0)) (by (with_reducible repeat (first | refine blk_drewN ?_ _ | refine blk_drew ?_ | refine blk_alloc ?_ _)); refine blk_far ?_ NB101_115.out _; (with_reducible repeat (first | refine blk_drewN ?_ _ | refine blk_drew ?_ | refine blk_alloc ?_ _)); refine blk_far ?_ NB101_115.out _; (with_reducible repeat (first | refine blk_drewN ?_ _ | refine blk_drew ?_ | refine blk_alloc ?_ _)); exact BK101.out) hb); have n1_ := Aside0.mk (blk_below (g := gb102) (o := .cells #[.int .i64 a1_0, .int .i64 a1_1] 23 (0, 0)) (by (with_reducible repeat (first | refine blk_drewN ?_ _ | refine blk_drew ?_ | refine blk_alloc ?_ _)); refine blk_far ?_ NB102_115.out _; (with_reducible repeat (first | refine blk_drewN ?_ _ | refine blk_drew ?_ | refine blk_alloc ?_ _)); refine blk_far ?_ NB102_115.out _; (with_reducible repeat (first | refine blk_drewN ?_ _ | refine blk_drew ?_ | refine blk_alloc ?_ _)); exact BK102.out) hb); have n2_ := Aside0.mk (blk_below (g := gb107) (o := .cells #[.int .i64 t104, .int .i64 t105] 23 (0, 0)) (by (with_reducible repeat (first | refine blk_drewN ?_ _ | refine blk_drew ?_ | refine blk_alloc ?_ _)); refine blk_far ?_ NB107_115.out _; (with_reducible repeat (first | refine blk_drewN ?_ _ | refine blk_drew ?_ | refine blk_alloc ?_ _)); refine blk_far ?_ NB107_115.out _; (with_reducible repeat (first | refine blk_drewN ?_ _ | refine blk_drew ?_ | refine blk_alloc ?_ _)); exact BK107.out) hb); have n3_ := Aside0.mk (blk_below (g := gb111) (o := .cells #[.int .i64 t108, .int .i64 t109] 23 (0, 0)) (by (with_reducible repeat (first | refine blk_drewN ?_ _ | refine blk_drew ?_ | refine blk_alloc ?_ _)); refine blk_far ?_ NB111_115.out _; (with_reducible repeat (first | refine blk_drewN ?_ _ | refine blk_drew ?_ | refine blk_alloc ?_ _)); refine blk_far ?_ NB111_115.out _; (with_reducible repeat (first | refine blk_drewN ?_ _ | refine blk_drew ?_ | refine blk_alloc ?_ _)); exact BK111.out) hb); have n4_ := Aside0.mk (blk_below (g := gb115) (o := .cells #[.int .i64 t112, .int .i64 t113] 23 (0, 0)) (by (with_reducible repeat (first | refine blk_drewN ?_ _ | refine blk_drew ?_ | refine blk_alloc ?_ _)); refine blk_put (cs := #[.int .i64 t112, .int .i64 0]) ?_ 1 _ rfl; (with_reducible repeat (first | refine blk_drewN ?_ _ | refine blk_drew ?_ | refine blk_alloc ?_ _)); refine blk_put (cs := #[.int .i64 0, .int .i64 0]) ?_ 0 _ rfl; (with_reducible repeat (first | refine blk_drewN ?_ _ | refine blk_drew ?_ | refine blk_alloc ?_ _)); exact BK115.out) hb); have n5_ := Aside0.mk (below_step ahx hb); clear BK101; clear BK102; clear BK107; clear BK111; clear BK115; clear HB; have BK101 := n0_; have BK102 := n1_; have BK107 := n2_; have BK111 := n3_; have BK115 := n4_; have HB := n5_; clear n0_ n1_ n2_ n3_ n4_ n5_; (try clear hb); (try clear hb2); (try clear hk); (try clear hi)) | ((with_reducible refine gate_dst (N := 18) rfl ?_); refine box_event ?hg (N := 18) ?hd (cs := #[.int .i64 0, .int .i64 0]) (t := 23) ?hr ?_; (case hd => rfl); (case hg => rfl); (case hr => first | (go_simp; done) | (go_simp; rfl)); intro gb119 hg w68 hbox hb; have n0_ := Aside0.mk (blk_below (g := gb101) (o := .cells #[.int .i64 a0_0, .int .i64 a0_1] 23 (0, 0)) abx hb); have n1_ := Aside0.mk (blk_below (g := gb102) (o := .cells #[.int .i64 a1_0, .int .i64 a1_1] 23 (0, 0)) abx hb); have n2_ := Aside0.mk (blk_below (g := gb107) (o := .cells #[.int .i64 t104, .int .i64 t105] 23 (0, 0)) abx hb); have n3_ := Aside0.mk (blk_below (g := gb111) (o := .cells #[.int .i64 t108, .int .i64 t109] 23 (0, 0)) abx hb); have n4_ := Aside0.mk (blk_below (g := gb115) (o := .cells #[.int .i64 t112, .int .i64 t113] 23 (0, 0)) abx hb); have n5_ := Aside0.mk (below_step ahx hb); have n6_ := Aside0.mk (hbox); have n7_ := Aside0.mk ((by rw [hg]; exact (below_size ahx) : w.heap.size ≤ gb119)); have n8_ := Aside0.mk ((by rw [hg]; exact (below_size ahx) : w.heap.size ≤ gb119)); have n9_ := Aside0.mk ((by rw [hg]; exact Nat.ne_of_lt (blk_lt (g := gb101) (o := .cells #[.int .i64 a0_0, .int .i64 a0_1] 23 (0, 0)) abx) : gb101 ≠ gb119)); have n10_ := Aside0.mk ((by rw [hg]; exact Nat.ne_of_gt (blk_lt (g := gb101) (o := .cells #[.int .i64 a0_0, .int .i64 a0_1] 23 (0, 0)) abx) : gb119 ≠ gb101)); have n11_ := Aside0.mk ((by rw [hg]; exact Nat.ne_of_lt (blk_lt (g := gb102) (o := .cells #[.int .i64 a1_0, .int .i64 a1_1] 23 (0, 0)) abx) : gb102 ≠ gb119)); have n12_ := Aside0.mk ((by rw [hg]; exact Nat.ne_of_gt (blk_lt (g := gb102) (o := .cells #[.int .i64 a1_0, .int .i64 a1_1] 23 (0, 0)) abx) : gb119 ≠ gb102)); have n13_ := Aside0.mk ((by rw [hg]; exact Nat.ne_of_lt (blk_lt (g := gb107) (o := .cells #[.int .i64 t104, .int .i64 t105] 23 (0, 0)) abx) : gb107 ≠ gb119)); have n14_ := Aside0.mk ((by rw [hg]; exact Nat.ne_of_gt (blk_lt (g := gb107) (o := .cells #[.int .i64 t104, .int .i64 t105] 23 (0, 0)) abx) : gb119 ≠ gb107)); have n15_ := Aside0.mk ((by rw [hg]; exact Nat.ne_of_lt (blk_lt (g := gb111) (o := .cells #[.int .i64 t108, .int .i64 t109] 23 (0, 0)) abx) : gb111 ≠ gb119)); have n16_ := Aside0.mk ((by rw [hg]; exact Nat.ne_of_gt (blk_lt (g := gb111) (o := .cells #[.int .i64 t108, .int .i64 t109] 23 (0, 0)) abx) : gb119 ≠ gb111)); have n17_ := Aside0.mk ((by rw [hg]; exact Nat.ne_of_lt (blk_lt (g := gb115) (o := .cells #[.int .i64 t112, .int .i64 t113] 23 (0, 0)) abx) : gb115 ≠ gb119)); have n18_ := Aside0.mk ((by rw [hg]; exact Nat.ne_of_gt (blk_lt (g := gb115) (o := .cells #[.int .i64 t112, .int .i64 t113] 23 (0, 0)) abx) : gb119 ≠ gb115)); clear BK101; clear BK102; clear BK107; clear BK111; clear BK115; clear HB; have BK101 := n0_; have BK102 := n1_; have BK107 := n2_; have BK111 := n3_; have BK115 := n4_; have HB := n5_; have BK119 := n6_; have GW119 := n7_; have GE119 := n8_; have NB101_119 := n9_; have NB119_101 := n10_; have NB102_119 := n11_; have NB119_102 := n12_; have NB107_119 := n13_; have NB119_107 := n14_; have NB111_119 := n15_; have NB119_111 := n16_; have NB115_119 := n17_; have NB119_115 := n18_; clear n0_ n1_ n2_ n3_ n4_ n5_ n6_ n7_ n8_ n9_ n10_ n11_ n12_ n13_ n14_ n15_ n16_ n17_ n18_; clear hb hbox hg; have hnb69 := NB119_101.out; have hnc69 := NB101_119.out; have hnb70 := NB119_102.out; have hnc70 := NB102_119.out; have hnb71 := NB119_107.out; have hnc71 := NB107_119.out; have hnb72 := NB119_111.out; have hnc72 := NB111_119.out; have hnb73 := NB119_115.out; have hnc73 := NB115_119.out; have hcz74_0 : w68.cell? ⟨gb119, 0, none⟩ = some (.int .i64 0) := (blk_cell BK119.out 0).trans rfl; have hcz74_1 : w68.cell? ⟨gb119, 1, none⟩ = some (.int .i64 0) := (blk_cell BK119.out 1).trans rfl; have hfz74_0 := blk_frozen BK119.out 0; have hfz74_1 := blk_frozen BK119.out 1; have hcz75_0 : w68.cell? ⟨gb107, 0, none⟩ = some (.int .i64 t104) := (blk_cell BK107.out 0).trans rfl; have hcz75_1 : w68.cell? ⟨gb107, 1, none⟩ = some (.int .i64 t105) := (blk_cell BK107.out 1).trans rfl; have hfz75_0 := blk_frozen BK107.out 0; have hfz75_1 := blk_frozen BK107.out 1; have hcz76_0 : w68.cell? ⟨gb111, 0, none⟩ = some (.int .i64 t108) := (blk_cell BK111.out 0).trans rfl; have hcz76_1 : w68.cell? ⟨gb111, 1, none⟩ = some (.int .i64 t109) := (blk_cell BK111.out 1).trans rfl; have hfz76_0 := blk_frozen BK111.out 0; have hfz76_1 := blk_frozen BK111.out 1; have hcz77_0 : w68.cell? ⟨gb115, 0, none⟩ = some (.int .i64 t112) := (blk_cell BK115.out 0).trans rfl; have hcz77_1 : w68.cell? ⟨gb115, 1, none⟩ = some (.int .i64 t113) := (blk_cell BK115.out 1).trans rfl; have hfz77_0 := blk_frozen BK115.out 0; have hfz77_1 := blk_frozen BK115.out 1))
             have n0_ : Aside0 (((w68.setCell ⟨gb119, 0, none⟩ (.int .i64 t116)).setCell ⟨gb119, 1, none⟩ (.int .i64 t117)).heap[gb101]? = some (.cells #[.int .i64 a0_0, .int .i64 a0_1] 23 (0, 0))) := ⟨by (with_reducible repeat (first | refine blk_drewN ?_ _ | refine blk_drew ?_ | refine blk_alloc ?_ _)); refine blk_far ?_ NB101_119.out _; (with_reducible repeat (first | refine blk_drewN ?_ _ | refine blk_drew ?_ | refine blk_alloc ?_ _)); refine blk_far ?_ NB101_119.out _; (with_reducible repeat (first | refine blk_drewN ?_ _ | refine blk_drew ?_ | refine blk_alloc ?_ _)); exact BK101.out⟩
             have n1_ : Aside0 (((w68.setCell ⟨gb119, 0, none⟩ (.int .i64 t116)).setCell ⟨gb119, 1, none⟩ (.int .i64 t117)).heap[gb102]? = some (.cells #[.int .i64 a1_0, .int .i64 a1_1] 23 (0, 0))) := ⟨by (with_reducible repeat (first | refine blk_drewN ?_ _ | refine blk_drew ?_ | refine blk_alloc ?_ _)); refine blk_far ?_ NB102_119.out _; (with_reducible repeat (first | refine blk_drewN ?_ _ | refine blk_drew ?_ | refine blk_alloc ?_ _)); refine blk_far ?_ NB102_119.out _; (with_reducible repeat (first | refine blk_drewN ?_ _ | refine blk_drew ?_ | refine blk_alloc ?_ _)); exact BK102.out⟩
             have n2_ : Aside0 (((w68.setCell ⟨gb119, 0, none⟩ (.int .i64 t116)).setCell ⟨gb119, 1, none⟩ (.int .i64 t117)).heap[gb107]? = some (.cells #[.int .i64 t104, .int .i64 t105] 23 (0, 0))) := ⟨by (with_reducible repeat (first | refine blk_drewN ?_ _ | refine blk_drew ?_ | refine blk_alloc ?_ _)); refine blk_far ?_ NB107_119.out _; (with_reducible repeat (first | refine blk_drewN ?_ _ | refine blk_drew ?_ | refine blk_alloc ?_ _)); refine blk_far ?_ NB107_119.out _; (with_reducible repeat (first | refine blk_drewN ?_ _ | refine blk_drew ?_ | refine blk_alloc ?_ _)); exact BK107.out⟩
             have n3_ : Aside0 (((w68.setCell ⟨gb119, 0, none⟩ (.int .i64 t116)).setCell ⟨gb119, 1, none⟩ (.int .i64 t117)).heap[gb111]? = some (.cells #[.int .i64 t108, .int .i64 t109] 23 (0, 0))) := ⟨by (with_reducible repeat (first | refine blk_drewN ?_ _ | refine blk_drew ?_ | refine blk_alloc ?_ _)); refine blk_far ?_ NB111_119.out _; (with_reducible repeat (first | refine blk_drewN ?_ _ | refine blk_drew ?_ | refine blk_alloc ?_ _)); refine blk_far ?_ NB111_119.out _; (with_reducible repeat (first | refine blk_drewN ?_ _ | refine blk_drew ?_ | refine blk_alloc ?_ _)); exact BK111.out⟩
             have n4_ : Aside0 (((w68.setCell ⟨gb119, 0, none⟩ (.int .i64 t116)).setCell ⟨gb119, 1, none⟩ (.int .i64 t117)).heap[gb115]? = some (.cells #[.int .i64 t112, .int .i64 t113] 23 (0, 0))) := ⟨by (with_reducible repeat (first | refine blk_drewN ?_ _ | refine blk_drew ?_ | refine blk_alloc ?_ _)); refine blk_far ?_ NB115_119.out _; (with_reducible repeat (first | refine blk_drewN ?_ _ | refine blk_drew ?_ | refine blk_alloc ?_ _)); refine blk_far ?_ NB115_119.out _; (with_reducible repeat (first | refine blk_drewN ?_ _ | refine blk_drew ?_ | refine blk_alloc ?_ _)); exact BK115.out⟩
             have n5_ : Aside0 (((w68.setCell ⟨gb119, 0, none⟩ (.int .i64 t116)).setCell ⟨gb119, 1, none⟩ (.int .i64 t117)).heap[gb119]? = some (.cells #[.int .i64 t116, .int .i64 t117] 23 (0, 0))) := ⟨by (with_reducible repeat (first | refine blk_drewN ?_ _ | refine blk_drew ?_ | refine blk_alloc ?_ _)); refine blk_put (cs := #[.int .i64 t116, .int .i64 0]) ?_ 1 _ rfl; (with_reducible repeat (first | refine blk_drewN ?_ _ | refine blk_drew ?_ | refine blk_alloc ?_ _)); refine blk_put (cs := #[.int .i64 0, .int .i64 0]) ?_ 0 _ rfl; (with_reducible repeat (first | refine blk_drewN ?_ _ | refine blk_drew ?_ | refine blk_alloc ?_ _)); exact BK119.out⟩
             have n6_ : Aside0 (Below w.heap.size w ((w68.setCell ⟨gb119, 0, none⟩ (.int .i64 t116)).setCell ⟨gb119, 1, none⟩ (.int .i64 t117))) := ⟨ahx⟩
             (try clear BK101)
             (try clear BK102)
             (try clear BK107)
             (try clear BK111)
             (try clear BK115)
             (try clear BK119)
             (try clear HB)
             generalize ((w68.setCell ⟨gb119, 0, none⟩ (.int .i64 t116)).setCell ⟨gb119, 1, none⟩ (.int .i64 t117)) = w78 at n0_ n1_ n2_ n3_ n4_ n5_ n6_ ⊢
             have BK101 := n0_
             have BK102 := n1_
             have BK107 := n2_
             have BK111 := n3_
             have BK115 := n4_
             have BK119 := n5_
             have HB := n6_
             clear n0_ n1_ n2_ n3_ n4_ n5_ n6_
             have n0_ := Aside0.mk (blk_drew BK101.out)
             have n1_ := Aside0.mk (blk_drew BK102.out)
             have n2_ := Aside0.mk (blk_drew BK107.out)
             have n3_ := Aside0.mk (blk_drew BK111.out)
             have n4_ := Aside0.mk (blk_drew BK115.out)
             have n5_ := Aside0.mk (blk_drew BK119.out)
             have n6_ := Aside0.mk (below_drew1 HB.out)
             clear BK101
             clear BK102
             clear BK107
             clear BK111
             clear BK115
             clear BK119
             clear HB
             have BK101 := n0_
             have BK102 := n1_
             have BK107 := n2_
             have BK111 := n3_
             have BK115 := n4_
             have BK119 := n5_
             have HB := n6_
             clear n0_ n1_ n2_ n3_ n4_ n5_ n6_
             refine start_ (n := 22) (S := fun w' => w'.cell? ⟨gb101, 0, none⟩ = some (.int .i64 a0_0) ∧ w'.cell? ⟨gb101, 1, none⟩ = some (.int .i64 a0_1)) (ds := []) #[false, false, false, false, false, false, false, false, false, false, false, false, false, false, false, false, false, false, false, false, false, false] (by kernel_rfl) rfl rfl ⟨(blk_cell BK101.out 0).trans rfl, (blk_cell BK101.out 1).trans rfl⟩ (fun hHeld => ?_); refine with_tabW bournelaw09_SpanTells.tab8 bournelaw09_SpanTells.bits8 (fun HT_ HW_ => ?_)
             generalize w78.drew = w79 at BK101 BK102 BK107 BK111 BK115 BK119 HB hHeld ⊢
             refine take_ (i := 0) (N := some 67) (v := ?_) (a' := ?_) #[true, false, false, false, false, false, false, false, false, false, false, false, false, false, false, false, false, false, false, false, false, false] rfl rfl (take_ofW HT_.out HW_.out (by kernel_rfl)) (fun _ _ _ h => h) (Or.inl ⟨by rfl, ?_⟩) hHeld ?_ ?_
             rotate_left
             ·rintro w' ⟨s0, s1⟩
              go_simp
              with_reducible rfl
             rotate_left
             ·simp only [Act.put, List.setIfInBounds_toArray, List.set_cons_zero, List.set_cons_succ, i64_w, i32_w]
              rfl
             refine take_ (i := 2) (N := some 69) (v := ?_) (a' := ?_) #[true, false, true, false, false, false, false, false, false, false, false, false, false, false, false, false, false, false, false, false, false, false] rfl rfl (take_ofW HT_.out HW_.out (by kernel_rfl)) (fun _ _ _ h => h) (Or.inl ⟨by rfl, ?_⟩) hHeld ?_ ?_
             rotate_left
             ·rintro w' ⟨s0, s1⟩
              go_simp
              with_reducible rfl
             rotate_left
             ·simp only [Act.put, List.setIfInBounds_toArray, List.set_cons_zero, List.set_cons_succ, i64_w, i32_w]
              rfl
             refine one_ (i := 1) (N := some 68) #[true, true, true, false, false, false, false, false, false, false, false, false, false, false, false, false, false, false, false, false, false, false] rfl rfl (one_of HT_.out (by kernel_rfl)) (by decide) (fun K hK => ?_)
             refine goes_ Try.func13 (by kernel_rfl) rfl #[.agg #[.int .i64 a0_0, .int .i64 a0_1]] (by rfl) rfl rfl (by (try simp only [List.map_toArray, List.map_cons, List.map_nil]); first | done | rfl | (simp only [List.length_drop, List.length_take]; rfl)) ?_
             with_reducible refine (span_Right.calls a0_0 a0_1 t120 _ A15.out).mono ?_
             rintro e w80 ⟨rfl, hb⟩
             refine ⟨_, rfl, ?_⟩
             have n0_ := Aside0.mk (blk_below (g := gb101) (o := .cells #[.int .i64 a0_0, .int .i64 a0_1] 23 (0, 0)) abx hb)
             have n1_ := Aside0.mk (blk_below (g := gb102) (o := .cells #[.int .i64 a1_0, .int .i64 a1_1] 23 (0, 0)) abx hb)
             have n2_ := Aside0.mk (blk_below (g := gb107) (o := .cells #[.int .i64 t104, .int .i64 t105] 23 (0, 0)) abx hb)
             have n3_ := Aside0.mk (blk_below (g := gb111) (o := .cells #[.int .i64 t108, .int .i64 t109] 23 (0, 0)) abx hb)
             have n4_ := Aside0.mk (blk_below (g := gb115) (o := .cells #[.int .i64 t112, .int .i64 t113] 23 (0, 0)) abx hb)
             have n5_ := Aside0.mk (blk_below (g := gb119) (o := .cells #[.int .i64 t116, .int .i64 t117] 23 (0, 0)) abx hb)
             have n6_ := Aside0.mk (below_step ahx hb)
             clear BK101
             clear BK102
             clear BK107
             clear BK111
             clear BK115
             clear BK119
             clear HB
             have BK101 := n0_
             have BK102 := n1_
             have BK107 := n2_
             have BK111 := n3_
             have BK115 := n4_
             have BK119 := n5_
             have HB := n6_
             clear n0_ n1_ n2_ n3_ n4_ n5_ n6_
             (try clear hb)
             (try clear hb2)
             (try clear hk)
             (try clear hi)
             refine hK.out _ _ ⟨(blk_cell BK101.out 0).trans rfl, (blk_cell BK101.out 1).trans rfl⟩ (fun hHeld => ?_)
             clear hK K
             refine norm_ (a' := ?_) ?_ ?_
             rotate_left
             ·show Act.put _ (some 68) _ = _
              simp only [Act.put, List.setIfInBounds_toArray, List.set_cons_zero, List.set_cons_succ, i64_w, i32_w]
              rfl
             refine one_ (i := 3) (N := some 70) #[true, true, true, true, false, false, false, false, false, false, false, false, false, false, false, false, false, false, false, false, false, false] rfl rfl (one_of HT_.out (by kernel_rfl)) (by decide) (fun K hK => ?_)
             refine goes_ Try.func14 (by kernel_rfl) rfl #[.agg #[.int .i64 a0_0, .int .i64 a0_1]] (by rfl) rfl rfl (by (try simp only [List.map_toArray, List.map_cons, List.map_nil]); first | done | rfl | (simp only [List.length_drop, List.length_take]; rfl)) ?_
             with_reducible refine (bourneref09_Right.calls a0_0 a0_1 t121 _ A16.out).mono ?_
             rintro e w81 ⟨rfl, hb⟩
             refine ⟨_, rfl, ?_⟩
             have n0_ := Aside0.mk (blk_below (g := gb101) (o := .cells #[.int .i64 a0_0, .int .i64 a0_1] 23 (0, 0)) abx hb)
             have n1_ := Aside0.mk (blk_below (g := gb102) (o := .cells #[.int .i64 a1_0, .int .i64 a1_1] 23 (0, 0)) abx hb)
             have n2_ := Aside0.mk (blk_below (g := gb107) (o := .cells #[.int .i64 t104, .int .i64 t105] 23 (0, 0)) abx hb)
             have n3_ := Aside0.mk (blk_below (g := gb111) (o := .cells #[.int .i64 t108, .int .i64 t109] 23 (0, 0)) abx hb)
             have n4_ := Aside0.mk (blk_below (g := gb115) (o := .cells #[.int .i64 t112, .int .i64 t113] 23 (0, 0)) abx hb)
             have n5_ := Aside0.mk (blk_below (g := gb119) (o := .cells #[.int .i64 t116, .int .i64 t117] 23 (0, 0)) abx hb)
             have n6_ := Aside0.mk (below_step ahx hb)
             clear BK101
             clear BK102
             clear BK107
             clear BK111
             clear BK115
             clear BK119
             clear HB
             have BK101 := n0_
             have BK102 := n1_
             have BK107 := n2_
             have BK111 := n3_
             have BK115 := n4_
             have BK119 := n5_
             have HB := n6_
             clear n0_ n1_ n2_ n3_ n4_ n5_ n6_
             (try clear hb)
             (try clear hb2)
             (try clear hk)
             (try clear hi)
             refine hK.out _ _ ⟨(blk_cell BK101.out 0).trans rfl, (blk_cell BK101.out 1).trans rfl⟩ (fun hHeld => ?_)
             clear hK K
             refine norm_ (a' := ?_) ?_ ?_
             rotate_left
             ·show Act.put _ (some 70) _ = _
              simp only [Act.put, List.setIfInBounds_toArray, List.set_cons_zero, List.set_cons_succ, i64_w, i32_w]
              rfl
             refine pure_ (i := 4) (N := some 71) (v := ?_) (a' := ?_) #[true, true, true, true, true, false, false, false, false, false, false, false, false, false, false, false, false, false, false, false, false, false] rfl rfl (any_of HT_.out (by kernel_rfl)) (fun _ _ _ h => h) (Or.inl ⟨by rfl, ?_⟩) ?_ ?_
             rotate_left
             ·intro w'
              go_simp
              with_reducible rfl
             rotate_left
             ·simp only [Act.put, List.setIfInBounds_toArray, List.set_cons_zero, List.set_cons_succ, i64_w, i32_w]
              rfl
             refine pure_ (i := 5) (N := some 72) (v := ?_) (a' := ?_) #[true, true, true, true, true, true, false, false, false, false, false, false, false, false, false, false, false, false, false, false, false, false] rfl rfl (any_of HT_.out (by kernel_rfl)) (fun _ _ _ h => h) (Or.inl ⟨by rfl, ?_⟩) ?_ ?_
             rotate_left
             ·intro w'
              go_simp
              with_reducible rfl
             rotate_left
             ·simp only [Act.put, List.setIfInBounds_toArray, List.set_cons_zero, List.set_cons_succ, i64_w, i32_w]
              rfl
             refine pure_ (i := 6) (N := some 73) (v := ?_) (a' := ?_) #[true, true, true, true, true, true, true, false, false, false, false, false, false, false, false, false, false, false, false, false, false, false] rfl rfl (any_of HT_.out (by kernel_rfl)) (fun _ _ _ h => h) (Or.inl ⟨by rfl, ?_⟩) ?_ ?_
             rotate_left
             ·intro w'
              go_simp
              with_reducible rfl
             rotate_left
             ·simp only [Act.put, List.setIfInBounds_toArray, List.set_cons_zero, List.set_cons_succ, i64_w, i32_w]
              rfl
             refine pure_ (i := 8) (N := some 75) (v := ?_) (a' := ?_) #[true, true, true, true, true, true, true, false, true, false, false, false, false, false, false, false, false, false, false, false, false, false] rfl rfl (any_of HT_.out (by kernel_rfl)) (fun _ _ _ h => h) (Or.inl ⟨by rfl, ?_⟩) ?_ ?_
             rotate_left
             ·intro w'
              go_simp
              with_reducible rfl
             rotate_left
             ·simp only [Act.put, List.setIfInBounds_toArray, List.set_cons_zero, List.set_cons_succ, i64_w, i32_w]
              rfl
             refine one_ (i := 7) (N := some 74) #[true, true, true, true, true, true, true, true, true, false, false, false, false, false, false, false, false, false, false, false, false, false] rfl rfl (one_of HT_.out (by kernel_rfl)) (by decide) (fun K hK => ?_)
             refine goes_ Try.func15 (by kernel_rfl) rfl #[.int .i64 a2] (by rfl) rfl rfl (by (try simp only [List.map_toArray, List.map_cons, List.map_nil]); first | done | rfl | (simp only [List.length_drop, List.length_take]; rfl)) ?_
             with_reducible refine (span_Of.calls a2 t122 t123 _ A18.out).mono ?_
             rintro e w82 ⟨rfl, hb⟩
             refine ⟨_, rfl, ?_⟩
             have n0_ := Aside0.mk (blk_below (g := gb101) (o := .cells #[.int .i64 a0_0, .int .i64 a0_1] 23 (0, 0)) abx hb)
             have n1_ := Aside0.mk (blk_below (g := gb102) (o := .cells #[.int .i64 a1_0, .int .i64 a1_1] 23 (0, 0)) abx hb)
             have n2_ := Aside0.mk (blk_below (g := gb107) (o := .cells #[.int .i64 t104, .int .i64 t105] 23 (0, 0)) abx hb)
             have n3_ := Aside0.mk (blk_below (g := gb111) (o := .cells #[.int .i64 t108, .int .i64 t109] 23 (0, 0)) abx hb)
             have n4_ := Aside0.mk (blk_below (g := gb115) (o := .cells #[.int .i64 t112, .int .i64 t113] 23 (0, 0)) abx hb)
             have n5_ := Aside0.mk (blk_below (g := gb119) (o := .cells #[.int .i64 t116, .int .i64 t117] 23 (0, 0)) abx hb)
             have n6_ := Aside0.mk (below_step ahx hb)
             clear BK101
             clear BK102
             clear BK107
             clear BK111
             clear BK115
             clear BK119
             clear HB
             have BK101 := n0_
             have BK102 := n1_
             have BK107 := n2_
             have BK111 := n3_
             have BK115 := n4_
             have BK119 := n5_
             have HB := n6_
             clear n0_ n1_ n2_ n3_ n4_ n5_ n6_
             (try clear hb)
             (try clear hb2)
             (try clear hk)
             (try clear hi)
             refine hK.out _ _ ⟨(blk_cell BK101.out 0).trans rfl, (blk_cell BK101.out 1).trans rfl⟩ (fun hHeld => ?_)
             clear hK K
             refine norm_ (a' := ?_) ?_ ?_
             rotate_left
             ·show Act.put _ (some 74) _ = _
              simp only [Act.put, List.setIfInBounds_toArray, List.set_cons_zero, List.set_cons_succ, i64_w, i32_w]
              rfl
             refine one_ (i := 9) (N := some 76) #[true, true, true, true, true, true, true, true, true, true, false, false, false, false, false, false, false, false, false, false, false, false] rfl rfl (one_of HT_.out (by kernel_rfl)) (by decide) (fun K hK => ?_)
             refine goes_ Try.func16 (by kernel_rfl) rfl #[.int .i64 a2] (by rfl) rfl rfl (by (try simp only [List.map_toArray, List.map_cons, List.map_nil]); first | done | rfl | (simp only [List.length_drop, List.length_take]; rfl)) ?_
             with_reducible refine (bourneref09_Of.calls a2 t124 t125 _ A19.out).mono ?_
             rintro e w83 ⟨rfl, hb⟩
             refine ⟨_, rfl, ?_⟩
             have n0_ := Aside0.mk (blk_below (g := gb101) (o := .cells #[.int .i64 a0_0, .int .i64 a0_1] 23 (0, 0)) abx hb)
             have n1_ := Aside0.mk (blk_below (g := gb102) (o := .cells #[.int .i64 a1_0, .int .i64 a1_1] 23 (0, 0)) abx hb)
             have n2_ := Aside0.mk (blk_below (g := gb107) (o := .cells #[.int .i64 t104, .int .i64 t105] 23 (0, 0)) abx hb)
             have n3_ := Aside0.mk (blk_below (g := gb111) (o := .cells #[.int .i64 t108, .int .i64 t109] 23 (0, 0)) abx hb)
             have n4_ := Aside0.mk (blk_below (g := gb115) (o := .cells #[.int .i64 t112, .int .i64 t113] 23 (0, 0)) abx hb)
             have n5_ := Aside0.mk (blk_below (g := gb119) (o := .cells #[.int .i64 t116, .int .i64 t117] 23 (0, 0)) abx hb)
             have n6_ := Aside0.mk (below_step ahx hb)
             clear BK101
             clear BK102
             clear BK107
             clear BK111
             clear BK115
             clear BK119
             clear HB
             have BK101 := n0_
             have BK102 := n1_
             have BK107 := n2_
             have BK111 := n3_
             have BK115 := n4_
             have BK119 := n5_
             have HB := n6_
             clear n0_ n1_ n2_ n3_ n4_ n5_ n6_
             (try clear hb)
             (try clear hb2)
             (try clear hk)
             (try clear hi)
             refine hK.out _ _ ⟨(blk_cell BK101.out 0).trans rfl, (blk_cell BK101.out 1).trans rfl⟩ (fun hHeld => ?_)
             clear hK K
             refine norm_ (a' := ?_) ?_ ?_
             rotate_left
             ·show Act.put _ (some 76) _ = _
              simp only [Act.put, List.setIfInBounds_toArray, List.set_cons_zero, List.set_cons_succ, i64_w, i32_w]
              rfl
             refine pure_ (i := 10) (N := some 77) (v := ?_) (a' := ?_) #[true, true, true, true, true, true, true, true, true, true, true, false, false, false, false, false, false, false, false, false, false, false] rfl rfl (any_of HT_.out (by kernel_rfl)) (fun _ _ _ h => h) (Or.inl ⟨by rfl, ?_⟩) ?_ ?_
             rotate_left
             ·intro w'
              go_simp
              with_reducible rfl
             rotate_left
             ·simp only [Act.put, List.setIfInBounds_toArray, List.set_cons_zero, List.set_cons_succ, i64_w, i32_w]
              rfl
             refine pure_ (i := 11) (N := some 78) (v := ?_) (a' := ?_) #[true, true, true, true, true, true, true, true, true, true, true, true, false, false, false, false, false, false, false, false, false, false] rfl rfl (any_of HT_.out (by kernel_rfl)) (fun _ _ _ h => h) (Or.inl ⟨by rfl, ?_⟩) ?_ ?_
             rotate_left
             ·intro w'
              go_simp
              with_reducible rfl
             rotate_left
             ·simp only [Act.put, List.setIfInBounds_toArray, List.set_cons_zero, List.set_cons_succ, i64_w, i32_w]
              rfl
             refine pure_ (i := 12) (N := some 79) (v := ?_) (a' := ?_) #[true, true, true, true, true, true, true, true, true, true, true, true, true, false, false, false, false, false, false, false, false, false] rfl rfl (any_of HT_.out (by kernel_rfl)) (fun _ _ _ h => h) (Or.inl ⟨by rfl, ?_⟩) ?_ ?_
             rotate_left
             ·intro w'
              go_simp
              with_reducible rfl
             rotate_left
             ·simp only [Act.put, List.setIfInBounds_toArray, List.set_cons_zero, List.set_cons_succ, i64_w, i32_w]
              rfl
             refine pure_ (i := 14) (N := some 81) (v := ?_) (a' := ?_) #[true, true, true, true, true, true, true, true, true, true, true, true, true, false, true, false, false, false, false, false, false, false] rfl rfl (any_of HT_.out (by kernel_rfl)) (fun _ _ _ h => h) (Or.inl ⟨by rfl, ?_⟩) ?_ ?_
             rotate_left
             ·intro w'
              go_simp
              with_reducible rfl
             rotate_left
             ·simp only [Act.put, List.setIfInBounds_toArray, List.set_cons_zero, List.set_cons_succ, i64_w, i32_w]
              rfl
             refine pure_ (i := 17) (N := some 84) (v := ?_) (a' := ?_) #[true, true, true, true, true, true, true, true, true, true, true, true, true, false, true, false, false, true, false, false, false, false] rfl rfl (any_of HT_.out (by kernel_rfl)) (fun _ _ _ h => h) (Or.inl ⟨by rfl, ?_⟩) ?_ ?_
             rotate_left
             ·intro w'
              go_simp
              with_reducible rfl
             rotate_left
             ·simp only [Act.put, List.setIfInBounds_toArray, List.set_cons_zero, List.set_cons_succ, i64_w, i32_w]
              rfl
             refine take_ (i := 13) (N := some 80) (v := ?_) (a' := ?_) #[true, true, true, true, true, true, true, true, true, true, true, true, true, true, true, false, false, true, false, false, false, false] rfl rfl (take_ofW HT_.out HW_.out (by kernel_rfl)) (fun _ _ _ h => h) (Or.inl ⟨by rfl, ?_⟩) hHeld ?_ ?_
             rotate_left
             ·rintro w' ⟨s0, s1⟩
              go_simp
              with_reducible rfl
             rotate_left
             ·simp only [Act.put, List.setIfInBounds_toArray, List.set_cons_zero, List.set_cons_succ, i64_w, i32_w]
              rfl
             refine take_ (i := 16) (N := some 83) (v := ?_) (a' := ?_) #[true, true, true, true, true, true, true, true, true, true, true, true, true, true, true, false, true, true, false, false, false, false] rfl rfl (take_ofW HT_.out HW_.out (by kernel_rfl)) (fun _ _ _ h => h) (Or.inl ⟨by rfl, ?_⟩) hHeld ?_ ?_
             rotate_left
             ·rintro w' ⟨s0, s1⟩
              go_simp
              with_reducible rfl
             rotate_left
             ·simp only [Act.put, List.setIfInBounds_toArray, List.set_cons_zero, List.set_cons_succ, i64_w, i32_w]
              rfl
             refine one_ (i := 15) (N := some 82) #[true, true, true, true, true, true, true, true, true, true, true, true, true, true, true, true, true, true, false, false, false, false] rfl rfl (one_of HT_.out (by kernel_rfl)) (by decide) (fun K hK => ?_)
             refine goes_ Try.func17 (by kernel_rfl) rfl #[.agg #[.int .i64 a0_0, .int .i64 a0_1], .int .i64 a2] (by rfl) rfl rfl (by (try simp only [List.map_toArray, List.map_cons, List.map_nil]); first | done | rfl | (simp only [List.length_drop, List.length_take]; rfl)) ?_
             with_reducible refine (span_Has.calls a0_0 a0_1 a2 t126 _ A21.out).mono ?_
             rintro e w84 ⟨rfl, hb⟩
             refine ⟨_, rfl, ?_⟩
             have n0_ := Aside0.mk (blk_below (g := gb101) (o := .cells #[.int .i64 a0_0, .int .i64 a0_1] 23 (0, 0)) abx hb)
             have n1_ := Aside0.mk (blk_below (g := gb102) (o := .cells #[.int .i64 a1_0, .int .i64 a1_1] 23 (0, 0)) abx hb)
             have n2_ := Aside0.mk (blk_below (g := gb107) (o := .cells #[.int .i64 t104, .int .i64 t105] 23 (0, 0)) abx hb)
             have n3_ := Aside0.mk (blk_below (g := gb111) (o := .cells #[.int .i64 t108, .int .i64 t109] 23 (0, 0)) abx hb)
             have n4_ := Aside0.mk (blk_below (g := gb115) (o := .cells #[.int .i64 t112, .int .i64 t113] 23 (0, 0)) abx hb)
             have n5_ := Aside0.mk (blk_below (g := gb119) (o := .cells #[.int .i64 t116, .int .i64 t117] 23 (0, 0)) abx hb)
             have n6_ := Aside0.mk (below_step ahx hb)
             clear BK101
             clear BK102
             clear BK107
             clear BK111
             clear BK115
             clear BK119
             clear HB
             have BK101 := n0_
             have BK102 := n1_
             have BK107 := n2_
             have BK111 := n3_
             have BK115 := n4_
             have BK119 := n5_
             have HB := n6_
             clear n0_ n1_ n2_ n3_ n4_ n5_ n6_
             (try clear hb)
             (try clear hb2)
             (try clear hk)
             (try clear hi)
             refine hK.out _ _ ⟨(blk_cell BK101.out 0).trans rfl, (blk_cell BK101.out 1).trans rfl⟩ (fun hHeld => ?_)
             clear hK K
             refine norm_ (a' := ?_) ?_ ?_
             rotate_left
             ·show Act.put _ (some 82) _ = _
              simp only [Act.put, List.setIfInBounds_toArray, List.set_cons_zero, List.set_cons_succ, i64_w, i32_w]
              rfl
             refine one_ (i := 18) (N := some 85) #[true, true, true, true, true, true, true, true, true, true, true, true, true, true, true, true, true, true, true, false, false, false] rfl rfl (one_of HT_.out (by kernel_rfl)) (by decide) (fun K hK => ?_)
             refine goes_ Try.func18 (by kernel_rfl) rfl #[.agg #[.int .i64 a0_0, .int .i64 a0_1], .int .i64 a2] (by rfl) rfl rfl (by (try simp only [List.map_toArray, List.map_cons, List.map_nil]); first | done | rfl | (simp only [List.length_drop, List.length_take]; rfl)) ?_
             with_reducible refine (bourneref09_Has.calls a0_0 a0_1 a2 t127 _ A22.out).mono ?_
             rintro e w85 ⟨rfl, hb⟩
             refine ⟨_, rfl, ?_⟩
             have n0_ := Aside0.mk (blk_below (g := gb101) (o := .cells #[.int .i64 a0_0, .int .i64 a0_1] 23 (0, 0)) abx hb)
             have n1_ := Aside0.mk (blk_below (g := gb102) (o := .cells #[.int .i64 a1_0, .int .i64 a1_1] 23 (0, 0)) abx hb)
             have n2_ := Aside0.mk (blk_below (g := gb107) (o := .cells #[.int .i64 t104, .int .i64 t105] 23 (0, 0)) abx hb)
             have n3_ := Aside0.mk (blk_below (g := gb111) (o := .cells #[.int .i64 t108, .int .i64 t109] 23 (0, 0)) abx hb)
             have n4_ := Aside0.mk (blk_below (g := gb115) (o := .cells #[.int .i64 t112, .int .i64 t113] 23 (0, 0)) abx hb)
             have n5_ := Aside0.mk (blk_below (g := gb119) (o := .cells #[.int .i64 t116, .int .i64 t117] 23 (0, 0)) abx hb)
             have n6_ := Aside0.mk (below_step ahx hb)
             clear BK101
             clear BK102
             clear BK107
             clear BK111
             clear BK115
             clear BK119
             clear HB
             have BK101 := n0_
             have BK102 := n1_
             have BK107 := n2_
             have BK111 := n3_
             have BK115 := n4_
             have BK119 := n5_
             have HB := n6_
             clear n0_ n1_ n2_ n3_ n4_ n5_ n6_
             (try clear hb)
             (try clear hb2)
             (try clear hk)
             (try clear hi)
             refine hK.out _ _ ⟨(blk_cell BK101.out 0).trans rfl, (blk_cell BK101.out 1).trans rfl⟩ (fun hHeld => ?_)
             clear hK K
             refine norm_ (a' := ?_) ?_ ?_
             rotate_left
             ·show Act.put _ (some 85) _ = _
              simp only [Act.put, List.setIfInBounds_toArray, List.set_cons_zero, List.set_cons_succ, i64_w, i32_w]
              rfl
             refine pure_ (i := 19) (N := some 86) (v := ?_) (a' := ?_) #[true, true, true, true, true, true, true, true, true, true, true, true, true, true, true, true, true, true, true, true, false, false] rfl rfl (any_of HT_.out (by kernel_rfl)) (fun _ _ _ h => h) (Or.inl ⟨by rfl, ?_⟩) ?_ ?_
             rotate_left
             ·intro w'
              go_simp
              with_reducible rfl
             rotate_left
             ·simp only [Act.put, List.setIfInBounds_toArray, List.set_cons_zero, List.set_cons_succ, i64_w, i32_w]
              rfl
             refine pure_ (i := 20) (N := some 87) (v := ?_) (a' := ?_) #[true, true, true, true, true, true, true, true, true, true, true, true, true, true, true, true, true, true, true, true, true, false] rfl rfl (any_of HT_.out (by kernel_rfl)) (fun _ _ _ h => h) (Or.inl ⟨by rfl, ?_⟩) ?_ ?_
             rotate_left
             ·intro w'
              go_simp
              with_reducible rfl
             rotate_left
             ·simp only [Act.put, List.setIfInBounds_toArray, List.set_cons_zero, List.set_cons_succ, i64_w, i32_w]
              rfl
             refine pure_ (i := 21) (N := some 20) (v := ?_) (a' := ?_) #[true, true, true, true, true, true, true, true, true, true, true, true, true, true, true, true, true, true, true, true, true, true] rfl rfl (any_of HT_.out (by kernel_rfl)) (fun _ _ _ h => h) (Or.inl ⟨by rfl, ?_⟩) ?_ ?_
             rotate_left
             ·intro w'
              go_simp
              with_reducible rfl
             rotate_left
             ·simp only [Act.put, List.setIfInBounds_toArray, List.set_cons_zero, List.set_cons_succ, i64_w, i32_w]
              rfl
             refine done_ (done_of HT_.out (by kernel_rfl)) ?_
             try go_wp2
             have n0_ := Aside0.mk (blk_drew BK101.out)
             have n1_ := Aside0.mk (blk_drew BK102.out)
             have n2_ := Aside0.mk (blk_drew BK107.out)
             have n3_ := Aside0.mk (blk_drew BK111.out)
             have n4_ := Aside0.mk (blk_drew BK115.out)
             have n5_ := Aside0.mk (blk_drew BK119.out)
             have n6_ := Aside0.mk (below_drew1 HB.out)
             clear BK101
             clear BK102
             clear BK107
             clear BK111
             clear BK115
             clear BK119
             clear HB
             have BK101 := n0_
             have BK102 := n1_
             have BK107 := n2_
             have BK111 := n3_
             have BK115 := n4_
             have BK119 := n5_
             have HB := n6_
             clear n0_ n1_ n2_ n3_ n4_ n5_ n6_
             refine start_ (n := 26) (S := fun w' => w'.cell? ⟨gb101, 0, none⟩ = some (.int .i64 a0_0) ∧ w'.cell? ⟨gb101, 1, none⟩ = some (.int .i64 a0_1) ∧ w'.cell? ⟨gb102, 0, none⟩ = some (.int .i64 a1_0) ∧ w'.cell? ⟨gb102, 1, none⟩ = some (.int .i64 a1_1)) (ds := []) #[false, false, false, false, false, false, false, false, false, false, false, false, false, false, false, false, false, false, false, false, false, false, false, false, false, false] (by kernel_rfl) rfl rfl ⟨(blk_cell BK101.out 0).trans rfl, (blk_cell BK101.out 1).trans rfl, (blk_cell BK102.out 0).trans rfl, (blk_cell BK102.out 1).trans rfl⟩ (fun hHeld => ?_); refine with_tabW bournelaw09_SpanTells.tab9 bournelaw09_SpanTells.bits9 (fun HT_ HW_ => ?_)
             generalize w85.drew = w86 at BK101 BK102 BK107 BK111 BK115 BK119 HB hHeld ⊢
             refine take_ (i := 0) (N := some 88) (v := ?_) (a' := ?_) #[true, false, false, false, false, false, false, false, false, false, false, false, false, false, false, false, false, false, false, false, false, false, false, false, false, false] rfl rfl (take_ofW HT_.out HW_.out (by kernel_rfl)) (fun _ _ _ h => h) (Or.inl ⟨by rfl, ?_⟩) hHeld ?_ ?_
             rotate_left
             ·rintro w' ⟨s0, s1, s2, s3⟩
              go_simp
              with_reducible rfl
             rotate_left
             ·simp only [Act.put, List.setIfInBounds_toArray, List.set_cons_zero, List.set_cons_succ, i64_w, i32_w]
              rfl
             refine take_ (i := 1) (N := some 89) (v := ?_) (a' := ?_) #[true, true, false, false, false, false, false, false, false, false, false, false, false, false, false, false, false, false, false, false, false, false, false, false, false, false] rfl rfl (take_ofW HT_.out HW_.out (by kernel_rfl)) (fun _ _ _ h => h) (Or.inl ⟨by rfl, ?_⟩) hHeld ?_ ?_
             rotate_left
             ·rintro w' ⟨s0, s1, s2, s3⟩
              go_simp
              with_reducible rfl
             rotate_left
             ·simp only [Act.put, List.setIfInBounds_toArray, List.set_cons_zero, List.set_cons_succ, i64_w, i32_w]
              rfl
             refine take_ (i := 3) (N := some 91) (v := ?_) (a' := ?_) #[true, true, false, true, false, false, false, false, false, false, false, false, false, false, false, false, false, false, false, false, false, false, false, false, false, false] rfl rfl (take_ofW HT_.out HW_.out (by kernel_rfl)) (fun _ _ _ h => h) (Or.inl ⟨by rfl, ?_⟩) hHeld ?_ ?_
             rotate_left
             ·rintro w' ⟨s0, s1, s2, s3⟩
              go_simp
              with_reducible rfl
             rotate_left
             ·simp only [Act.put, List.setIfInBounds_toArray, List.set_cons_zero, List.set_cons_succ, i64_w, i32_w]
              rfl
             refine take_ (i := 4) (N := some 92) (v := ?_) (a' := ?_) #[true, true, false, true, true, false, false, false, false, false, false, false, false, false, false, false, false, false, false, false, false, false, false, false, false, false] rfl rfl (take_ofW HT_.out HW_.out (by kernel_rfl)) (fun _ _ _ h => h) (Or.inl ⟨by rfl, ?_⟩) hHeld ?_ ?_
             rotate_left
             ·rintro w' ⟨s0, s1, s2, s3⟩
              go_simp
              with_reducible rfl
             rotate_left
             ·simp only [Act.put, List.setIfInBounds_toArray, List.set_cons_zero, List.set_cons_succ, i64_w, i32_w]
              rfl
             refine one_ (i := 2) (N := some 90) #[true, true, true, true, true, false, false, false, false, false, false, false, false, false, false, false, false, false, false, false, false, false, false, false, false, false] rfl rfl (one_of HT_.out (by kernel_rfl)) (by decide) (fun K hK => ?_)
             refine goes_ Try.func19 (by kernel_rfl) rfl #[.agg #[.int .i64 a0_0, .int .i64 a0_1], .agg #[.int .i64 a1_0, .int .i64 a1_1]] (by rfl) rfl rfl (by (try simp only [List.map_toArray, List.map_cons, List.map_nil]); first | done | rfl | (simp only [List.length_drop, List.length_take]; rfl)) ?_
             with_reducible refine (span_Add.calls a0_0 a0_1 a1_0 a1_1 t128 t129 _ A23.out).mono ?_
             rintro e w87 ⟨rfl, hb⟩
             refine ⟨_, rfl, ?_⟩
             have n0_ := Aside0.mk (blk_below (g := gb101) (o := .cells #[.int .i64 a0_0, .int .i64 a0_1] 23 (0, 0)) abx hb)
             have n1_ := Aside0.mk (blk_below (g := gb102) (o := .cells #[.int .i64 a1_0, .int .i64 a1_1] 23 (0, 0)) abx hb)
             have n2_ := Aside0.mk (blk_below (g := gb107) (o := .cells #[.int .i64 t104, .int .i64 t105] 23 (0, 0)) abx hb)
             have n3_ := Aside0.mk (blk_below (g := gb111) (o := .cells #[.int .i64 t108, .int .i64 t109] 23 (0, 0)) abx hb)
             have n4_ := Aside0.mk (blk_below (g := gb115) (o := .cells #[.int .i64 t112, .int .i64 t113] 23 (0, 0)) abx hb)
             have n5_ := Aside0.mk (blk_below (g := gb119) (o := .cells #[.int .i64 t116, .int .i64 t117] 23 (0, 0)) abx hb)
             have n6_ := Aside0.mk (below_step ahx hb)
             clear BK101
             clear BK102
             clear BK107
             clear BK111
             clear BK115
             clear BK119
             clear HB
             have BK101 := n0_
             have BK102 := n1_
             have BK107 := n2_
             have BK111 := n3_
             have BK115 := n4_
             have BK119 := n5_
             have HB := n6_
             clear n0_ n1_ n2_ n3_ n4_ n5_ n6_
             (try clear hb)
             (try clear hb2)
             (try clear hk)
             (try clear hi)
             refine hK.out _ _ ⟨(blk_cell BK101.out 0).trans rfl, (blk_cell BK101.out 1).trans rfl, (blk_cell BK102.out 0).trans rfl, (blk_cell BK102.out 1).trans rfl⟩ (fun hHeld => ?_)
             clear hK K
             refine norm_ (a' := ?_) ?_ ?_
             rotate_left
             ·show Act.put _ (some 90) _ = _
              simp only [Act.put, List.setIfInBounds_toArray, List.set_cons_zero, List.set_cons_succ, i64_w, i32_w]
              rfl
             refine one_ (i := 5) (N := some 93) #[true, true, true, true, true, true, false, false, false, false, false, false, false, false, false, false, false, false, false, false, false, false, false, false, false, false] rfl rfl (one_of HT_.out (by kernel_rfl)) (by decide) (fun K hK => ?_)
             refine goes_ Try.func20 (by kernel_rfl) rfl #[.agg #[.int .i64 a0_0, .int .i64 a0_1], .agg #[.int .i64 a1_0, .int .i64 a1_1]] (by rfl) rfl rfl (by (try simp only [List.map_toArray, List.map_cons, List.map_nil]); first | done | rfl | (simp only [List.length_drop, List.length_take]; rfl)) ?_
             with_reducible refine (bourneref09_Add.calls a0_0 a0_1 a1_0 a1_1 t130 t131 _ A24.out).mono ?_
             rintro e w88 ⟨rfl, hb⟩
             refine ⟨_, rfl, ?_⟩
             have n0_ := Aside0.mk (blk_below (g := gb101) (o := .cells #[.int .i64 a0_0, .int .i64 a0_1] 23 (0, 0)) abx hb)
             have n1_ := Aside0.mk (blk_below (g := gb102) (o := .cells #[.int .i64 a1_0, .int .i64 a1_1] 23 (0, 0)) abx hb)
             have n2_ := Aside0.mk (blk_below (g := gb107) (o := .cells #[.int .i64 t104, .int .i64 t105] 23 (0, 0)) abx hb)
             have n3_ := Aside0.mk (blk_below (g := gb111) (o := .cells #[.int .i64 t108, .int .i64 t109] 23 (0, 0)) abx hb)
             have n4_ := Aside0.mk (blk_below (g := gb115) (o := .cells #[.int .i64 t112, .int .i64 t113] 23 (0, 0)) abx hb)
             have n5_ := Aside0.mk (blk_below (g := gb119) (o := .cells #[.int .i64 t116, .int .i64 t117] 23 (0, 0)) abx hb)
             have n6_ := Aside0.mk (below_step ahx hb)
             clear BK101
             clear BK102
             clear BK107
             clear BK111
             clear BK115
             clear BK119
             clear HB
             have BK101 := n0_
             have BK102 := n1_
             have BK107 := n2_
             have BK111 := n3_
             have BK115 := n4_
             have BK119 := n5_
             have HB := n6_
             clear n0_ n1_ n2_ n3_ n4_ n5_ n6_
             (try clear hb)
             (try clear hb2)
             (try clear hk)
             (try clear hi)
             refine hK.out _ _ ⟨(blk_cell BK101.out 0).trans rfl, (blk_cell BK101.out 1).trans rfl, (blk_cell BK102.out 0).trans rfl, (blk_cell BK102.out 1).trans rfl⟩ (fun hHeld => ?_)
             clear hK K
             refine norm_ (a' := ?_) ?_ ?_
             rotate_left
             ·show Act.put _ (some 93) _ = _
              simp only [Act.put, List.setIfInBounds_toArray, List.set_cons_zero, List.set_cons_succ, i64_w, i32_w]
              rfl
             refine pure_ (i := 6) (N := some 94) (v := ?_) (a' := ?_) #[true, true, true, true, true, true, true, false, false, false, false, false, false, false, false, false, false, false, false, false, false, false, false, false, false, false] rfl rfl (any_of HT_.out (by kernel_rfl)) (fun _ _ _ h => h) (Or.inl ⟨by rfl, ?_⟩) ?_ ?_
             rotate_left
             ·intro w'
              go_simp
              with_reducible rfl
             rotate_left
             ·simp only [Act.put, List.setIfInBounds_toArray, List.set_cons_zero, List.set_cons_succ, i64_w, i32_w]
              rfl
             refine pure_ (i := 7) (N := some 95) (v := ?_) (a' := ?_) #[true, true, true, true, true, true, true, true, false, false, false, false, false, false, false, false, false, false, false, false, false, false, false, false, false, false] rfl rfl (any_of HT_.out (by kernel_rfl)) (fun _ _ _ h => h) (Or.inl ⟨by rfl, ?_⟩) ?_ ?_
             rotate_left
             ·intro w'
              go_simp
              with_reducible rfl
             rotate_left
             ·simp only [Act.put, List.setIfInBounds_toArray, List.set_cons_zero, List.set_cons_succ, i64_w, i32_w]
              rfl
             refine take_ (i := 8) (N := some 96) (v := ?_) (a' := ?_) #[true, true, true, true, true, true, true, true, true, false, false, false, false, false, false, false, false, false, false, false, false, false, false, false, false, false] rfl rfl (take_ofW HT_.out HW_.out (by kernel_rfl)) (fun _ _ _ h => h) (Or.inl ⟨by rfl, ?_⟩) hHeld ?_ ?_
             rotate_left
             ·rintro w' ⟨s0, s1, s2, s3⟩
              go_simp
              with_reducible rfl
             rotate_left
             ·simp only [Act.put, List.setIfInBounds_toArray, List.set_cons_zero, List.set_cons_succ, i64_w, i32_w]
              rfl
             refine take_ (i := 9) (N := some 97) (v := ?_) (a' := ?_) #[true, true, true, true, true, true, true, true, true, true, false, false, false, false, false, false, false, false, false, false, false, false, false, false, false, false] rfl rfl (take_ofW HT_.out HW_.out (by kernel_rfl)) (fun _ _ _ h => h) (Or.inl ⟨by rfl, ?_⟩) hHeld ?_ ?_
             rotate_left
             ·rintro w' ⟨s0, s1, s2, s3⟩
              go_simp
              with_reducible rfl
             rotate_left
             ·simp only [Act.put, List.setIfInBounds_toArray, List.set_cons_zero, List.set_cons_succ, i64_w, i32_w]
              rfl
             refine take_ (i := 11) (N := some 99) (v := ?_) (a' := ?_) #[true, true, true, true, true, true, true, true, true, true, false, true, false, false, false, false, false, false, false, false, false, false, false, false, false, false] rfl rfl (take_ofW HT_.out HW_.out (by kernel_rfl)) (fun _ _ _ h => h) (Or.inl ⟨by rfl, ?_⟩) hHeld ?_ ?_
             rotate_left
             ·rintro w' ⟨s0, s1, s2, s3⟩
              go_simp
              with_reducible rfl
             rotate_left
             ·simp only [Act.put, List.setIfInBounds_toArray, List.set_cons_zero, List.set_cons_succ, i64_w, i32_w]
              rfl
             refine take_ (i := 12) (N := some 100) (v := ?_) (a' := ?_) #[true, true, true, true, true, true, true, true, true, true, false, true, true, false, false, false, false, false, false, false, false, false, false, false, false, false] rfl rfl (take_ofW HT_.out HW_.out (by kernel_rfl)) (fun _ _ _ h => h) (Or.inl ⟨by rfl, ?_⟩) hHeld ?_ ?_
             rotate_left
             ·rintro w' ⟨s0, s1, s2, s3⟩
              go_simp
              with_reducible rfl
             rotate_left
             ·simp only [Act.put, List.setIfInBounds_toArray, List.set_cons_zero, List.set_cons_succ, i64_w, i32_w]
              rfl
             refine one_ (i := 10) (N := some 98) #[true, true, true, true, true, true, true, true, true, true, true, true, true, false, false, false, false, false, false, false, false, false, false, false, false, false] rfl rfl (one_of HT_.out (by kernel_rfl)) (by decide) (fun K hK => ?_)
             refine goes_ Try.func21 (by kernel_rfl) rfl #[.agg #[.int .i64 a0_0, .int .i64 a0_1], .agg #[.int .i64 a1_0, .int .i64 a1_1]] (by rfl) rfl rfl (by (try simp only [List.map_toArray, List.map_cons, List.map_nil]); first | done | rfl | (simp only [List.length_drop, List.length_take]; rfl)) ?_
             with_reducible refine (span_Sub.calls a0_0 a0_1 a1_0 a1_1 t132 t133 _ A26.out).mono ?_
             rintro e w89 ⟨rfl, hb⟩
             refine ⟨_, rfl, ?_⟩
             have n0_ := Aside0.mk (blk_below (g := gb101) (o := .cells #[.int .i64 a0_0, .int .i64 a0_1] 23 (0, 0)) abx hb)
             have n1_ := Aside0.mk (blk_below (g := gb102) (o := .cells #[.int .i64 a1_0, .int .i64 a1_1] 23 (0, 0)) abx hb)
             have n2_ := Aside0.mk (blk_below (g := gb107) (o := .cells #[.int .i64 t104, .int .i64 t105] 23 (0, 0)) abx hb)
             have n3_ := Aside0.mk (blk_below (g := gb111) (o := .cells #[.int .i64 t108, .int .i64 t109] 23 (0, 0)) abx hb)
             have n4_ := Aside0.mk (blk_below (g := gb115) (o := .cells #[.int .i64 t112, .int .i64 t113] 23 (0, 0)) abx hb)
             have n5_ := Aside0.mk (blk_below (g := gb119) (o := .cells #[.int .i64 t116, .int .i64 t117] 23 (0, 0)) abx hb)
             have n6_ := Aside0.mk (below_step ahx hb)
             clear BK101
             clear BK102
             clear BK107
             clear BK111
             clear BK115
             clear BK119
             clear HB
             have BK101 := n0_
             have BK102 := n1_
             have BK107 := n2_
             have BK111 := n3_
             have BK115 := n4_
             have BK119 := n5_
             have HB := n6_
             clear n0_ n1_ n2_ n3_ n4_ n5_ n6_
             (try clear hb)
             (try clear hb2)
             (try clear hk)
             (try clear hi)
             refine hK.out _ _ ⟨(blk_cell BK101.out 0).trans rfl, (blk_cell BK101.out 1).trans rfl, (blk_cell BK102.out 0).trans rfl, (blk_cell BK102.out 1).trans rfl⟩ (fun hHeld => ?_)
             clear hK K
             refine norm_ (a' := ?_) ?_ ?_
             rotate_left
             ·show Act.put _ (some 98) _ = _
              simp only [Act.put, List.setIfInBounds_toArray, List.set_cons_zero, List.set_cons_succ, i64_w, i32_w]
              rfl
             refine one_ (i := 13) (N := some 101) #[true, true, true, true, true, true, true, true, true, true, true, true, true, true, false, false, false, false, false, false, false, false, false, false, false, false] rfl rfl (one_of HT_.out (by kernel_rfl)) (by decide) (fun K hK => ?_)
             refine goes_ Try.func22 (by kernel_rfl) rfl #[.agg #[.int .i64 a0_0, .int .i64 a0_1], .agg #[.int .i64 a1_0, .int .i64 a1_1]] (by rfl) rfl rfl (by (try simp only [List.map_toArray, List.map_cons, List.map_nil]); first | done | rfl | (simp only [List.length_drop, List.length_take]; rfl)) ?_
             with_reducible refine (bourneref09_Sub.calls a0_0 a0_1 a1_0 a1_1 t134 t135 _ A27.out).mono ?_
             rintro e w90 ⟨rfl, hb⟩
             refine ⟨_, rfl, ?_⟩
             have n0_ := Aside0.mk (blk_below (g := gb101) (o := .cells #[.int .i64 a0_0, .int .i64 a0_1] 23 (0, 0)) abx hb)
             have n1_ := Aside0.mk (blk_below (g := gb102) (o := .cells #[.int .i64 a1_0, .int .i64 a1_1] 23 (0, 0)) abx hb)
             have n2_ := Aside0.mk (blk_below (g := gb107) (o := .cells #[.int .i64 t104, .int .i64 t105] 23 (0, 0)) abx hb)
             have n3_ := Aside0.mk (blk_below (g := gb111) (o := .cells #[.int .i64 t108, .int .i64 t109] 23 (0, 0)) abx hb)
             have n4_ := Aside0.mk (blk_below (g := gb115) (o := .cells #[.int .i64 t112, .int .i64 t113] 23 (0, 0)) abx hb)
             have n5_ := Aside0.mk (blk_below (g := gb119) (o := .cells #[.int .i64 t116, .int .i64 t117] 23 (0, 0)) abx hb)
             have n6_ := Aside0.mk (below_step ahx hb)
             clear BK101
             clear BK102
             clear BK107
             clear BK111
             clear BK115
             clear BK119
             clear HB
             have BK101 := n0_
             have BK102 := n1_
             have BK107 := n2_
             have BK111 := n3_
             have BK115 := n4_
             have BK119 := n5_
             have HB := n6_
             clear n0_ n1_ n2_ n3_ n4_ n5_ n6_
             (try clear hb)
             (try clear hb2)
             (try clear hk)
             (try clear hi)
             refine hK.out _ _ ⟨(blk_cell BK101.out 0).trans rfl, (blk_cell BK101.out 1).trans rfl, (blk_cell BK102.out 0).trans rfl, (blk_cell BK102.out 1).trans rfl⟩ (fun hHeld => ?_)
             clear hK K
             refine norm_ (a' := ?_) ?_ ?_
             rotate_left
             ·show Act.put _ (some 101) _ = _
              simp only [Act.put, List.setIfInBounds_toArray, List.set_cons_zero, List.set_cons_succ, i64_w, i32_w]
              rfl
             refine pure_ (i := 14) (N := some 102) (v := ?_) (a' := ?_) #[true, true, true, true, true, true, true, true, true, true, true, true, true, true, true, false, false, false, false, false, false, false, false, false, false, false] rfl rfl (any_of HT_.out (by kernel_rfl)) (fun _ _ _ h => h) (Or.inl ⟨by rfl, ?_⟩) ?_ ?_
             rotate_left
             ·intro w'
              go_simp
              with_reducible rfl
             rotate_left
             ·simp only [Act.put, List.setIfInBounds_toArray, List.set_cons_zero, List.set_cons_succ, i64_w, i32_w]
              rfl
             refine pure_ (i := 15) (N := some 103) (v := ?_) (a' := ?_) #[true, true, true, true, true, true, true, true, true, true, true, true, true, true, true, true, false, false, false, false, false, false, false, false, false, false] rfl rfl (any_of HT_.out (by kernel_rfl)) (fun _ _ _ h => h) (Or.inl ⟨by rfl, ?_⟩) ?_ ?_
             rotate_left
             ·intro w'
              go_simp
              with_reducible rfl
             rotate_left
             ·simp only [Act.put, List.setIfInBounds_toArray, List.set_cons_zero, List.set_cons_succ, i64_w, i32_w]
              rfl
             refine pure_ (i := 16) (N := some 104) (v := ?_) (a' := ?_) #[true, true, true, true, true, true, true, true, true, true, true, true, true, true, true, true, true, false, false, false, false, false, false, false, false, false] rfl rfl (any_of HT_.out (by kernel_rfl)) (fun _ _ _ h => h) (Or.inl ⟨by rfl, ?_⟩) ?_ ?_
             rotate_left
             ·intro w'
              go_simp
              with_reducible rfl
             rotate_left
             ·simp only [Act.put, List.setIfInBounds_toArray, List.set_cons_zero, List.set_cons_succ, i64_w, i32_w]
              rfl
             refine take_ (i := 17) (N := some 105) (v := ?_) (a' := ?_) #[true, true, true, true, true, true, true, true, true, true, true, true, true, true, true, true, true, true, false, false, false, false, false, false, false, false] rfl rfl (take_ofW HT_.out HW_.out (by kernel_rfl)) (fun _ _ _ h => h) (Or.inl ⟨by rfl, ?_⟩) hHeld ?_ ?_
             rotate_left
             ·rintro w' ⟨s0, s1, s2, s3⟩
              go_simp
              with_reducible rfl
             rotate_left
             ·simp only [Act.put, List.setIfInBounds_toArray, List.set_cons_zero, List.set_cons_succ, i64_w, i32_w]
              rfl
             refine take_ (i := 18) (N := some 106) (v := ?_) (a' := ?_) #[true, true, true, true, true, true, true, true, true, true, true, true, true, true, true, true, true, true, true, false, false, false, false, false, false, false] rfl rfl (take_ofW HT_.out HW_.out (by kernel_rfl)) (fun _ _ _ h => h) (Or.inl ⟨by rfl, ?_⟩) hHeld ?_ ?_
             rotate_left
             ·rintro w' ⟨s0, s1, s2, s3⟩
              go_simp
              with_reducible rfl
             rotate_left
             ·simp only [Act.put, List.setIfInBounds_toArray, List.set_cons_zero, List.set_cons_succ, i64_w, i32_w]
              rfl
             refine take_ (i := 20) (N := some 108) (v := ?_) (a' := ?_) #[true, true, true, true, true, true, true, true, true, true, true, true, true, true, true, true, true, true, true, false, true, false, false, false, false, false] rfl rfl (take_ofW HT_.out HW_.out (by kernel_rfl)) (fun _ _ _ h => h) (Or.inl ⟨by rfl, ?_⟩) hHeld ?_ ?_
             rotate_left
             ·rintro w' ⟨s0, s1, s2, s3⟩
              go_simp
              with_reducible rfl
             rotate_left
             ·simp only [Act.put, List.setIfInBounds_toArray, List.set_cons_zero, List.set_cons_succ, i64_w, i32_w]
              rfl
             refine take_ (i := 21) (N := some 109) (v := ?_) (a' := ?_) #[true, true, true, true, true, true, true, true, true, true, true, true, true, true, true, true, true, true, true, false, true, true, false, false, false, false] rfl rfl (take_ofW HT_.out HW_.out (by kernel_rfl)) (fun _ _ _ h => h) (Or.inl ⟨by rfl, ?_⟩) hHeld ?_ ?_
             rotate_left
             ·rintro w' ⟨s0, s1, s2, s3⟩
              go_simp
              with_reducible rfl
             rotate_left
             ·simp only [Act.put, List.setIfInBounds_toArray, List.set_cons_zero, List.set_cons_succ, i64_w, i32_w]
              rfl
             refine one_ (i := 19) (N := some 107) #[true, true, true, true, true, true, true, true, true, true, true, true, true, true, true, true, true, true, true, true, true, true, false, false, false, false] rfl rfl (one_of HT_.out (by kernel_rfl)) (by decide) (fun K hK => ?_)
             refine goes_ Try.func23 (by kernel_rfl) rfl #[.agg #[.int .i64 a0_0, .int .i64 a0_1], .agg #[.int .i64 a1_0, .int .i64 a1_1]] (by rfl) rfl rfl (by (try simp only [List.map_toArray, List.map_cons, List.map_nil]); first | done | rfl | (simp only [List.length_drop, List.length_take]; rfl)) ?_
             with_reducible refine (span_Join.calls a0_0 a0_1 a1_0 a1_1 t136 t137 _ A29.out).mono ?_
             rintro e w91 ⟨rfl, hb⟩
             refine ⟨_, rfl, ?_⟩
             have n0_ := Aside0.mk (blk_below (g := gb101) (o := .cells #[.int .i64 a0_0, .int .i64 a0_1] 23 (0, 0)) abx hb)
             have n1_ := Aside0.mk (blk_below (g := gb102) (o := .cells #[.int .i64 a1_0, .int .i64 a1_1] 23 (0, 0)) abx hb)
             have n2_ := Aside0.mk (blk_below (g := gb107) (o := .cells #[.int .i64 t104, .int .i64 t105] 23 (0, 0)) abx hb)
             have n3_ := Aside0.mk (blk_below (g := gb111) (o := .cells #[.int .i64 t108, .int .i64 t109] 23 (0, 0)) abx hb)
             have n4_ := Aside0.mk (blk_below (g := gb115) (o := .cells #[.int .i64 t112, .int .i64 t113] 23 (0, 0)) abx hb)
             have n5_ := Aside0.mk (blk_below (g := gb119) (o := .cells #[.int .i64 t116, .int .i64 t117] 23 (0, 0)) abx hb)
             have n6_ := Aside0.mk (below_step ahx hb)
             clear BK101
             clear BK102
             clear BK107
             clear BK111
             clear BK115
             clear BK119
             clear HB
             have BK101 := n0_
             have BK102 := n1_
             have BK107 := n2_
             have BK111 := n3_
             have BK115 := n4_
             have BK119 := n5_
             have HB := n6_
             clear n0_ n1_ n2_ n3_ n4_ n5_ n6_
             (try clear hb)
             (try clear hb2)
             (try clear hk)
             (try clear hi)
             refine hK.out _ _ ⟨(blk_cell BK101.out 0).trans rfl, (blk_cell BK101.out 1).trans rfl, (blk_cell BK102.out 0).trans rfl, (blk_cell BK102.out 1).trans rfl⟩ (fun hHeld => ?_)
             clear hK K
             refine norm_ (a' := ?_) ?_ ?_
             rotate_left
             ·show Act.put _ (some 107) _ = _
              simp only [Act.put, List.setIfInBounds_toArray, List.set_cons_zero, List.set_cons_succ, i64_w, i32_w]
              rfl
             refine one_ (i := 22) (N := some 110) #[true, true, true, true, true, true, true, true, true, true, true, true, true, true, true, true, true, true, true, true, true, true, true, false, false, false] rfl rfl (one_of HT_.out (by kernel_rfl)) (by decide) (fun K hK => ?_)
             refine goes_ Try.func24 (by kernel_rfl) rfl #[.agg #[.int .i64 a0_0, .int .i64 a0_1], .agg #[.int .i64 a1_0, .int .i64 a1_1]] (by rfl) rfl rfl (by (try simp only [List.map_toArray, List.map_cons, List.map_nil]); first | done | rfl | (simp only [List.length_drop, List.length_take]; rfl)) ?_
             with_reducible refine (bourneref09_Join.calls a0_0 a0_1 a1_0 a1_1 t138 t139 _ A30.out).mono ?_
             rintro e w92 ⟨rfl, hb⟩
             refine ⟨_, rfl, ?_⟩
             have n0_ := Aside0.mk (blk_below (g := gb101) (o := .cells #[.int .i64 a0_0, .int .i64 a0_1] 23 (0, 0)) abx hb)
             have n1_ := Aside0.mk (blk_below (g := gb102) (o := .cells #[.int .i64 a1_0, .int .i64 a1_1] 23 (0, 0)) abx hb)
             have n2_ := Aside0.mk (blk_below (g := gb107) (o := .cells #[.int .i64 t104, .int .i64 t105] 23 (0, 0)) abx hb)
             have n3_ := Aside0.mk (blk_below (g := gb111) (o := .cells #[.int .i64 t108, .int .i64 t109] 23 (0, 0)) abx hb)
             have n4_ := Aside0.mk (blk_below (g := gb115) (o := .cells #[.int .i64 t112, .int .i64 t113] 23 (0, 0)) abx hb)
             have n5_ := Aside0.mk (blk_below (g := gb119) (o := .cells #[.int .i64 t116, .int .i64 t117] 23 (0, 0)) abx hb)
             have n6_ := Aside0.mk (below_step ahx hb)
             clear BK101
             clear BK102
             clear BK107
             clear BK111
             clear BK115
             clear BK119
             clear HB
             have BK101 := n0_
             have BK102 := n1_
             have BK107 := n2_
             have BK111 := n3_
             have BK115 := n4_
             have BK119 := n5_
             have HB := n6_
             clear n0_ n1_ n2_ n3_ n4_ n5_ n6_
             (try clear hb)
             (try clear hb2)
             (try clear hk)
             (try clear hi)
             refine hK.out _ _ ⟨(blk_cell BK101.out 0).trans rfl, (blk_cell BK101.out 1).trans rfl, (blk_cell BK102.out 0).trans rfl, (blk_cell BK102.out 1).trans rfl⟩ (fun hHeld => ?_)
             clear hK K
             refine norm_ (a' := ?_) ?_ ?_
             rotate_left
             ·show Act.put _ (some 110) _ = _
              simp only [Act.put, List.setIfInBounds_toArray, List.set_cons_zero, List.set_cons_succ, i64_w, i32_w]
              rfl
             refine pure_ (i := 23) (N := some 111) (v := ?_) (a' := ?_) #[true, true, true, true, true, true, true, true, true, true, true, true, true, true, true, true, true, true, true, true, true, true, true, true, false, false] rfl rfl (any_of HT_.out (by kernel_rfl)) (fun _ _ _ h => h) (Or.inl ⟨by rfl, ?_⟩) ?_ ?_
             rotate_left
             ·intro w'
              go_simp
              with_reducible rfl
             rotate_left
             ·simp only [Act.put, List.setIfInBounds_toArray, List.set_cons_zero, List.set_cons_succ, i64_w, i32_w]
              rfl
             refine pure_ (i := 24) (N := some 112) (v := ?_) (a' := ?_) #[true, true, true, true, true, true, true, true, true, true, true, true, true, true, true, true, true, true, true, true, true, true, true, true, true, false] rfl rfl (any_of HT_.out (by kernel_rfl)) (fun _ _ _ h => h) (Or.inl ⟨by rfl, ?_⟩) ?_ ?_
             rotate_left
             ·intro w'
              go_simp
              with_reducible rfl
             rotate_left
             ·simp only [Act.put, List.setIfInBounds_toArray, List.set_cons_zero, List.set_cons_succ, i64_w, i32_w]
              rfl
             refine pure_ (i := 25) (N := some 21) (v := ?_) (a' := ?_) #[true, true, true, true, true, true, true, true, true, true, true, true, true, true, true, true, true, true, true, true, true, true, true, true, true, true] rfl rfl (any_of HT_.out (by kernel_rfl)) (fun _ _ _ h => h) (Or.inl ⟨by rfl, ?_⟩) ?_ ?_
             rotate_left
             ·intro w'
              go_simp
              with_reducible rfl
             rotate_left
             ·simp only [Act.put, List.setIfInBounds_toArray, List.set_cons_zero, List.set_cons_succ, i64_w, i32_w]
              rfl
             refine done_ (done_of HT_.out (by kernel_rfl)) ?_
             try go_wp2
             have n0_ := Aside0.mk (blk_drew BK101.out)
             have n1_ := Aside0.mk (blk_drew BK102.out)
             have n2_ := Aside0.mk (blk_drew BK107.out)
             have n3_ := Aside0.mk (blk_drew BK111.out)
             have n4_ := Aside0.mk (blk_drew BK115.out)
             have n5_ := Aside0.mk (blk_drew BK119.out)
             have n6_ := Aside0.mk (below_drew1 HB.out)
             clear BK101
             clear BK102
             clear BK107
             clear BK111
             clear BK115
             clear BK119
             clear HB
             have BK101 := n0_
             have BK102 := n1_
             have BK107 := n2_
             have BK111 := n3_
             have BK115 := n4_
             have BK119 := n5_
             have HB := n6_
             clear n0_ n1_ n2_ n3_ n4_ n5_ n6_
             refine start_ (n := 24) (S := fun w' => w'.cell? ⟨gb101, 0, none⟩ = some (.int .i64 a0_0) ∧ w'.cell? ⟨gb101, 1, none⟩ = some (.int .i64 a0_1) ∧ w'.cell? ⟨gb102, 0, none⟩ = some (.int .i64 a1_0) ∧ w'.cell? ⟨gb102, 1, none⟩ = some (.int .i64 a1_1)) (ds := []) #[false, false, false, false, false, false, false, false, false, false, false, false, false, false, false, false, false, false, false, false, false, false, false, false] (by kernel_rfl) rfl rfl ⟨(blk_cell BK101.out 0).trans rfl, (blk_cell BK101.out 1).trans rfl, (blk_cell BK102.out 0).trans rfl, (blk_cell BK102.out 1).trans rfl⟩ (fun hHeld => ?_); refine with_tabW bournelaw09_SpanTells.tab10 bournelaw09_SpanTells.bits10 (fun HT_ HW_ => ?_)
             generalize w92.drew = w93 at BK101 BK102 BK107 BK111 BK115 BK119 HB hHeld ⊢
             refine pure_ (i := 0) (N := some 113) (v := ?_) (a' := ?_) #[true, false, false, false, false, false, false, false, false, false, false, false, false, false, false, false, false, false, false, false, false, false, false, false] rfl rfl (any_of HT_.out (by kernel_rfl)) (fun _ _ _ h => h) (Or.inl ⟨by rfl, ?_⟩) ?_ ?_
             rotate_left
             ·intro w'
              go_simp
              with_reducible rfl
             rotate_left
             ·simp only [Act.put, List.setIfInBounds_toArray, List.set_cons_zero, List.set_cons_succ, i64_w, i32_w]
              rfl
             refine pure_ (i := 1) (N := some 114) (v := ?_) (a' := ?_) #[true, true, false, false, false, false, false, false, false, false, false, false, false, false, false, false, false, false, false, false, false, false, false, false] rfl rfl (any_of HT_.out (by kernel_rfl)) (fun _ _ _ h => h) (Or.inl ⟨by rfl, ?_⟩) ?_ ?_
             rotate_left
             ·intro w'
              go_simp
              with_reducible rfl
             rotate_left
             ·simp only [Act.put, List.setIfInBounds_toArray, List.set_cons_zero, List.set_cons_succ, i64_w, i32_w]
              rfl
             refine pure_ (i := 2) (N := some 115) (v := ?_) (a' := ?_) #[true, true, true, false, false, false, false, false, false, false, false, false, false, false, false, false, false, false, false, false, false, false, false, false] rfl rfl (any_of HT_.out (by kernel_rfl)) (fun _ _ _ h => h) (Or.inl ⟨by rfl, ?_⟩) ?_ ?_
             rotate_left
             ·intro w'
              go_simp
              with_reducible rfl
             rotate_left
             ·simp only [Act.put, List.setIfInBounds_toArray, List.set_cons_zero, List.set_cons_succ, i64_w, i32_w]
              rfl
             refine pure_ (i := 3) (N := some 116) (v := ?_) (a' := ?_) #[true, true, true, true, false, false, false, false, false, false, false, false, false, false, false, false, false, false, false, false, false, false, false, false] rfl rfl (any_of HT_.out (by kernel_rfl)) (fun _ _ _ h => h) (Or.inl ⟨by rfl, ?_⟩) ?_ ?_
             rotate_left
             ·intro w'
              go_simp
              with_reducible rfl
             rotate_left
             ·simp only [Act.put, List.setIfInBounds_toArray, List.set_cons_zero, List.set_cons_succ, i64_w, i32_w]
              rfl
             refine pure_ (i := 4) (N := some 117) (v := ?_) (a' := ?_) #[true, true, true, true, true, false, false, false, false, false, false, false, false, false, false, false, false, false, false, false, false, false, false, false] rfl rfl (any_of HT_.out (by kernel_rfl)) (fun _ _ _ h => h) (Or.inl ⟨by rfl, ?_⟩) ?_ ?_
             rotate_left
             ·intro w'
              go_simp
              with_reducible rfl
             rotate_left
             ·simp only [Act.put, List.setIfInBounds_toArray, List.set_cons_zero, List.set_cons_succ, i64_w, i32_w]
              rfl
             refine pure_ (i := 5) (N := some 118) (v := ?_) (a' := ?_) #[true, true, true, true, true, true, false, false, false, false, false, false, false, false, false, false, false, false, false, false, false, false, false, false] rfl rfl (any_of HT_.out (by kernel_rfl)) (fun _ _ _ h => h) (Or.inl ⟨by rfl, ?_⟩) ?_ ?_
             rotate_left
             ·intro w'
              go_simp
              with_reducible rfl
             rotate_left
             ·simp only [Act.put, List.setIfInBounds_toArray, List.set_cons_zero, List.set_cons_succ, i64_w, i32_w]
              rfl
             refine pure_ (i := 6) (N := some 119) (v := ?_) (a' := ?_) #[true, true, true, true, true, true, true, false, false, false, false, false, false, false, false, false, false, false, false, false, false, false, false, false] rfl rfl (any_of HT_.out (by kernel_rfl)) (fun _ _ _ h => h) (Or.inl ⟨by rfl, ?_⟩) ?_ ?_
             rotate_left
             ·intro w'
              go_simp
              with_reducible rfl
             rotate_left
             ·simp only [Act.put, List.setIfInBounds_toArray, List.set_cons_zero, List.set_cons_succ, i64_w, i32_w]
              rfl
             refine pure_ (i := 7) (N := some 120) (v := ?_) (a' := ?_) #[true, true, true, true, true, true, true, true, false, false, false, false, false, false, false, false, false, false, false, false, false, false, false, false] rfl rfl (any_of HT_.out (by kernel_rfl)) (fun _ _ _ h => h) (Or.inl ⟨by rfl, ?_⟩) ?_ ?_
             rotate_left
             ·intro w'
              go_simp
              with_reducible rfl
             rotate_left
             ·simp only [Act.put, List.setIfInBounds_toArray, List.set_cons_zero, List.set_cons_succ, i64_w, i32_w]
              rfl
             refine take_ (i := 8) (N := some 121) (v := ?_) (a' := ?_) #[true, true, true, true, true, true, true, true, true, false, false, false, false, false, false, false, false, false, false, false, false, false, false, false] rfl rfl (take_ofW HT_.out HW_.out (by kernel_rfl)) (fun _ _ _ h => h) (Or.inl ⟨by rfl, ?_⟩) hHeld ?_ ?_
             rotate_left
             ·rintro w' ⟨s0, s1, s2, s3⟩
              go_simp
              with_reducible rfl
             rotate_left
             ·simp only [Act.put, List.setIfInBounds_toArray, List.set_cons_zero, List.set_cons_succ, i64_w, i32_w]
              rfl
             refine take_ (i := 9) (N := some 122) (v := ?_) (a' := ?_) #[true, true, true, true, true, true, true, true, true, true, false, false, false, false, false, false, false, false, false, false, false, false, false, false] rfl rfl (take_ofW HT_.out HW_.out (by kernel_rfl)) (fun _ _ _ h => h) (Or.inl ⟨by rfl, ?_⟩) hHeld ?_ ?_
             rotate_left
             ·rintro w' ⟨s0, s1, s2, s3⟩
              go_simp
              with_reducible rfl
             rotate_left
             ·simp only [Act.put, List.setIfInBounds_toArray, List.set_cons_zero, List.set_cons_succ, i64_w, i32_w]
              rfl
             refine take_ (i := 11) (N := some 124) (v := ?_) (a' := ?_) #[true, true, true, true, true, true, true, true, true, true, false, true, false, false, false, false, false, false, false, false, false, false, false, false] rfl rfl (take_ofW HT_.out HW_.out (by kernel_rfl)) (fun _ _ _ h => h) (Or.inl ⟨by rfl, ?_⟩) hHeld ?_ ?_
             rotate_left
             ·rintro w' ⟨s0, s1, s2, s3⟩
              go_simp
              with_reducible rfl
             rotate_left
             ·simp only [Act.put, List.setIfInBounds_toArray, List.set_cons_zero, List.set_cons_succ, i64_w, i32_w]
              rfl
             refine take_ (i := 12) (N := some 125) (v := ?_) (a' := ?_) #[true, true, true, true, true, true, true, true, true, true, false, true, true, false, false, false, false, false, false, false, false, false, false, false] rfl rfl (take_ofW HT_.out HW_.out (by kernel_rfl)) (fun _ _ _ h => h) (Or.inl ⟨by rfl, ?_⟩) hHeld ?_ ?_
             rotate_left
             ·rintro w' ⟨s0, s1, s2, s3⟩
              go_simp
              with_reducible rfl
             rotate_left
             ·simp only [Act.put, List.setIfInBounds_toArray, List.set_cons_zero, List.set_cons_succ, i64_w, i32_w]
              rfl
             refine one_ (i := 10) (N := some 123) #[true, true, true, true, true, true, true, true, true, true, true, true, true, false, false, false, false, false, false, false, false, false, false, false] rfl rfl (one_of HT_.out (by kernel_rfl)) (by decide) (fun K hK => ?_)
             refine goes_ Try.func25 (by kernel_rfl) rfl #[.agg #[.int .i64 a0_0, .int .i64 a0_1], .agg #[.int .i64 a1_0, .int .i64 a1_1]] (by rfl) rfl rfl (by (try simp only [List.map_toArray, List.map_cons, List.map_nil]); first | done | rfl | (simp only [List.length_drop, List.length_take]; rfl)) ?_
             with_reducible refine (span_Within.calls a0_0 a0_1 a1_0 a1_1 t140 _ A34.out).mono ?_
             rintro e w94 ⟨rfl, hb⟩
             refine ⟨_, rfl, ?_⟩
             have n0_ := Aside0.mk (blk_below (g := gb101) (o := .cells #[.int .i64 a0_0, .int .i64 a0_1] 23 (0, 0)) abx hb)
             have n1_ := Aside0.mk (blk_below (g := gb102) (o := .cells #[.int .i64 a1_0, .int .i64 a1_1] 23 (0, 0)) abx hb)
             have n2_ := Aside0.mk (blk_below (g := gb107) (o := .cells #[.int .i64 t104, .int .i64 t105] 23 (0, 0)) abx hb)
             have n3_ := Aside0.mk (blk_below (g := gb111) (o := .cells #[.int .i64 t108, .int .i64 t109] 23 (0, 0)) abx hb)
             have n4_ := Aside0.mk (blk_below (g := gb115) (o := .cells #[.int .i64 t112, .int .i64 t113] 23 (0, 0)) abx hb)
             have n5_ := Aside0.mk (blk_below (g := gb119) (o := .cells #[.int .i64 t116, .int .i64 t117] 23 (0, 0)) abx hb)
             have n6_ := Aside0.mk (below_step ahx hb)
             clear BK101
             clear BK102
             clear BK107
             clear BK111
             clear BK115
             clear BK119
             clear HB
             have BK101 := n0_
             have BK102 := n1_
             have BK107 := n2_
             have BK111 := n3_
             have BK115 := n4_
             have BK119 := n5_
             have HB := n6_
             clear n0_ n1_ n2_ n3_ n4_ n5_ n6_
             (try clear hb)
             (try clear hb2)
             (try clear hk)
             (try clear hi)
             refine hK.out _ _ ⟨(blk_cell BK101.out 0).trans rfl, (blk_cell BK101.out 1).trans rfl, (blk_cell BK102.out 0).trans rfl, (blk_cell BK102.out 1).trans rfl⟩ (fun hHeld => ?_)
             clear hK K
             refine norm_ (a' := ?_) ?_ ?_
             rotate_left
             ·show Act.put _ (some 123) _ = _
              simp only [Act.put, List.setIfInBounds_toArray, List.set_cons_zero, List.set_cons_succ, i64_w, i32_w]
              rfl
             refine one_ (i := 13) (N := some 126) #[true, true, true, true, true, true, true, true, true, true, true, true, true, true, false, false, false, false, false, false, false, false, false, false] rfl rfl (one_of HT_.out (by kernel_rfl)) (by decide) (fun K hK => ?_)
             refine goes_ Try.func26 (by kernel_rfl) rfl #[.agg #[.int .i64 a0_0, .int .i64 a0_1], .agg #[.int .i64 a1_0, .int .i64 a1_1]] (by rfl) rfl rfl (by (try simp only [List.map_toArray, List.map_cons, List.map_nil]); first | done | rfl | (simp only [List.length_drop, List.length_take]; rfl)) ?_
             with_reducible refine (bourneref09_Within.calls a0_0 a0_1 a1_0 a1_1 t141 _ A35.out).mono ?_
             rintro e w95 ⟨rfl, hb⟩
             refine ⟨_, rfl, ?_⟩
             have n0_ := Aside0.mk (blk_below (g := gb101) (o := .cells #[.int .i64 a0_0, .int .i64 a0_1] 23 (0, 0)) abx hb)
             have n1_ := Aside0.mk (blk_below (g := gb102) (o := .cells #[.int .i64 a1_0, .int .i64 a1_1] 23 (0, 0)) abx hb)
             have n2_ := Aside0.mk (blk_below (g := gb107) (o := .cells #[.int .i64 t104, .int .i64 t105] 23 (0, 0)) abx hb)
             have n3_ := Aside0.mk (blk_below (g := gb111) (o := .cells #[.int .i64 t108, .int .i64 t109] 23 (0, 0)) abx hb)
             have n4_ := Aside0.mk (blk_below (g := gb115) (o := .cells #[.int .i64 t112, .int .i64 t113] 23 (0, 0)) abx hb)
             have n5_ := Aside0.mk (blk_below (g := gb119) (o := .cells #[.int .i64 t116, .int .i64 t117] 23 (0, 0)) abx hb)
             have n6_ := Aside0.mk (below_step ahx hb)
             clear BK101
             clear BK102
             clear BK107
             clear BK111
             clear BK115
             clear BK119
             clear HB
             have BK101 := n0_
             have BK102 := n1_
             have BK107 := n2_
             have BK111 := n3_
             have BK115 := n4_
             have BK119 := n5_
             have HB := n6_
             clear n0_ n1_ n2_ n3_ n4_ n5_ n6_
             (try clear hb)
             (try clear hb2)
             (try clear hk)
             (try clear hi)
             refine hK.out _ _ ⟨(blk_cell BK101.out 0).trans rfl, (blk_cell BK101.out 1).trans rfl, (blk_cell BK102.out 0).trans rfl, (blk_cell BK102.out 1).trans rfl⟩ (fun hHeld => ?_)
             clear hK K
             refine norm_ (a' := ?_) ?_ ?_
             rotate_left
             ·show Act.put _ (some 126) _ = _
              simp only [Act.put, List.setIfInBounds_toArray, List.set_cons_zero, List.set_cons_succ, i64_w, i32_w]
              rfl
             refine pure_ (i := 14) (N := some 127) (v := ?_) (a' := ?_) #[true, true, true, true, true, true, true, true, true, true, true, true, true, true, true, false, false, false, false, false, false, false, false, false] rfl rfl (any_of HT_.out (by kernel_rfl)) (fun _ _ _ h => h) (Or.inl ⟨by rfl, ?_⟩) ?_ ?_
             rotate_left
             ·intro w'
              go_simp
              with_reducible rfl
             rotate_left
             ·simp only [Act.put, List.setIfInBounds_toArray, List.set_cons_zero, List.set_cons_succ, i64_w, i32_w]
              rfl
             refine pure_ (i := 15) (N := some 128) (v := ?_) (a' := ?_) #[true, true, true, true, true, true, true, true, true, true, true, true, true, true, true, true, false, false, false, false, false, false, false, false] rfl rfl (any_of HT_.out (by kernel_rfl)) (fun _ _ _ h => h) (Or.inl ⟨by rfl, ?_⟩) ?_ ?_
             rotate_left
             ·intro w'
              go_simp
              with_reducible rfl
             rotate_left
             ·simp only [Act.put, List.setIfInBounds_toArray, List.set_cons_zero, List.set_cons_succ, i64_w, i32_w]
              rfl
             refine pure_ (i := 16) (N := some 129) (v := ?_) (a' := ?_) #[true, true, true, true, true, true, true, true, true, true, true, true, true, true, true, true, true, false, false, false, false, false, false, false] rfl rfl (any_of HT_.out (by kernel_rfl)) (fun _ _ _ h => h) (Or.inl ⟨by rfl, ?_⟩) ?_ ?_
             rotate_left
             ·intro w'
              go_simp
              with_reducible rfl
             rotate_left
             ·simp only [Act.put, List.setIfInBounds_toArray, List.set_cons_zero, List.set_cons_succ, i64_w, i32_w]
              rfl
             refine take_ (i := 17) (N := some 130) (v := ?_) (a' := ?_) #[true, true, true, true, true, true, true, true, true, true, true, true, true, true, true, true, true, true, false, false, false, false, false, false] rfl rfl (take_ofW HT_.out HW_.out (by kernel_rfl)) (fun _ _ _ h => h) (Or.inl ⟨by rfl, ?_⟩) hHeld ?_ ?_
             rotate_left
             ·rintro w' ⟨s0, s1, s2, s3⟩
              go_simp
              with_reducible rfl
             rotate_left
             ·simp only [Act.put, List.setIfInBounds_toArray, List.set_cons_zero, List.set_cons_succ, i64_w, i32_w]
              rfl
             refine take_ (i := 19) (N := some 132) (v := ?_) (a' := ?_) #[true, true, true, true, true, true, true, true, true, true, true, true, true, true, true, true, true, true, false, true, false, false, false, false] rfl rfl (take_ofW HT_.out HW_.out (by kernel_rfl)) (fun _ _ _ h => h) (Or.inl ⟨by rfl, ?_⟩) hHeld ?_ ?_
             rotate_left
             ·rintro w' ⟨s0, s1, s2, s3⟩
              go_simp
              with_reducible rfl
             rotate_left
             ·simp only [Act.put, List.setIfInBounds_toArray, List.set_cons_zero, List.set_cons_succ, i64_w, i32_w]
              rfl
             refine one_ (i := 18) (N := some 131) #[true, true, true, true, true, true, true, true, true, true, true, true, true, true, true, true, true, true, true, true, false, false, false, false] rfl rfl (one_of HT_.out (by kernel_rfl)) (by decide) (fun K hK => ?_)
             refine goes_ Try.func27 (by kernel_rfl) rfl #[.agg #[.int .i64 a0_0, .int .i64 a0_1]] (by rfl) rfl rfl (by (try simp only [List.map_toArray, List.map_cons, List.map_nil]); first | done | rfl | (simp only [List.length_drop, List.length_take]; rfl)) ?_
             with_reducible refine (span_Width.calls a0_0 a0_1 t142 _ A37.out).mono ?_
             rintro e w96 ⟨rfl, hb⟩
             refine ⟨_, rfl, ?_⟩
             have n0_ := Aside0.mk (blk_below (g := gb101) (o := .cells #[.int .i64 a0_0, .int .i64 a0_1] 23 (0, 0)) abx hb)
             have n1_ := Aside0.mk (blk_below (g := gb102) (o := .cells #[.int .i64 a1_0, .int .i64 a1_1] 23 (0, 0)) abx hb)
             have n2_ := Aside0.mk (blk_below (g := gb107) (o := .cells #[.int .i64 t104, .int .i64 t105] 23 (0, 0)) abx hb)
             have n3_ := Aside0.mk (blk_below (g := gb111) (o := .cells #[.int .i64 t108, .int .i64 t109] 23 (0, 0)) abx hb)
             have n4_ := Aside0.mk (blk_below (g := gb115) (o := .cells #[.int .i64 t112, .int .i64 t113] 23 (0, 0)) abx hb)
             have n5_ := Aside0.mk (blk_below (g := gb119) (o := .cells #[.int .i64 t116, .int .i64 t117] 23 (0, 0)) abx hb)
             have n6_ := Aside0.mk (below_step ahx hb)
             clear BK101
             clear BK102
             clear BK107
             clear BK111
             clear BK115
             clear BK119
             clear HB
             have BK101 := n0_
             have BK102 := n1_
             have BK107 := n2_
             have BK111 := n3_
             have BK115 := n4_
             have BK119 := n5_
             have HB := n6_
             clear n0_ n1_ n2_ n3_ n4_ n5_ n6_
             (try clear hb)
             (try clear hb2)
             (try clear hk)
             (try clear hi)
             refine hK.out _ _ ⟨(blk_cell BK101.out 0).trans rfl, (blk_cell BK101.out 1).trans rfl, (blk_cell BK102.out 0).trans rfl, (blk_cell BK102.out 1).trans rfl⟩ (fun hHeld => ?_)
             clear hK K
             refine norm_ (a' := ?_) ?_ ?_
             rotate_left
             ·show Act.put _ (some 131) _ = _
              simp only [Act.put, List.setIfInBounds_toArray, List.set_cons_zero, List.set_cons_succ, i64_w, i32_w]
              rfl
             refine one_ (i := 20) (N := some 133) #[true, true, true, true, true, true, true, true, true, true, true, true, true, true, true, true, true, true, true, true, true, false, false, false] rfl rfl (one_of HT_.out (by kernel_rfl)) (by decide) (fun K hK => ?_)
             refine goes_ Try.func28 (by kernel_rfl) rfl #[.agg #[.int .i64 a0_0, .int .i64 a0_1]] (by rfl) rfl rfl (by (try simp only [List.map_toArray, List.map_cons, List.map_nil]); first | done | rfl | (simp only [List.length_drop, List.length_take]; rfl)) ?_
             with_reducible refine (bourneref09_Width.calls a0_0 a0_1 t143 _ A38.out).mono ?_
             rintro e w97 ⟨rfl, hb⟩
             refine ⟨_, rfl, ?_⟩
             have n0_ := Aside0.mk (blk_below (g := gb101) (o := .cells #[.int .i64 a0_0, .int .i64 a0_1] 23 (0, 0)) abx hb)
             have n1_ := Aside0.mk (blk_below (g := gb102) (o := .cells #[.int .i64 a1_0, .int .i64 a1_1] 23 (0, 0)) abx hb)
             have n2_ := Aside0.mk (blk_below (g := gb107) (o := .cells #[.int .i64 t104, .int .i64 t105] 23 (0, 0)) abx hb)
             have n3_ := Aside0.mk (blk_below (g := gb111) (o := .cells #[.int .i64 t108, .int .i64 t109] 23 (0, 0)) abx hb)
             have n4_ := Aside0.mk (blk_below (g := gb115) (o := .cells #[.int .i64 t112, .int .i64 t113] 23 (0, 0)) abx hb)
             have n5_ := Aside0.mk (blk_below (g := gb119) (o := .cells #[.int .i64 t116, .int .i64 t117] 23 (0, 0)) abx hb)
             have n6_ := Aside0.mk (below_step ahx hb)
             clear BK101
             clear BK102
             clear BK107
             clear BK111
             clear BK115
             clear BK119
             clear HB
             have BK101 := n0_
             have BK102 := n1_
             have BK107 := n2_
             have BK111 := n3_
             have BK115 := n4_
             have BK119 := n5_
             have HB := n6_
             clear n0_ n1_ n2_ n3_ n4_ n5_ n6_
             (try clear hb)
             (try clear hb2)
             (try clear hk)
             (try clear hi)
             refine hK.out _ _ ⟨(blk_cell BK101.out 0).trans rfl, (blk_cell BK101.out 1).trans rfl, (blk_cell BK102.out 0).trans rfl, (blk_cell BK102.out 1).trans rfl⟩ (fun hHeld => ?_)
             clear hK K
             refine norm_ (a' := ?_) ?_ ?_
             rotate_left
             ·show Act.put _ (some 133) _ = _
              simp only [Act.put, List.setIfInBounds_toArray, List.set_cons_zero, List.set_cons_succ, i64_w, i32_w]
              rfl
             refine pure_ (i := 21) (N := some 134) (v := ?_) (a' := ?_) #[true, true, true, true, true, true, true, true, true, true, true, true, true, true, true, true, true, true, true, true, true, true, false, false] rfl rfl (any_of HT_.out (by kernel_rfl)) (fun _ _ _ h => h) (Or.inl ⟨by rfl, ?_⟩) ?_ ?_
             rotate_left
             ·intro w'
              go_simp
              with_reducible rfl
             rotate_left
             ·simp only [Act.put, List.setIfInBounds_toArray, List.set_cons_zero, List.set_cons_succ, i64_w, i32_w]
              rfl
             refine pure_ (i := 22) (N := some 135) (v := ?_) (a' := ?_) #[true, true, true, true, true, true, true, true, true, true, true, true, true, true, true, true, true, true, true, true, true, true, true, false] rfl rfl (any_of HT_.out (by kernel_rfl)) (fun _ _ _ h => h) (Or.inl ⟨by rfl, ?_⟩) ?_ ?_
             rotate_left
             ·intro w'
              go_simp
              with_reducible rfl
             rotate_left
             ·simp only [Act.put, List.setIfInBounds_toArray, List.set_cons_zero, List.set_cons_succ, i64_w, i32_w]
              rfl
             refine pure_ (i := 23) (N := some 10) (v := ?_) (a' := ?_) #[true, true, true, true, true, true, true, true, true, true, true, true, true, true, true, true, true, true, true, true, true, true, true, true] rfl rfl (any_of HT_.out (by kernel_rfl)) (fun _ _ _ h => h) (Or.inl ⟨by rfl, ?_⟩) ?_ ?_
             rotate_left
             ·intro w'
              go_simp
              with_reducible rfl
             rotate_left
             ·simp only [Act.put, List.setIfInBounds_toArray, List.set_cons_zero, List.set_cons_succ, i64_w, i32_w]
              rfl
             refine done_ (done_of HT_.out (by kernel_rfl)) ?_
             try go_wp2
             go_ret
             exact ⟨by first | rfl | (simp [errW_none, errW_some] <;> rfl) | (simp [*, errW_none, errW_some] <;> rfl), ahx⟩
            ·rw [if_neg c36] at H
             have c36b0 : (t140 == t141) = false := by simpa using c36
             (try (have c36b1 : decide (t140 = t141) = false := by simpa using c36))
             (try (have c36b2 : (t140 == t141) = false := by simpa using c36))
             (try (have c36b3 : ¬ (t140 = t141) := by simpa using c36))
             clear c36
             exact NF.go H hr.out (by repeat' first | exact NF.none | exact NF.ff | refine NF.ite ?_ ?_ | refine NF.bind (fun _ => ?_))
           ·rw [if_neg c33] at H
            have c33b0 : (t136 == t138 && (t137 == t139)) = false := by simpa using c33
            (try (have c33b1 : decide (t136 = t138 && (t137 == t139)) = false := by simpa using c33))
            (try (have c33b2 : (t136 == t138 && (t137 == t139)) = false := by simpa using c33))
            (try (have c33b3 : ¬ (t136 = t138 && (t137 == t139)) := by simpa using c33))
            clear c33
            exact NF.go H hr.out (by repeat' first | exact NF.none | exact NF.ff | refine NF.ite ?_ ?_ | refine NF.bind (fun _ => ?_))
          ·rw [if_neg c32] at H
           have c32b0 : (t126 == t127) = false := by simpa using c32
           (try (have c32b1 : decide (t126 = t127) = false := by simpa using c32))
           (try (have c32b2 : (t126 == t127) = false := by simpa using c32))
           (try (have c32b3 : ¬ (t126 = t127) := by simpa using c32))
           clear c32
           exact NF.go H hr.out (by repeat' first | exact NF.none | exact NF.ff | refine NF.ite ?_ ?_ | refine NF.bind (fun _ => ?_))
         ·replace c31 := Bool.eq_false_iff.mpr c31
          subst c31
          have H1 : (some false) = some r := by rw [if_neg (show ¬ (false = true) by decide)] at H; exact H
          clear H
          have H := H1
          clear H1
          exact NF.go H hr.out (by repeat' first | exact NF.none | exact NF.ff | refine NF.ite ?_ ?_ | refine NF.bind (fun _ => ?_))
        ·rw [if_neg c28] at H
         have c28b0 : (t132 == t134 && (t133 == t135)) = false := by simpa using c28
         (try (have c28b1 : decide (t132 = t134 && (t133 == t135)) = false := by simpa using c28))
         (try (have c28b2 : (t132 == t134 && (t133 == t135)) = false := by simpa using c28))
         (try (have c28b3 : ¬ (t132 = t134 && (t133 == t135)) := by simpa using c28))
         clear c28
         exact NF.go H hr.out (by repeat' first | exact NF.none | exact NF.ff | refine NF.ite ?_ ?_ | refine NF.bind (fun _ => ?_))
       ·rw [if_neg c25] at H
        have c25b0 : (t128 == t130 && (t129 == t131)) = false := by simpa using c25
        (try (have c25b1 : decide (t128 = t130 && (t129 == t131)) = false := by simpa using c25))
        (try (have c25b2 : (t128 == t130 && (t129 == t131)) = false := by simpa using c25))
        (try (have c25b3 : ¬ (t128 = t130 && (t129 == t131)) := by simpa using c25))
        clear c25
        exact NF.go H hr.out (by repeat' first | exact NF.none | exact NF.ff | refine NF.ite ?_ ?_ | refine NF.bind (fun _ => ?_))
      ·rw [if_neg c20] at H
       have c20b0 : (t122 == t124 && (t123 == t125)) = false := by simpa using c20
       (try (have c20b1 : decide (t122 = t124 && (t123 == t125)) = false := by simpa using c20))
       (try (have c20b2 : (t122 == t124 && (t123 == t125)) = false := by simpa using c20))
       (try (have c20b3 : ¬ (t122 = t124 && (t123 == t125)) := by simpa using c20))
       clear c20
       exact NF.go H hr.out (by repeat' first | exact NF.none | exact NF.ff | refine NF.ite ?_ ?_ | refine NF.bind (fun _ => ?_))
     ·rw [if_neg c17] at H
      have c17b0 : (t120 == t121) = false := by simpa using c17
      (try (have c17b1 : decide (t120 = t121) = false := by simpa using c17))
      (try (have c17b2 : (t120 == t121) = false := by simpa using c17))
      (try (have c17b3 : ¬ (t120 = t121) := by simpa using c17))
      clear c17
      exact NF.go H hr.out (by repeat' first | exact NF.none | exact NF.ff | refine NF.ite ?_ ?_ | refine NF.bind (fun _ => ?_))

end Go.Proofs.Ytmlimfleekddgaa.T
