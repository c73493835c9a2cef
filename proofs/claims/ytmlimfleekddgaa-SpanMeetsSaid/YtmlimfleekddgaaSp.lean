/- The functions of the package span, and the reference's, in closed form, with their contracts. -/
import Derived.Test.YtmlimfleekddgaaCx
import Derived.Test.YtmlimfleekddgaaEx
namespace Go.Proofs.Ytmlimfleekddgaa.S
open Go.RowKit Go.Proofs.YtmlimfleekddgaaW.PrintWords Go.Proofs.YtmlimfleekddgaaW.PrintMore
/-- the meeting of two spans -/
def meet (a b c d : Int) : Int × Int × Bool := if mx a c ≤ mn b d then (mx a c, mn b d, true) else (0, 0, false)
/-- the quotient, rounded up -/
def upq (s : Int × Int × Bool) : Int := if s.2.1 > 0 then s.1 + 1 else s.1
/-- a fraction of a span -/
def sscl (lo hi n d : Int) : Int × Int × Bool :=
  if lo ≤ hi ∧ (scl lo n d).2.2 = true ∧ (scl hi n d).2.2 = true ∧ upq (scl hi n d) ≤ 1125899906842624 then ((scl lo n d).1, upq (scl hi n d), true) else (0, 0, false)
end Go.Proofs.Ytmlimfleekddgaa.S
namespace Go.Proofs.Ytmlimfleekddgaa.C
open Go.Proofs.Ytmlimfleekddgaa.S
open Go.RowKit Go.Proofs.YtmlimfleekddgaaW.PrintWords Go.Proofs.YtmlimfleekddgaaW.PrintLast Go.Proofs.YtmlimfleekddgaaW.PrintMore

theorem scl_range (a n d : Int) : 0 ≤ (scl a n d).1 ∧ (scl a n d).1 ≤ 1125899906842624 ∧ 0 ≤ (scl a n d).2.1 ∧ (scl a n d).2.1 ≤ 1125899906842624 := by
  unfold scl
  split
  · rename_i h
    obtain ⟨h1, h2, h3, h4, h5, h6, h7⟩ := h
    have := Int.emod_nonneg (a * n) (show d ≠ 0 by omega)
    have := Int.emod_lt_of_pos (a * n) (show 0 < d by omega)
    dsimp only
    exact ⟨Int.ediv_nonneg (Int.mul_nonneg h1 h3) (by omega), h7, by omega, by omega⟩
  · decide

theorem span_Right_ok (lo hi : Int) : span_Right.f lo hi = some (decide (lo ≤ hi)) := rfl
theorem span_Of_ok (n : Int) : span_Of.f n = some (n, n) := rfl
theorem span_Join_ok (a b c d : Int) : span_Join.f a b c d = some (mn a c, mx b d) := rfl
theorem span_Within_ok (a b c d : Int) : span_Within.f a b c d = some (decide (c ≤ a ∧ b ≤ d)) := by
  unfold span_Within.f span_Join.f mn mx
  simp only [Option.bind_some]
  congr 1
  rw [Bool.eq_iff_iff]
  simp only [Bool.and_eq_true, beq_iff_eq, decide_eq_true_eq]
  by_cases h1 : c < a <;> by_cases h2 : b < d <;> simp [h1, h2] <;> omega
theorem span_Has_ok (lo hi n : Int) : span_Has.f lo hi n = some (decide (lo ≤ n ∧ n ≤ hi)) := by
  unfold span_Has.f span_Of.f
  simp only [Option.bind_some]
  rw [span_Within_ok]; rfl
theorem span_Meet_ok (a b c d : Int) : span_Meet.f a b c d = some (meet a b c d) := by
  unfold span_Meet.f span_Right.f meet
  simp only [Option.bind_some, decide_eq_true_eq]
  split <;> rfl
theorem span_Add_ok (a b c d : Int) (h : I64 a ∧ I64 b ∧ I64 c ∧ I64 d) : span_Add.f a b c d = some (sat (a + c), sat (b + d)) := by
  unfold span_Add.f exact_Add.f
  rw [if_pos ⟨h.1, h.2.2.1⟩, if_pos ⟨h.2.1, h.2.2.2⟩]; rfl
theorem span_Sub_ok (a b c d : Int) (h : I64 a ∧ I64 b ∧ I64 c ∧ I64 d) : span_Sub.f a b c d = some (sat (a - d), sat (b - c)) := by
  unfold span_Sub.f exact_Sub.f
  rw [if_pos ⟨h.1, h.2.2.2⟩, if_pos ⟨h.2.1, h.2.2.1⟩]; rfl
theorem span_Width_ok (lo hi : Int) (h : I64 lo ∧ I64 hi) : span_Width.f lo hi = some (sat (hi - lo)) := by
  unfold span_Width.f exact_Sub.f
  rw [if_pos ⟨h.2, h.1⟩]; rfl
theorem span_Scale_ok (lo hi n d : Int) : span_Scale.f lo hi n d = some (sscl lo hi n d) := by
  have hr := scl_range hi n d
  unfold span_Scale.f exact_Scale.f span_Right.f sscl upq
  simp only [Option.bind_some, decide_eq_true_eq]
  rw [B.wrap_id (by omega) (by omega)]
  by_cases h0 : (scl hi n d).2.1 > 0 <;> by_cases h1 : lo ≤ hi <;> by_cases h2 : (scl lo n d).2.2 = true <;> by_cases h3 : (scl hi n d).2.2 = true <;> simp only [h0, h1, h2, h3, if_true, if_false, true_and, false_and, and_false, Bool.false_eq_true] <;> (try (split <;> split <;> first | rfl | omega)) <;> rfl
theorem bourneref09_Right_ok (lo hi : Int) : bourneref09_Right.f lo hi = some (decide (lo ≤ hi)) := rfl
theorem bourneref09_Of_ok (n : Int) : bourneref09_Of.f n = some (n, n) := rfl
theorem bourneref09_Has_ok (lo hi n : Int) : bourneref09_Has.f lo hi n = some (decide (lo ≤ n ∧ n ≤ hi)) := by
  unfold bourneref09_Has.f
  by_cases h : n ≥ lo
  · rw [if_pos h]; congr 1; rw [Bool.eq_iff_iff]; simp; omega
  · rw [if_neg h, decide_eq_false (by omega)]
theorem bourneref09_Join_ok (a b c d : Int) : bourneref09_Join.f a b c d = some (mn a c, mx b d) := by
  unfold bourneref09_Join.f mn mx
  by_cases h1 : c < a <;> by_cases h2 : b < d <;> simp [h1, h2]
theorem bourneref09_Within_ok (a b c d : Int) : bourneref09_Within.f a b c d = some (decide (c ≤ a ∧ b ≤ d)) := by
  unfold bourneref09_Within.f
  by_cases h : c ≤ a
  · rw [if_pos h]; simp [h]
  · rw [if_neg h, decide_eq_false (by omega)]
theorem bourneref09_Sub_ok (a b c d : Int) (h : I64 a ∧ I64 b ∧ I64 c ∧ I64 d) : bourneref09_Sub.f a b c d = some (sat (a - d), sat (b - c)) := by
  unfold bourneref09_Sub.f bourneref01_Sub.f
  rw [if_pos ⟨h.1, h.2.2.2⟩, if_pos ⟨h.2.1, h.2.2.1⟩]; rfl
theorem bourneref09_Width_ok (lo hi : Int) (h : I64 lo ∧ I64 hi) : bourneref09_Width.f lo hi = some (sat (hi - lo)) := by
  unfold bourneref09_Width.f bourneref01_Sub.f
  rw [if_pos ⟨h.2, h.1⟩]; rfl
theorem bourneref09_Scale_ok (lo hi n d : Int) : ∃ k, bourneref09_Scale.f k lo hi n d = some (sscl lo hi n d) := by
  refine ⟨1, ?_⟩
  have hr := scl_range hi n d
  unfold bourneref09_Scale.f bourneref01_Scale.f sscl upq
  simp only [Option.bind_some, bourneref09_Scale.j0]
  rw [B.wrap_id (by omega) (by omega)]
  by_cases h0 : (scl hi n d).2.1 > 0
  · have h0' : ¬ ((scl hi n d).2.1 = 0) := by omega
    by_cases h1 : lo ≤ hi <;> by_cases h2 : (scl lo n d).2.2 = true <;> by_cases h3 : (scl hi n d).2.2 = true <;> simp [h0, h0', h1, h2, h3] <;> ((repeat' split) <;> first | rfl | omega)
  · have h0' : (scl hi n d).2.1 = 0 := by omega
    by_cases h1 : lo ≤ hi <;> by_cases h2 : (scl lo n d).2.2 = true <;> by_cases h3 : (scl hi n d).2.2 = true <;> simp [h0', h1, h2, h3] <;> ((repeat' split) <;> first | rfl | omega)
theorem bourneref09_Add_ok (a b c d : Int) (h : I64 a ∧ I64 b ∧ I64 c ∧ I64 d) : bourneref09_Add.f a b c d = some (sat (a + c), sat (b + d)) := by
  unfold bourneref09_Add.f bourneref01_Add.f
  rw [if_pos ⟨h.1, h.2.2.1⟩, if_pos ⟨h.2.1, h.2.2.2⟩]; rfl
theorem bourneref09_Meet_ok (a b c d : Int) : ∃ k, bourneref09_Meet.f k a b c d = some (meet a b c d) := by
  refine ⟨1, ?_⟩
  unfold bourneref09_Meet.f meet mx mn
  simp only [bourneref09_Meet.j0]
  by_cases h1 : a < c <;> by_cases h2 : d < b <;> simp [h1, h2] <;> (split <;> split <;> first | rfl | omega)
end Go.Proofs.Ytmlimfleekddgaa.C
namespace Go.Proofs.Ytmlimfleekddgaa.S
open Go.RowKit Go.Proofs.YtmlimfleekddgaaW.PrintWords Go.Proofs.YtmlimfleekddgaaW.PrintLast Go.Proofs.YtmlimfleekddgaaW.PrintMore
def span_Right.f (a0_0 : Int) (a0_1 : Int) : Option (Bool) := some (decide (a0_0 ≤ a0_1))
theorem span_Right.calls (a0_0 : Int) (a0_1 : Int) (r : Bool) (w : World) (h : span_Right.f a0_0 a0_1 = some r) :
    Calls Try.prog 13 #[.agg #[.int .i64 a0_0, .int .i64 a0_1]] w fun e w' => e = .returned (.bool r) ∧ Below w.heap.size w w' := by
  have hk := C.span_Right_ok a0_0 a0_1
  exact C.span_Right.calls a0_0 a0_1 r w (hk.trans h)

def span_Of.f (a0 : Int) : Option (Int × Int) := some (a0, a0)
theorem span_Of.calls (a0 : Int) (r1 : Int) (r2 : Int) (w : World) (h : span_Of.f a0 = some (r1, r2)) :
    Calls Try.prog 15 #[.int .i64 a0] w fun e w' => e = .returned (.agg #[.int .i64 r1, .int .i64 r2]) ∧ Below w.heap.size w w' := by
  have hk := C.span_Of_ok a0
  exact C.span_Of.calls a0 r1 r2 w (hk.trans h)

def span_Join.f (a0_0 : Int) (a0_1 : Int) (a1_0 : Int) (a1_1 : Int) : Option (Int × Int) := some (mn a0_0 a1_0, mx a0_1 a1_1)
theorem span_Join.calls (a0_0 : Int) (a0_1 : Int) (a1_0 : Int) (a1_1 : Int) (r1 : Int) (r2 : Int) (w : World) (h : span_Join.f a0_0 a0_1 a1_0 a1_1 = some (r1, r2)) :
    Calls Try.prog 23 #[.agg #[.int .i64 a0_0, .int .i64 a0_1], .agg #[.int .i64 a1_0, .int .i64 a1_1]] w fun e w' => e = .returned (.agg #[.int .i64 r1, .int .i64 r2]) ∧ Below w.heap.size w w' := by
  have hk := C.span_Join_ok a0_0 a0_1 a1_0 a1_1
  exact C.span_Join.calls a0_0 a0_1 a1_0 a1_1 r1 r2 w (hk.trans h)

def span_Within.f (a0_0 : Int) (a0_1 : Int) (a1_0 : Int) (a1_1 : Int) : Option (Bool) := some (decide (a1_0 ≤ a0_0 ∧ a0_1 ≤ a1_1))
theorem span_Within.calls (a0_0 : Int) (a0_1 : Int) (a1_0 : Int) (a1_1 : Int) (r : Bool) (w : World) (h : span_Within.f a0_0 a0_1 a1_0 a1_1 = some r) :
    Calls Try.prog 25 #[.agg #[.int .i64 a0_0, .int .i64 a0_1], .agg #[.int .i64 a1_0, .int .i64 a1_1]] w fun e w' => e = .returned (.bool r) ∧ Below w.heap.size w w' := by
  have hk := C.span_Within_ok a0_0 a0_1 a1_0 a1_1
  exact C.span_Within.calls a0_0 a0_1 a1_0 a1_1 r w (hk.trans h)

def span_Has.f (a0_0 : Int) (a0_1 : Int) (a1 : Int) : Option (Bool) := some (decide (a0_0 ≤ a1 ∧ a1 ≤ a0_1))
theorem span_Has.calls (a0_0 : Int) (a0_1 : Int) (a1 : Int) (r : Bool) (w : World) (h : span_Has.f a0_0 a0_1 a1 = some r) :
    Calls Try.prog 17 #[.agg #[.int .i64 a0_0, .int .i64 a0_1], .int .i64 a1] w fun e w' => e = .returned (.bool r) ∧ Below w.heap.size w w' := by
  have hk := C.span_Has_ok a0_0 a0_1 a1
  exact C.span_Has.calls a0_0 a0_1 a1 r w (hk.trans h)

def span_Meet.f (a0_0 : Int) (a0_1 : Int) (a1_0 : Int) (a1_1 : Int) : Option (Int × Int × Bool) := some (meet a0_0 a0_1 a1_0 a1_1)
theorem span_Meet.calls (a0_0 : Int) (a0_1 : Int) (a1_0 : Int) (a1_1 : Int) (r1 : Int) (r2 : Int) (r3 : Bool) (w : World) (h : span_Meet.f a0_0 a0_1 a1_0 a1_1 = some (r1, r2, r3)) :
    Calls Try.prog 11 #[.agg #[.int .i64 a0_0, .int .i64 a0_1], .agg #[.int .i64 a1_0, .int .i64 a1_1]] w fun e w' => e = .returned (.tuple #[.agg #[.int .i64 r1, .int .i64 r2], .bool r3]) ∧ Below w.heap.size w w' := by
  have hk := C.span_Meet_ok a0_0 a0_1 a1_0 a1_1
  exact C.span_Meet.calls a0_0 a0_1 a1_0 a1_1 r1 r2 r3 w (hk.trans h)

def span_Add.f (a0_0 : Int) (a0_1 : Int) (a1_0 : Int) (a1_1 : Int) : Option (Int × Int) := if I64 a0_0 ∧ I64 a0_1 ∧ I64 a1_0 ∧ I64 a1_1 then some (sat (a0_0 + a1_0), sat (a0_1 + a1_1)) else none
theorem span_Add.calls (a0_0 : Int) (a0_1 : Int) (a1_0 : Int) (a1_1 : Int) (r1 : Int) (r2 : Int) (w : World) (h : span_Add.f a0_0 a0_1 a1_0 a1_1 = some (r1, r2)) :
    Calls Try.prog 19 #[.agg #[.int .i64 a0_0, .int .i64 a0_1], .agg #[.int .i64 a1_0, .int .i64 a1_1]] w fun e w' => e = .returned (.agg #[.int .i64 r1, .int .i64 r2]) ∧ Below w.heap.size w w' := by
  unfold span_Add.f at h
  split at h
  · rename_i hc
    have hk := C.span_Add_ok a0_0 a0_1 a1_0 a1_1 hc
    exact C.span_Add.calls a0_0 a0_1 a1_0 a1_1 r1 r2 w (hk.trans h)
  · cases h

def span_Sub.f (a0_0 : Int) (a0_1 : Int) (a1_0 : Int) (a1_1 : Int) : Option (Int × Int) := if I64 a0_0 ∧ I64 a0_1 ∧ I64 a1_0 ∧ I64 a1_1 then some (sat (a0_0 - a1_1), sat (a0_1 - a1_0)) else none
theorem span_Sub.calls (a0_0 : Int) (a0_1 : Int) (a1_0 : Int) (a1_1 : Int) (r1 : Int) (r2 : Int) (w : World) (h : span_Sub.f a0_0 a0_1 a1_0 a1_1 = some (r1, r2)) :
    Calls Try.prog 21 #[.agg #[.int .i64 a0_0, .int .i64 a0_1], .agg #[.int .i64 a1_0, .int .i64 a1_1]] w fun e w' => e = .returned (.agg #[.int .i64 r1, .int .i64 r2]) ∧ Below w.heap.size w w' := by
  unfold span_Sub.f at h
  split at h
  · rename_i hc
    have hk := C.span_Sub_ok a0_0 a0_1 a1_0 a1_1 hc
    exact C.span_Sub.calls a0_0 a0_1 a1_0 a1_1 r1 r2 w (hk.trans h)
  · cases h

def span_Width.f (a0_0 : Int) (a0_1 : Int) : Option (Int) := if I64 a0_0 ∧ I64 a0_1 then some (sat (a0_1 - a0_0)) else none
theorem span_Width.calls (a0_0 : Int) (a0_1 : Int) (r : Int) (w : World) (h : span_Width.f a0_0 a0_1 = some r) :
    Calls Try.prog 27 #[.agg #[.int .i64 a0_0, .int .i64 a0_1]] w fun e w' => e = .returned (.int .i64 r) ∧ Below w.heap.size w w' := by
  unfold span_Width.f at h
  split at h
  · rename_i hc
    have hk := C.span_Width_ok a0_0 a0_1 hc
    exact C.span_Width.calls a0_0 a0_1 r w (hk.trans h)
  · cases h

def span_Scale.f (a0_0 : Int) (a0_1 : Int) (a1 : Int) (a2 : Int) : Option (Int × Int × Bool) := some (sscl a0_0 a0_1 a1 a2)
theorem span_Scale.calls (a0_0 : Int) (a0_1 : Int) (a1 : Int) (a2 : Int) (r1 : Int) (r2 : Int) (r3 : Bool) (w : World) (h : span_Scale.f a0_0 a0_1 a1 a2 = some (r1, r2, r3)) :
    Calls Try.prog 9 #[.agg #[.int .i64 a0_0, .int .i64 a0_1], .int .i64 a1, .int .i64 a2] w fun e w' => e = .returned (.tuple #[.agg #[.int .i64 r1, .int .i64 r2], .bool r3]) ∧ Below w.heap.size w w' := by
  have hk := C.span_Scale_ok a0_0 a0_1 a1 a2
  exact C.span_Scale.calls a0_0 a0_1 a1 a2 r1 r2 r3 w (hk.trans h)

def bourneref09_Right.f (a0_0 : Int) (a0_1 : Int) : Option (Bool) := some (decide (a0_0 ≤ a0_1))
theorem bourneref09_Right.calls (a0_0 : Int) (a0_1 : Int) (r : Bool) (w : World) (h : bourneref09_Right.f a0_0 a0_1 = some r) :
    Calls Try.prog 14 #[.agg #[.int .i64 a0_0, .int .i64 a0_1]] w fun e w' => e = .returned (.bool r) ∧ Below w.heap.size w w' := by
  have hk := C.bourneref09_Right_ok a0_0 a0_1
  exact C.bourneref09_Right.calls a0_0 a0_1 r w (hk.trans h)

def bourneref09_Of.f (a0 : Int) : Option (Int × Int) := some (a0, a0)
theorem bourneref09_Of.calls (a0 : Int) (r1 : Int) (r2 : Int) (w : World) (h : bourneref09_Of.f a0 = some (r1, r2)) :
    Calls Try.prog 16 #[.int .i64 a0] w fun e w' => e = .returned (.agg #[.int .i64 r1, .int .i64 r2]) ∧ Below w.heap.size w w' := by
  have hk := C.bourneref09_Of_ok a0
  exact C.bourneref09_Of.calls a0 r1 r2 w (hk.trans h)

def bourneref09_Has.f (a0_0 : Int) (a0_1 : Int) (a1 : Int) : Option (Bool) := some (decide (a0_0 ≤ a1 ∧ a1 ≤ a0_1))
theorem bourneref09_Has.calls (a0_0 : Int) (a0_1 : Int) (a1 : Int) (r : Bool) (w : World) (h : bourneref09_Has.f a0_0 a0_1 a1 = some r) :
    Calls Try.prog 18 #[.agg #[.int .i64 a0_0, .int .i64 a0_1], .int .i64 a1] w fun e w' => e = .returned (.bool r) ∧ Below w.heap.size w w' := by
  have hk := C.bourneref09_Has_ok a0_0 a0_1 a1
  exact C.bourneref09_Has.calls a0_0 a0_1 a1 r w (hk.trans h)

def bourneref09_Join.f (a0_0 : Int) (a0_1 : Int) (a1_0 : Int) (a1_1 : Int) : Option (Int × Int) := some (mn a0_0 a1_0, mx a0_1 a1_1)
theorem bourneref09_Join.calls (a0_0 : Int) (a0_1 : Int) (a1_0 : Int) (a1_1 : Int) (r1 : Int) (r2 : Int) (w : World) (h : bourneref09_Join.f a0_0 a0_1 a1_0 a1_1 = some (r1, r2)) :
    Calls Try.prog 24 #[.agg #[.int .i64 a0_0, .int .i64 a0_1], .agg #[.int .i64 a1_0, .int .i64 a1_1]] w fun e w' => e = .returned (.agg #[.int .i64 r1, .int .i64 r2]) ∧ Below w.heap.size w w' := by
  have hk := C.bourneref09_Join_ok a0_0 a0_1 a1_0 a1_1
  exact C.bourneref09_Join.calls a0_0 a0_1 a1_0 a1_1 r1 r2 w (hk.trans h)

def bourneref09_Within.f (a0_0 : Int) (a0_1 : Int) (a1_0 : Int) (a1_1 : Int) : Option (Bool) := some (decide (a1_0 ≤ a0_0 ∧ a0_1 ≤ a1_1))
theorem bourneref09_Within.calls (a0_0 : Int) (a0_1 : Int) (a1_0 : Int) (a1_1 : Int) (r : Bool) (w : World) (h : bourneref09_Within.f a0_0 a0_1 a1_0 a1_1 = some r) :
    Calls Try.prog 26 #[.agg #[.int .i64 a0_0, .int .i64 a0_1], .agg #[.int .i64 a1_0, .int .i64 a1_1]] w fun e w' => e = .returned (.bool r) ∧ Below w.heap.size w w' := by
  have hk := C.bourneref09_Within_ok a0_0 a0_1 a1_0 a1_1
  exact C.bourneref09_Within.calls a0_0 a0_1 a1_0 a1_1 r w (hk.trans h)

def bourneref09_Sub.f (a0_0 : Int) (a0_1 : Int) (a1_0 : Int) (a1_1 : Int) : Option (Int × Int) := if I64 a0_0 ∧ I64 a0_1 ∧ I64 a1_0 ∧ I64 a1_1 then some (sat (a0_0 - a1_1), sat (a0_1 - a1_0)) else none
theorem bourneref09_Sub.calls (a0_0 : Int) (a0_1 : Int) (a1_0 : Int) (a1_1 : Int) (r1 : Int) (r2 : Int) (w : World) (h : bourneref09_Sub.f a0_0 a0_1 a1_0 a1_1 = some (r1, r2)) :
    Calls Try.prog 22 #[.agg #[.int .i64 a0_0, .int .i64 a0_1], .agg #[.int .i64 a1_0, .int .i64 a1_1]] w fun e w' => e = .returned (.agg #[.int .i64 r1, .int .i64 r2]) ∧ Below w.heap.size w w' := by
  unfold bourneref09_Sub.f at h
  split at h
  · rename_i hc
    have hk := C.bourneref09_Sub_ok a0_0 a0_1 a1_0 a1_1 hc
    exact C.bourneref09_Sub.calls a0_0 a0_1 a1_0 a1_1 r1 r2 w (hk.trans h)
  · cases h

def bourneref09_Width.f (a0_0 : Int) (a0_1 : Int) : Option (Int) := if I64 a0_0 ∧ I64 a0_1 then some (sat (a0_1 - a0_0)) else none
theorem bourneref09_Width.calls (a0_0 : Int) (a0_1 : Int) (r : Int) (w : World) (h : bourneref09_Width.f a0_0 a0_1 = some r) :
    Calls Try.prog 28 #[.agg #[.int .i64 a0_0, .int .i64 a0_1]] w fun e w' => e = .returned (.int .i64 r) ∧ Below w.heap.size w w' := by
  unfold bourneref09_Width.f at h
  split at h
  · rename_i hc
    have hk := C.bourneref09_Width_ok a0_0 a0_1 hc
    exact C.bourneref09_Width.calls a0_0 a0_1 r w (hk.trans h)
  · cases h

def bourneref09_Scale.f (a0_0 : Int) (a0_1 : Int) (a1 : Int) (a2 : Int) : Option (Int × Int × Bool) := some (sscl a0_0 a0_1 a1 a2)
theorem bourneref09_Scale.calls (a0_0 : Int) (a0_1 : Int) (a1 : Int) (a2 : Int) (r1 : Int) (r2 : Int) (r3 : Bool) (w : World) (h : bourneref09_Scale.f a0_0 a0_1 a1 a2 = some (r1, r2, r3)) :
    Calls Try.prog 10 #[.agg #[.int .i64 a0_0, .int .i64 a0_1], .int .i64 a1, .int .i64 a2] w fun e w' => e = .returned (.tuple #[.agg #[.int .i64 r1, .int .i64 r2], .bool r3]) ∧ Below w.heap.size w w' := by
  obtain ⟨k, hk⟩ := C.bourneref09_Scale_ok a0_0 a0_1 a1 a2
  exact C.bourneref09_Scale.calls k a0_0 a0_1 a1 a2 r1 r2 r3 w (hk.trans h)

def bourneref09_Add.f (a0_0 : Int) (a0_1 : Int) (a1_0 : Int) (a1_1 : Int) : Option (Int × Int) := if I64 a0_0 ∧ I64 a0_1 ∧ I64 a1_0 ∧ I64 a1_1 then some (sat (a0_0 + a1_0), sat (a0_1 + a1_1)) else none
theorem bourneref09_Add.calls (a0_0 : Int) (a0_1 : Int) (a1_0 : Int) (a1_1 : Int) (r1 : Int) (r2 : Int) (w : World) (h : bourneref09_Add.f a0_0 a0_1 a1_0 a1_1 = some (r1, r2)) :
    Calls Try.prog 20 #[.agg #[.int .i64 a0_0, .int .i64 a0_1], .agg #[.int .i64 a1_0, .int .i64 a1_1]] w fun e w' => e = .returned (.agg #[.int .i64 r1, .int .i64 r2]) ∧ Below w.heap.size w w' := by
  unfold bourneref09_Add.f at h
  split at h
  · rename_i hc
    have hk := C.bourneref09_Add_ok a0_0 a0_1 a1_0 a1_1 hc
    exact C.bourneref09_Add.calls a0_0 a0_1 a1_0 a1_1 r1 r2 w (hk.trans h)
  · cases h

def bourneref09_Meet.f (a0_0 : Int) (a0_1 : Int) (a1_0 : Int) (a1_1 : Int) : Option (Int × Int × Bool) := some (meet a0_0 a0_1 a1_0 a1_1)
theorem bourneref09_Meet.calls (a0_0 : Int) (a0_1 : Int) (a1_0 : Int) (a1_1 : Int) (r1 : Int) (r2 : Int) (r3 : Bool) (w : World) (h : bourneref09_Meet.f a0_0 a0_1 a1_0 a1_1 = some (r1, r2, r3)) :
    Calls Try.prog 12 #[.agg #[.int .i64 a0_0, .int .i64 a0_1], .agg #[.int .i64 a1_0, .int .i64 a1_1]] w fun e w' => e = .returned (.tuple #[.agg #[.int .i64 r1, .int .i64 r2], .bool r3]) ∧ Below w.heap.size w w' := by
  obtain ⟨k, hk⟩ := C.bourneref09_Meet_ok a0_0 a0_1 a1_0 a1_1
  exact C.bourneref09_Meet.calls k a0_0 a0_1 a1_0 a1_1 r1 r2 r3 w (hk.trans h)

end Go.Proofs.Ytmlimfleekddgaa.S
