/- The functions of the package span, and the reference's, in closed form, with their contracts. -/
import Derived.Test.YtcdlielgifkemaaCx
import Derived.Test.YtcdlielgifkemaaEx
namespace Go.Proofs.Ytcdlielgifkemaa.S
open Go.RowKit Go.Proofs.YtcdlielgifkemaaW.PrintWords Go.Proofs.YtcdlielgifkemaaW.PrintMore
/-- the meeting of two spans -/
def meet (a b c d : Int) : Int × Int × Bool := if mx a c ≤ mn b d then (mx a c, mn b d, true) else (0, 0, false)
end Go.Proofs.Ytcdlielgifkemaa.S
namespace Go.Proofs.Ytcdlielgifkemaa.C
open Go.Proofs.Ytcdlielgifkemaa.S
open Go.RowKit Go.Proofs.YtcdlielgifkemaaW.PrintWords Go.Proofs.YtcdlielgifkemaaW.PrintLast Go.Proofs.YtcdlielgifkemaaW.PrintMore

theorem scl_range (a n d : Int) : 0 ≤ (scl a n d).1 ∧ (scl a n d).1 ≤ 1125899906842624 ∧ 0 ≤ (scl a n d).2.1 ∧ (scl a n d).2.1 ≤ 1125899906842624 := by
  unfold scl
  split
  · rename_i h
    obtain ⟨h1, h2, h3, h4, h5, h6, h7⟩ := h
    have := Int.emod_nonneg (a * n) (show d ≠ 0 by omega)
    have := Int.emod_lt_of_pos (a * n) (show 0 < d by omega)
    dsimp only
    exact ⟨Int.ediv_nonneg (Int.mul_nonneg h1 h3) (by omega), h7, by omega, by omega⟩
  · decide

theorem span_Right_ok (lo hi : Int) : span_Right.f lo hi = some (decide (lo ≤ hi)) := rfl
theorem span_Of_ok (n : Int) : span_Of.f n = some (n, n) := rfl
theorem span_Join_ok (a b c d : Int) : span_Join.f a b c d = some (mn a c, mx b d) := rfl
theorem span_Within_ok (a b c d : Int) : span_Within.f a b c d = some (decide (c ≤ a ∧ b ≤ d)) := by
  unfold span_Within.f span_Join.f mn mx
  simp only [Option.bind_some]
  congr 1
  rw [Bool.eq_iff_iff]
  simp only [Bool.and_eq_true, beq_iff_eq, decide_eq_true_eq]
  by_cases h1 : c < a <;> by_cases h2 : b < d <;> simp [h1, h2] <;> omega
theorem span_Has_ok (lo hi n : Int) : span_Has.f lo hi n = some (decide (lo ≤ n ∧ n ≤ hi)) := by
  unfold span_Has.f span_Of.f
  simp only [Option.bind_some]
  rw [span_Within_ok]; rfl
theorem span_Meet_ok (a b c d : Int) : span_Meet.f a b c d = some (meet a b c d) := by
  unfold span_Meet.f span_Right.f meet
  simp only [Option.bind_some, decide_eq_true_eq]
  split <;> rfl
theorem span_Add_ok (a b c d : Int) (h : I64 a ∧ I64 b ∧ I64 c ∧ I64 d) : span_Add.f a b c d = some (sat (a + c), sat (b + d)) := by
  unfold span_Add.f exact_Add.f
  rw [if_pos ⟨h.1, h.2.2.1⟩, if_pos ⟨h.2.1, h.2.2.2⟩]; rfl
theorem span_Width_ok (lo hi : Int) (h : I64 lo ∧ I64 hi) : span_Width.f lo hi = some (sat (hi - lo)) := by
  unfold span_Width.f exact_Sub.f
  rw [if_pos ⟨h.2, h.1⟩]; rfl
theorem bourneref09_Right_ok (lo hi : Int) : bourneref09_Right.f lo hi = some (decide (lo ≤ hi)) := rfl
theorem bourneref09_Add_ok (a b c d : Int) (h : I64 a ∧ I64 b ∧ I64 c ∧ I64 d) : bourneref09_Add.f a b c d = some (sat (a + c), sat (b + d)) := by
  unfold bourneref09_Add.f bourneref01_Add.f
  rw [if_pos ⟨h.1, h.2.2.1⟩, if_pos ⟨h.2.1, h.2.2.2⟩]; rfl
theorem bourneref09_Meet_ok (a b c d : Int) : ∃ k, bourneref09_Meet.f k a b c d = some (meet a b c d) := by
  refine ⟨2, ?_⟩
  unfold bourneref09_Meet.f meet mx mn
  simp only [bourneref09_Meet.j0, bourneref09_Meet.j1]
  by_cases h1 : a < c <;> by_cases h2 : d < b <;> simp [h1, h2] <;> (split <;> split <;> first | rfl | omega)
end Go.Proofs.Ytcdlielgifkemaa.C
namespace Go.Proofs.Ytcdlielgifkemaa.S
open Go.RowKit Go.Proofs.YtcdlielgifkemaaW.PrintWords Go.Proofs.YtcdlielgifkemaaW.PrintLast Go.Proofs.YtcdlielgifkemaaW.PrintMore
def span_Right.f (a0_0 : Int) (a0_1 : Int) : Option (Bool) := some (decide (a0_0 ≤ a0_1))
theorem span_Right.calls (a0_0 : Int) (a0_1 : Int) (r : Bool) (w : World) (h : span_Right.f a0_0 a0_1 = some r) :
  Calls Try.prog 9 #[.agg #[.int .i64 a0_0, .int .i64 a0_1]] w fun e w' => e = .returned (.bool r) ∧ Below w.heap.size w w' := by
  have hk := C.span_Right_ok a0_0 a0_1
  exact C.span_Right.calls a0_0 a0_1 r w (hk.trans h)

def span_Of.f (a0 : Int) : Option (Int × Int) := some (a0, a0)
theorem span_Of.calls (a0 : Int) (r1 : Int) (r2 : Int) (w : World) (h : span_Of.f a0 = some (r1, r2)) :
  Calls Try.prog 14 #[.int .i64 a0] w fun e w' => e = .returned (.agg #[.int .i64 r1, .int .i64 r2]) ∧ Below w.heap.size w w' := by
  have hk := C.span_Of_ok a0
  exact C.span_Of.calls a0 r1 r2 w (hk.trans h)

def span_Join.f (a0_0 : Int) (a0_1 : Int) (a1_0 : Int) (a1_1 : Int) : Option (Int × Int) := some (mn a0_0 a1_0, mx a0_1 a1_1)
theorem span_Join.calls (a0_0 : Int) (a0_1 : Int) (a1_0 : Int) (a1_1 : Int) (r1 : Int) (r2 : Int) (w : World) (h : span_Join.f a0_0 a0_1 a1_0 a1_1 = some (r1, r2)) :
  Calls Try.prog 38 #[.agg #[.int .i64 a0_0, .int .i64 a0_1], .agg #[.int .i64 a1_0, .int .i64 a1_1]] w fun e w' => e = .returned (.agg #[.int .i64 r1, .int .i64 r2]) ∧ Below w.heap.size w w' := by
  have hk := C.span_Join_ok a0_0 a0_1 a1_0 a1_1
  exact C.span_Join.calls a0_0 a0_1 a1_0 a1_1 r1 r2 w (hk.trans h)

def span_Within.f (a0_0 : Int) (a0_1 : Int) (a1_0 : Int) (a1_1 : Int) : Option (Bool) := some (decide (a1_0 ≤ a0_0 ∧ a0_1 ≤ a1_1))
theorem span_Within.calls (a0_0 : Int) (a0_1 : Int) (a1_0 : Int) (a1_1 : Int) (r : Bool) (w : World) (h : span_Within.f a0_0 a0_1 a1_0 a1_1 = some r) :
  Calls Try.prog 22 #[.agg #[.int .i64 a0_0, .int .i64 a0_1], .agg #[.int .i64 a1_0, .int .i64 a1_1]] w fun e w' => e = .returned (.bool r) ∧ Below w.heap.size w w' := by
  have hk := C.span_Within_ok a0_0 a0_1 a1_0 a1_1
  exact C.span_Within.calls a0_0 a0_1 a1_0 a1_1 r w (hk.trans h)

def span_Has.f (a0_0 : Int) (a0_1 : Int) (a1 : Int) : Option (Bool) := some (decide (a0_0 ≤ a1 ∧ a1 ≤ a0_1))
theorem span_Has.calls (a0_0 : Int) (a0_1 : Int) (a1 : Int) (r : Bool) (w : World) (h : span_Has.f a0_0 a0_1 a1 = some r) :
  Calls Try.prog 12 #[.agg #[.int .i64 a0_0, .int .i64 a0_1], .int .i64 a1] w fun e w' => e = .returned (.bool r) ∧ Below w.heap.size w w' := by
  have hk := C.span_Has_ok a0_0 a0_1 a1
  exact C.span_Has.calls a0_0 a0_1 a1 r w (hk.trans h)

def span_Meet.f (a0_0 : Int) (a0_1 : Int) (a1_0 : Int) (a1_1 : Int) : Option (Int × Int × Bool) := some (meet a0_0 a0_1 a1_0 a1_1)
theorem span_Meet.calls (a0_0 : Int) (a0_1 : Int) (a1_0 : Int) (a1_1 : Int) (r1 : Int) (r2 : Int) (r3 : Bool) (w : World) (h : span_Meet.f a0_0 a0_1 a1_0 a1_1 = some (r1, r2, r3)) :
  Calls Try.prog 33 #[.agg #[.int .i64 a0_0, .int .i64 a0_1], .agg #[.int .i64 a1_0, .int .i64 a1_1]] w fun e w' => e = .returned (.tuple #[.agg #[.int .i64 r1, .int .i64 r2], .bool r3]) ∧ Below w.heap.size w w' := by
  have hk := C.span_Meet_ok a0_0 a0_1 a1_0 a1_1
  exact C.span_Meet.calls a0_0 a0_1 a1_0 a1_1 r1 r2 r3 w (hk.trans h)

def span_Add.f (a0_0 : Int) (a0_1 : Int) (a1_0 : Int) (a1_1 : Int) : Option (Int × Int) := if I64 a0_0 ∧ I64 a0_1 ∧ I64 a1_0 ∧ I64 a1_1 then some (sat (a0_0 + a1_0), sat (a0_1 + a1_1)) else none
theorem span_Add.calls (a0_0 : Int) (a0_1 : Int) (a1_0 : Int) (a1_1 : Int) (r1 : Int) (r2 : Int) (w : World) (h : span_Add.f a0_0 a0_1 a1_0 a1_1 = some (r1, r2)) :
  Calls Try.prog 11 #[.agg #[.int .i64 a0_0, .int .i64 a0_1], .agg #[.int .i64 a1_0, .int .i64 a1_1]] w fun e w' => e = .returned (.agg #[.int .i64 r1, .int .i64 r2]) ∧ Below w.heap.size w w' := by
  unfold span_Add.f at h
  split at h
  · rename_i hc
    have hk := C.span_Add_ok a0_0 a0_1 a1_0 a1_1 hc
    exact C.span_Add.calls a0_0 a0_1 a1_0 a1_1 r1 r2 w (hk.trans h)
  · cases h

def span_Width.f (a0_0 : Int) (a0_1 : Int) : Option (Int) := if I64 a0_0 ∧ I64 a0_1 then some (sat (a0_1 - a0_0)) else none
theorem span_Width.calls (a0_0 : Int) (a0_1 : Int) (r : Int) (w : World) (h : span_Width.f a0_0 a0_1 = some r) :
  Calls Try.prog 16 #[.agg #[.int .i64 a0_0, .int .i64 a0_1]] w fun e w' => e = .returned (.int .i64 r) ∧ Below w.heap.size w w' := by
  unfold span_Width.f at h
  split at h
  · rename_i hc
    have hk := C.span_Width_ok a0_0 a0_1 hc
    exact C.span_Width.calls a0_0 a0_1 r w (hk.trans h)
  · cases h

def bourneref09_Right.f (a0_0 : Int) (a0_1 : Int) : Option (Bool) := some (decide (a0_0 ≤ a0_1))
theorem bourneref09_Right.calls (a0_0 : Int) (a0_1 : Int) (r : Bool) (w : World) (h : bourneref09_Right.f a0_0 a0_1 = some r) :
  Calls Try.prog 42 #[.agg #[.int .i64 a0_0, .int .i64 a0_1]] w fun e w' => e = .returned (.bool r) ∧ Below w.heap.size w w' := by
  have hk := C.bourneref09_Right_ok a0_0 a0_1
  exact C.bourneref09_Right.calls a0_0 a0_1 r w (hk.trans h)

def bourneref09_Add.f (a0_0 : Int) (a0_1 : Int) (a1_0 : Int) (a1_1 : Int) : Option (Int × Int) := if I64 a0_0 ∧ I64 a0_1 ∧ I64 a1_0 ∧ I64 a1_1 then some (sat (a0_0 + a1_0), sat (a0_1 + a1_1)) else none
theorem bourneref09_Add.calls (a0_0 : Int) (a0_1 : Int) (a1_0 : Int) (a1_1 : Int) (r1 : Int) (r2 : Int) (w : World) (h : bourneref09_Add.f a0_0 a0_1 a1_0 a1_1 = some (r1, r2)) :
  Calls Try.prog 37 #[.agg #[.int .i64 a0_0, .int .i64 a0_1], .agg #[.int .i64 a1_0, .int .i64 a1_1]] w fun e w' => e = .returned (.agg #[.int .i64 r1, .int .i64 r2]) ∧ Below w.heap.size w w' := by
  unfold bourneref09_Add.f at h
  split at h
  · rename_i hc
    have hk := C.bourneref09_Add_ok a0_0 a0_1 a1_0 a1_1 hc
    exact C.bourneref09_Add.calls a0_0 a0_1 a1_0 a1_1 r1 r2 w (hk.trans h)
  · cases h

def bourneref09_Meet.f (a0_0 : Int) (a0_1 : Int) (a1_0 : Int) (a1_1 : Int) : Option (Int × Int × Bool) := some (meet a0_0 a0_1 a1_0 a1_1)
theorem bourneref09_Meet.calls (a0_0 : Int) (a0_1 : Int) (a1_0 : Int) (a1_1 : Int) (r1 : Int) (r2 : Int) (r3 : Bool) (w : World) (h : bourneref09_Meet.f a0_0 a0_1 a1_0 a1_1 = some (r1, r2, r3)) :
  Calls Try.prog 43 #[.agg #[.int .i64 a0_0, .int .i64 a0_1], .agg #[.int .i64 a1_0, .int .i64 a1_1]] w fun e w' => e = .returned (.tuple #[.agg #[.int .i64 r1, .int .i64 r2], .bool r3]) ∧ Below w.heap.size w w' := by
  obtain ⟨k, hk⟩ := C.bourneref09_Meet_ok a0_0 a0_1 a1_0 a1_1
  exact C.bourneref09_Meet.calls k a0_0 a0_1 a1_0 a1_1 r1 r2 r3 w (hk.trans h)

end Go.Proofs.Ytcdlielgifkemaa.S
