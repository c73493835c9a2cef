/- The examples that each statement of this layer checks first hold; bands in closed form. -/
import Derived.Test.YtoiclhdkgalhcaaQx3
namespace Go.Proofs.Ytoiclhdkgalhcaa.Q
open Go.Proofs.Ytoiclhdkgalhcaa.S
open Go.RowKit Go.Proofs.YtoiclhdkgalhcaaW.PrintWords Go.Proofs.YtoiclhdkgalhcaaW.PrintLast Go.Proofs.YtoiclhdkgalhcaaW.PrintMore
theorem bournelaw10_small_ok : bournelaw10_small.f = some true := by decide +kernel
theorem curve_Band_ok (a b : List S37) (x : Int) (h : a.length < 4611686018427387904 ∧ b.length < 4611686018427387904) : curve_Band.f a b x = some (mn (aval a x) (aval b x), mx (aval a x) (aval b x)) := by
  unfold curve_Band.f curve_At.f
  rw [if_pos h.1, if_pos h.2]; rfl
theorem bourneref10_Band_ok (a b : List S37) (x : Int) (h : a.length < 4611686018427387904 ∧ b.length < 4611686018427387904 ∧ I64 x) : bourneref10_Band.f a b x = some (mn (aval a x) (aval b x), mx (aval a x) (aval b x)) := by
  unfold bourneref10_Band.f bourneref10_At.f
  rw [if_pos ⟨h.1, h.2.2⟩, if_pos ⟨h.2.1, h.2.2⟩]; rfl
end Go.Proofs.Ytoiclhdkgalhcaa.Q
set_option linter.unusedVariables false
namespace Go.Proofs.Ytoiclhdkgalhcaa.S
open Go.RowKit Go.Proofs.YtoiclhdkgalhcaaW.PrintWords Go.Proofs.YtoiclhdkgalhcaaW.PrintLast Go.Proofs.YtoiclhdkgalhcaaW.PrintMore
def bournelaw10_small.f : Option Bool := some true
theorem bournelaw10_small.calls (r : Bool) (w : World) (h : bournelaw10_small.f = some r) :
    Calls Try.prog 8 #[] w fun e w' => e = .returned (.bool r) ∧ Below w.heap.size w w' := by
  have hr : r = true := (Option.some.inj h).symm
  exact Q.bournelaw10_small.calls r w (Q.bournelaw10_small_ok.trans h) ⟨hr⟩
def curve_Band.f (l0_0 : List (S37)) (l0_1 : List (S37)) (a1 : Int) : Option (Int × Int) := if l0_0.length < 4611686018427387904 ∧ l0_1.length < 4611686018427387904 then some (mn (aval l0_0 a1) (aval l0_1 a1), mx (aval l0_0 a1) (aval l0_1 a1)) else none
theorem curve_Band.calls (A0_0 : Option Addr) (c0_0 : Nat) (l0_0 : List (S37)) (A0_1 : Option Addr) (c0_1 : Nat) (l0_1 : List (S37)) (a1 : Int) (r1 : Int) (r2 : Int) (w : World) (hr0_0 : Kd.C k37 w A0_0 l0_0.length l0_0) (hc0_0 : l0_0.length ≤ c0_0) (hr0_1 : Kd.C k37 w A0_1 l0_1.length l0_1) (hc0_1 : l0_1.length ≤ c0_1) (h : curve_Band.f l0_0 l0_1 a1 = some (r1, r2)) :
  Calls Try.prog 19 #[.agg #[.slice A0_0 l0_0.length c0_0, .slice A0_1 l0_1.length c0_1], .int .i64 a1] w fun e w' => e = .returned (.agg #[.int .i64 r1, .int .i64 r2]) ∧ Below w.heap.size w w' := by
  unfold curve_Band.f at h
  split at h
  · rename_i hc
    have hk := Q.curve_Band_ok l0_0 l0_1 a1 hc
    exact Q.curve_Band.calls A0_0 c0_0 l0_0 A0_1 c0_1 l0_1 a1 r1 r2 w hr0_0 hc0_0 hr0_1 hc0_1 (hk.trans h)
  · cases h

def bourneref10_Band.f (l0_0 : List (S37)) (l0_1 : List (S37)) (a1 : Int) : Option (Int × Int) := if l0_0.length < 4611686018427387904 ∧ l0_1.length < 4611686018427387904 ∧ I64 a1 then some (mn (aval l0_0 a1) (aval l0_1 a1), mx (aval l0_0 a1) (aval l0_1 a1)) else none
theorem bourneref10_Band.calls (A0_0 : Option Addr) (c0_0 : Nat) (l0_0 : List (S37)) (A0_1 : Option Addr) (c0_1 : Nat) (l0_1 : List (S37)) (a1 : Int) (r1 : Int) (r2 : Int) (w : World) (hr0_0 : Kd.C k37 w A0_0 l0_0.length l0_0) (hc0_0 : l0_0.length ≤ c0_0) (hr0_1 : Kd.C k37 w A0_1 l0_1.length l0_1) (hc0_1 : l0_1.length ≤ c0_1) (h : bourneref10_Band.f l0_0 l0_1 a1 = some (r1, r2)) :
  Calls Try.prog 20 #[.agg #[.slice A0_0 l0_0.length c0_0, .slice A0_1 l0_1.length c0_1], .int .i64 a1] w fun e w' => e = .returned (.agg #[.int .i64 r1, .int .i64 r2]) ∧ Below w.heap.size w w' := by
  unfold bourneref10_Band.f at h
  split at h
  · rename_i hc
    have hk := Q.bourneref10_Band_ok l0_0 l0_1 a1 hc
    exact Q.bourneref10_Band.calls A0_0 c0_0 l0_0 A0_1 c0_1 l0_1 a1 r1 r2 w hr0_0 hc0_0 hr0_1 hc0_1 (hk.trans h)
  · cases h

end Go.Proofs.Ytoiclhdkgalhcaa.S
