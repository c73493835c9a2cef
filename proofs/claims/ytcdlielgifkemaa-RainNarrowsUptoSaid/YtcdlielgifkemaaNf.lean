/- Ways that do not end in 'true'; and the printed texts' commonest small proofs, in short. -/
import Derived.Test.YtcdlielgifkemaaWMore
namespace Go.Proofs.Ytcdlielgifkemaa.S
open Go.RowKit Go.Proofs.YtcdlielgifkemaaW.PrintWords Go.Proofs.YtcdlielgifkemaaW.PrintLast Go.Proofs.YtcdlielgifkemaaW.PrintMore
/-- a way that does not come to 'true' -/
def NF (o : Option Bool) : Prop := o ≠ some true
theorem NF.none : NF none := by unfold NF; simp
theorem NF.ff : NF (some false) := by unfold NF; simp
theorem NF.ite {c : Prop} [Decidable c] {a b : Option Bool} (ha : NF a) (hb : NF b) : NF (if c then a else b) := by
  split
  · exact ha
  · exact hb
theorem NF.bind {α : Type} {o : Option α} {f : α → Option Bool} (h : ∀ x, NF (f x)) : NF (o.bind f) := by
  cases o with
  | none => exact NF.none
  | some x => exact h x
theorem NF.go {o : Option Bool} {r : Bool} {P : Prop} (H : o = some r) (hr : r = true) (h : NF o) : P := absurd (H.trans (congrArg some hr)) h
/-- a block, as it stands behind what was drawn and laid since -/
theorem abx {p : Prop} (e : p := by (with_reducible repeat (first | refine blk_drewN ?_ _ | refine blk_drew ?_ | refine blk_alloc ?_ _)); exact Aside0.out (by with_reducible assumption)) : p := e
/-- what was there is as it was, behind what was drawn, laid and stored since -/
theorem ahx {p : Prop} (e : p := by repeat (first | (with_reducible first | exact Aside0.out (by with_reducible assumption) | apply below_alloc | apply pw_below_drewN | apply below_drew1 | refine below_set ?_ (Aside0.out (by with_reducible assumption))))) : p := e
/-- writing one place of an array, and of a list: short names for the printed texts -/
theorem zA {α : Type _} (l : List α) (i : Nat) (a : α) : l.toArray.setIfInBounds i a = (l.set i a).toArray := List.setIfInBounds_toArray ..
theorem zB {α : Type _} {x : α} {xs : List α} {a : α} : (x :: xs).set 0 a = a :: xs := rfl
theorem zC {α : Type _} {x : α} {xs : List α} {i : Nat} {a : α} : (x :: xs).set (i + 1) a = x :: xs.set i a := rfl
end Go.Proofs.Ytcdlielgifkemaa.S
