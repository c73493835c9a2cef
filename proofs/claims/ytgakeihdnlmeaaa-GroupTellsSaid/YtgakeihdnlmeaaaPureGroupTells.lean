/- GroupTells holds: for all ints every function of the group returns what the reference returns. No conditions beyond the statement's own. -/
import Derived.Test.YtgakeihdnlmeaaaTx1
import Derived.Test.YtgakeihdnlmeaaaWf
namespace Go.Proofs.Ytgakeihdnlmeaaa.Pure
open Go.Proofs.Ytgakeihdnlmeaaa.S
open Go.RowKit Go.Proofs.Ytgakeihdnlmeaaa.T

theorem GroupTells : bournelaw04_GroupTells.Pure := by
  intro a b h0 h1
  have hb := (i64b h1).2
  refine ⟨1, ?_⟩
  unfold bournelaw04_GroupTells.f bournelaw04_small.f group_Inv.f bourneref04_Inv.f
  rw [Option.bind_some, Option.bind_some, Option.bind_some, if_pos rfl, if_neg (by simp)]
  unfold group_Mul.f bourneref04_Mul.f group_Exp.f bourneref04_Exp.f group_In.f bourneref04_In.f
  rw [Option.bind_some, Option.bind_some, if_pos rfl, if_pos hb, Option.bind_some, Option.bind_some, if_pos rfl, Option.bind_some, Option.bind_some, bournelaw04_GroupTells.j0, if_neg (by simp), if_pos rfl]
  unfold group_AddQ.f bourneref04_AddQ.f group_SubQ.f bourneref04_SubQ.f group_MulQ.f bourneref04_MulQ.f
  rw [Option.bind_some, Option.bind_some, if_pos rfl, Option.bind_some, Option.bind_some, if_pos rfl, Option.bind_some, Option.bind_some, BEq.rfl]

end Go.Proofs.Ytgakeihdnlmeaaa.Pure
