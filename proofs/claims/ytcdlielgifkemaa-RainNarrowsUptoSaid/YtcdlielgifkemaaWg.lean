/- Variables of several cells, made, loaded and stored as a whole by one law. -/
import Derived.Test.YtcdlielgifkemaaWMore
import Derived.Test.YtcdlielgifkemaaWLast
import Derived.Deep.MidRow
namespace Go.Proofs.Ytcdlielgifkemaa.S
open Go.RowKit Go.Proofs.YtcdlielgifkemaaW.PrintWords Go.Proofs.YtcdlielgifkemaaW.PrintLast Go.Proofs.YtcdlielgifkemaaW.PrintMore
theorem keep_cell {w w' : World} (hb : Below w.heap.size w w') {a : Addr} {v : Value} (h : w.cell? a = some v) : w'.cell? a = some v := (hb.cell (World.block_lt_of_cell? w _ h)).trans h
theorem rangeAt_nil {w : World} {b o : Nat} : w.rangeAt b o [] := fun j v h => by simp at h
theorem rangeAt_cons {w : World} {b o : Nat} {v : Value} {cs : List Value} (h : w.cell? ⟨b, o, none⟩ = some v) (t : w.rangeAt b (o + 1) cs) : w.rangeAt b o (v :: cs) := fun j u hj => by
  cases j with
  | zero => simp at hj; subst hj; exact h
  | succ j =>
    have := t j u (by simpa using hj)
    rwa [show o + 1 + j = o + (j + 1) by omega] at this
theorem rangeAt_blk {w : World} {b : Nat} {cs : Array Value} {t : TypeId} (h : w.heap[b]? = some (.cells cs t (0, 0))) : w.rangeAt b 0 cs.toList := fun j v hj => by
  rw [Nat.zero_add, blk_cell h j]
  simpa using hj
theorem below_setCells {n : Nat} {w : World} (b : Nat) (hb : n ≤ b) : ∀ (vs : List Value) (o : Nat) (W : World), Below n w W → Below n w (W.setCells b o vs)
  | [], _, _, h => h
  | v :: r, o, W, h => by
    rw [World.setCells]
    exact below_setCells b hb r (o + 1) _ (h.setCell hb v)
/-- a new variable and its first value: one event -/
theorem new_event {P : Program} {ops : Array Oper} {rest : List Oper} {o1 o2 : Oper} {a : Act} {Q : Exit → Act → World → Prop} {W : World} {N : Tmp} {t : TypeId} {z cs : Array Value} {v : Operand}
    (hg1 : o1.guard = none) (hg2 : o2.guard = none) (hd : o1.dst = some N) (hd2 : o2.dst = none) (ho2 : o2.op = .store t (.tmp N) v)
    (hrun : (execOp a.eval o1).run P W = .ok (.value (.pointer (some ⟨W.heap.size, 0, none⟩))) (W.alloc (.cells z t (0, 0))))
    (hp : ∀ p, (a.put (some N) p).eval (.tmp N) = p) (hv : ∀ p, (a.put (some N) p).eval v = .agg cs) (hsz : z.size = cs.size) (hi : (P.info? t).map (·.size) = some cs.size) (h1 : cs.toList.all (·.oneCell') = true)
    (h : ∀ g, g = W.heap.size → ∀ w1, w1.heap[g]? = some (.cells cs t (0, 0)) → Below W.heap.size W w1 → wpList P ops Q rest (a.put (some N) (.pointer (some ⟨g, 0, none⟩))) w1) : wpList P ops Q (o1 :: o2 :: rest) a W := by
  refine Kd.event_run hg1 hrun ?_
  rw [hd]
  have hk : (W.alloc (.cells z t (0, 0))).heap[W.heap.size]? = some (.cells z t (0, 0)) := blk_new W _
  refine wpList_store_mid hg2 t (.tmp N) v ho2 W.heap.size 0 cs (hp _) (hv _) (fun j hj => ?_) hi (by rw [← Array.all_toList]; exact h1) ?_
  · rw [Nat.zero_add]
    refine ⟨?_, blk_frozen hk j⟩
    rw [blk_cell hk j, Array.getElem?_eq_getElem (by omega)]; rfl
  · obtain ⟨cur, h3, h4, h5⟩ := setCells_row cs.toList 0 (W.alloc (.cells z t (0, 0))) z hk (by simp; omega)
    have e : cur = cs := by
      apply Array.ext'
      rw [h5, List.take_zero, List.nil_append, List.drop_of_length_le (by simp; omega), List.append_nil]
    rw [hd2]
    exact h _ rfl _ (by rw [h3, e]) (below_setCells _ (Nat.le_refl _) _ _ _ (below_alloc (Below.refl _ _) _))
/-- a whole variable is loaded: the operation's run -/
theorem exec_load {P : Program} {o : Oper} {a : Act} {ty : TypeId} {x : Operand} {p v : Value} {w : World} (ho : o.op = .load ty x) (hx : a.eval x = p) (h : (Instr.loadAt ty p).run P w = .ok v w) : (execOp a.eval o).run P w = .ok (.value v) w := by
  unfold execOp
  simp [ho, hx, h]
theorem load_blk {P : Program} {ops : Array Oper} {rest : List Oper} {o : Oper} {a : Act} {Q : Exit → Act → World → Prop} {W : World} {N : Tmp} (hg : o.guard = none) (hd : o.dst = some N) (ty : TypeId) (x : Operand) (ho : o.op = .load ty x) {b : Nat} {cs : Array Value} {t : TypeId}
    (hx : a.eval x = .pointer (some ⟨b, 0, none⟩)) (hk : W.heap[b]? = some (.cells cs t (0, 0))) (hl : W.heap[b]? = some (.cells cs t (0, 0)) → (Instr.loadAt ty (.pointer (some ⟨b, 0, none⟩))).run P W = .ok (.agg cs) W)
    (h : wpList P ops Q rest (a.put (some N) (.agg cs)) W) : wpList P ops Q (o :: rest) a W := by
  refine Kd.event_run hg (exec_load ho hx (hl hk)) ?_
  rw [hd]; exact h
/-- a block, as it stands behind what was drawn, laid and stored elsewhere since -/
theorem afk {q p : Prop} (h : Aside0 q) (e : q → p := by intro hq; (with_reducible repeat (first | refine blk_drewN ?_ _ | refine blk_drew ?_ | refine blk_alloc ?_ _ | refine blk_far ?_ (Aside0.out (by with_reducible assumption)) _)); exact hq) : p := e h.out
end Go.Proofs.Ytcdlielgifkemaa.S
