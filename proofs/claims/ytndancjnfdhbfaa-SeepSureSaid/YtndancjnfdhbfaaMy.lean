/- seep.Maybe: what is known of a siphon behind a step: the walk over the turns. -/
import Derived.Test.YtndancjnfdhbfaaRg
import Derived.Sort.CutIn
import Derived.Deep.MidRow
namespace Go.Proofs.Ytndancjnfdhbfaa.S
open Go.RowKit Go.Shelf Go.Proofs.YtndancjnfdhbfaaW.PrintWords Go.Proofs.YtndancjnfdhbfaaW.PrintMore
attribute [local go_sem] Oper.semAt_some
set_option linter.unusedVariables false
set_option linter.unusedSimpArgs false
attribute [local go_sem] max2_int min2_int max_two min_two
/-- the state behind, of a volume and a state before -/
def sph (p b x : Int) (o : Bool) : Bool := decide (p ≤ x) || (o && decide (b < x))
def nn (c : Bool) : Int := if c then 1 else 0
/-- one state before, at one volume -/
def rnd1 (p b k0 k1 : Int) (x : Int) (o : Bool) (s : Int × Int) : Int × Int :=
  if k0 ≤ nn o ∧ nn o ≤ k1 then (mn s.1 (nn (sph p b x o)), mx s.2 (nn (sph p b x o))) else s
def rnd (p b k0 k1 : Int) (s : Int × Int) (x : Int) : Int × Int := rnd1 p b k0 k1 x true (rnd1 p b k0 k1 x false s)
def rnds (p b k0 k1 : Int) (xs : List Int) : Int × Int := xs.foldl (rnd p b k0 k1) (2, -1)
def stp (p b k0 k1 : Int) (x : Int) (s : Int × Int) : Nat → Int × Int
  | 0 => s
  | 1 => rnd1 p b k0 k1 x false s
  | _ => rnd p b k0 k1 s x
theorem rnds_snoc (p b k0 k1 : Int) (xs : List Int) (x : Int) : rnds p b k0 k1 (xs ++ [x]) = rnd p b k0 k1 (rnds p b k0 k1 xs) x := by simp [rnds]
/-- what is known behind -/
def mayb (lo hi p b k0 k1 : Int) : Int × Int :=
  let s := rnds p b k0 k1 (trn lo hi p b 6)
  if s.1 ≤ s.2 then s else (k0, k1)

/-- what lies in the call's own boxes -/
def MB (S : Nat) (LK KN Z : Obj) (s : Int × Int) (W : World) : Prop :=
  W.heap[S]? = some LK ∧ W.heap[S + 1]? = some KN ∧ W.heap[S + 1 + 1 + 1]? = some Z ∧ W.heap[S + 1 + 1 + 1 + 1]? = some (.cells #[.int .i64 s.1] 3 (0, 0)) ∧ W.heap[S + 1 + 1 + 1 + 1 + 1]? = some (.cells #[.int .i64 s.2] 3 (0, 0))
theorem blk_lt' {W : World} {k : Nat} {o : Obj} (h : W.heap[k]? = some o) : k < W.heap.size := (Array.getElem?_eq_some_iff.1 h).1
theorem blk_below' {W W' : World} {k : Nat} {o : Obj} (hb : Below W.heap.size W W') (h : W.heap[k]? = some o) : W'.heap[k]? = some o := (hb.block k (blk_lt' h)).trans h
theorem MB.below {S : Nat} {LK KN Z : Obj} {s : Int × Int} {W W' : World} (h : MB S LK KN Z s W) (hb : Below W.heap.size W W') : MB S LK KN Z s W' :=
  ⟨blk_below' hb h.1, blk_below' hb h.2.1, blk_below' hb h.2.2.1, blk_below' hb h.2.2.2.1, blk_below' hb h.2.2.2.2⟩
theorem blk_kept' {W W' : World} {row : Option Nat} {k : Nat} {o : Obj} (hc : o.isCells = true) (h : W.heap[k]? = some o) (hg : W.grownBy W' row) (hr : ∀ r, row = some r → ∃ o : Obj, W.heap[r]? = some o ∧ o.isCells = false) : W'.heap[k]? = some o :=
  (hg.block k (blk_lt' h) (fun e => by obtain ⟨o', ho, hf⟩ := hr k e.symm; rw [h] at ho; cases ho; rw [hc] at hf; cases hf)).trans h
theorem MB.own {β : Type} {S : Nat} {LK KN Z : Obj} (f : β → Int × Int) (h1 : LK.isCells = true) (h2 : KN.isCells = true) (h3 : Z.isCells = true) : Own (fun s W => MB S LK KN Z (f s) W) := fun s A B row hs hg hr =>
  ⟨blk_kept' h1 hs.1 hg hr, blk_kept' h2 hs.2.1 hg hr, blk_kept' h3 hs.2.2.1 hg hr, blk_kept' rfl hs.2.2.2.1 hg hr, blk_kept' rfl hs.2.2.2.2 hg hr⟩
theorem MB.own' {β : Type} {S : Nat} {LK KN Z : Obj} (h1 : LK.isCells = true) (h2 : KN.isCells = true) (h3 : Z.isCells = true) (f : β → Int × Int) (n₀ : Nat) (w : World) (B : Nat) (hB : n₀ ≤ w.heap.size) (hB2 : n₀ ≤ B) : OwnFrom B (fun s W => MB S LK KN Z (f s) W ∧ Below n₀ w W) :=
  OwnFrom.and (Own.from (MB.own f h1 h2 h3) _) (ownFrom_below hB hB2)
theorem ownFrom_size {β : Type} (B m : Nat) : OwnFrom B (fun (_ : β) W => m ≤ W.heap.size) := fun _ _ _ _ hs hg _ => Nat.le_trans hs hg.size
theorem cell_at {W : World} {k : Nat} {cs : Array Value} {t : TypeId} {r : Nat × Nat} (h : W.heap[k]? = some (.cells cs t r)) (i : Nat) (v : Value) (hv : cs[i]? = some v) : W.cell? ⟨k, i, none⟩ = some v := by simp [World.cell?, h, hv]
theorem al_old {w : World} {k : Nat} {o o' : Obj} (h : w.heap[k]? = some o) : (w.alloc o').heap[k]? = some o := (Below.heap_alloc _ _ _ (blk_lt' h)).trans h
theorem al_new {w : World} {k : Nat} {o : Obj} (h : k = w.heap.size) : (w.alloc o).heap[k]? = some o := by rw [h]; exact World.alloc_heap_new w o
theorem set_blk {W : World} {k j : Nat} {o : Obj} (v : Value) (i : Nat) (h : W.heap[j]? = some o) (hne : k ≠ j) : (W.setCell ⟨k, i, none⟩ v).heap[j]? = some o := (Below.heap_setCell _ _ _ j (fun e => hne e.symm)).trans h
theorem load_in {F : Fence} {n : Nat} {P : Program} {ops : Array Oper} {rest : List Oper} {op : Oper} {a : Act} {w : World} {Q : Exit → Act → World → Prop} (hgd : op.guard = none) (ty : TypeId) (x : Operand) (ho : op.op = .load ty x)
    (b o : Nat) (hx : a.eval x = .pointer (some ⟨b, o, none⟩)) (v : Value) (hrun : (Instr.loadAt ty (.pointer (some ⟨b, o, none⟩))).run P w = .ok v w)
    (h : wpListIn F n P ops Q rest (a.put op.dst v) w) : wpListIn F n P ops Q (op :: rest) a w := by
  refine wpListIn_plain hgd fun K hK' => ?_
  unfold Oper.wpIn
  refine ⟨?_, ?_⟩
  · simp [Oper.about, ho]
  · rw [Oper.semAt_plain F _ _ (by rw [ho]; intro c hc'; cases hc')]
    simp [execOp, ho, hx, hrun, Result.andThen]
    exact hK' _ _ h
theorem box_cell {W : World} {k : Nat} {v : Value} {t : TypeId} {r : Nat × Nat} (h : W.heap[k]? = some (.cells #[v] t r)) : W.cell? ⟨k, 0, none⟩ = some v := cell_at h 0 v rfl
theorem box_set {W : World} {k : Nat} {v : Value} {t : TypeId} {r : Nat × Nat} (v' : Value) (h : W.heap[k]? = some (.cells #[v] t r)) : (W.setCell ⟨k, 0, none⟩ v').heap[k]? = some (.cells #[v'] t r) := by
  obtain ⟨hlt, hk⟩ := Array.getElem?_eq_some_iff.1 h
  show (W.heap.modify k _)[k]? = _
  rw [Array.getElem?_eq_getElem (by rw [Array.size_modify]; exact hlt), Array.getElem_modify_self, hk]
  rfl
theorem MB.put {S : Nat} {LK KN Z : Obj} {s : Int × Int} {W : World} (h : MB S LK KN Z s W) (u v : Int) :
    MB S LK KN Z (u, v) ((W.setCell ⟨S + 1 + 1 + 1 + 1, 0, none⟩ (.int .i64 u)).setCell ⟨S + 1 + 1 + 1 + 1 + 1, 0, none⟩ (.int .i64 v)) :=
  ⟨set_blk _ _ (set_blk _ _ h.1 (by omega)) (by omega), set_blk _ _ (set_blk _ _ h.2.1 (by omega)) (by omega), set_blk _ _ (set_blk _ _ h.2.2.1 (by omega)) (by omega), set_blk _ _ (box_set _ h.2.2.2.1) (by omega), box_set _ (set_blk _ _ h.2.2.2.2 (by omega))⟩
theorem rnd1_no {p b k0 k1 x : Int} {o : Bool} {s : Int × Int} (h : ¬ (k0 ≤ nn o ∧ nn o ≤ k1)) : rnd1 p b k0 k1 x o s = s := if_neg h
theorem rnd1_yes {p b k0 k1 x : Int} {o c : Bool} {s : Int × Int} (h : k0 ≤ nn o ∧ nn o ≤ k1) (hs : sph p b x o = c) : rnd1 p b k0 k1 x o s = (mn s.1 (nn c), mx s.2 (nn c)) := by unfold rnd1; rw [if_pos h, hs]
theorem KeepsOthers.of_below {W W' : World} (h : Below W.heap.size W W') : KeepsOthers W W' := KeepsOthers.of_grownBy (grown_of_below h) (fun _ _ e => by cases e)

theorem round_fin {S : Nat} {LK KN Z : Obj} {W wr w1 w2 w : World} {z : Int × Int} {st : Nat → Int × Int} {o : Nat} {u v : Int} (ho : o + 1 ≤ 2) (hst : st (o + 1) = (u, v)) (hM : MB S LK KN Z z w2) (hB : Below S w w2) (hS : S ≤ w.heap.size)
    (hnx : Kp2 (S + 1 + 1 + 1 + 1 + 1 + 1 + 1) (S + 1 + 1 + 1 + 1 + 1 + 1) W wr) (hko : KeepsOthers W wr) (h8 : S + 8 ≤ wr.heap.size) (hb1 : Below wr.heap.size wr w1) (hb2 : Below w1.heap.size w1 w2) :
    ∃ k : Nat, k ≤ 2 ∧ Value.int .i64 (((o + 1 : Nat) : Int)) = .int .i64 (k : Int) ∧ MB S LK KN Z (st k) ((w2.setCell ⟨S + 1 + 1 + 1 + 1, 0, none⟩ (.int .i64 u)).setCell ⟨S + 1 + 1 + 1 + 1 + 1, 0, none⟩ (.int .i64 v)).drew ∧
      Below S w ((w2.setCell ⟨S + 1 + 1 + 1 + 1, 0, none⟩ (.int .i64 u)).setCell ⟨S + 1 + 1 + 1 + 1 + 1, 0, none⟩ (.int .i64 v)).drew ∧
      Kp2 (S + 1 + 1 + 1 + 1 + 1 + 1 + 1) (S + 1 + 1 + 1 + 1 + 1 + 1) W ((w2.setCell ⟨S + 1 + 1 + 1 + 1, 0, none⟩ (.int .i64 u)).setCell ⟨S + 1 + 1 + 1 + 1 + 1, 0, none⟩ (.int .i64 v)).drew ∧
      KeepsOthers W ((w2.setCell ⟨S + 1 + 1 + 1 + 1, 0, none⟩ (.int .i64 u)).setCell ⟨S + 1 + 1 + 1 + 1 + 1, 0, none⟩ (.int .i64 v)).drew ∧
      S + 8 ≤ ((w2.setCell ⟨S + 1 + 1 + 1 + 1, 0, none⟩ (.int .i64 u)).setCell ⟨S + 1 + 1 + 1 + 1 + 1, 0, none⟩ (.int .i64 v)).drew.heap.size := by
  have s1 := hb1.size
  have s2 := hb2.size
  refine ⟨o + 1, ho, rfl, ?_, ?_, ?_, ?_, ?_⟩
  · rw [hst]; exact hM.put u v
  · exact below_drew1 ((hB.setCell (p := ⟨S + 1 + 1 + 1 + 1, 0, none⟩) (show S ≤ S + 1 + 1 + 1 + 1 by omega) _).setCell (p := ⟨S + 1 + 1 + 1 + 1 + 1, 0, none⟩) (show S ≤ S + 1 + 1 + 1 + 1 + 1 by omega) _)
  · refine ((hnx.trans (Kp2.of_below (by omega) (by omega) hb1)).trans (Kp2.of_below (by omega) (by omega) hb2)).trans ⟨?_, ?_, ?_⟩
    · exact (Below.heap_setCell _ _ _ _ (by first | (simp; done) | (simp; omega))).trans (Below.heap_setCell _ _ _ _ (by first | (simp; done) | (simp; omega)))
    · exact (Below.heap_setCell _ _ _ _ (by first | (simp; done) | (simp; omega))).trans (Below.heap_setCell _ _ _ _ (by first | (simp; done) | (simp; omega)))
    · simp
  · exact ((((hko.trans (KeepsOthers.of_below hb1)).trans (KeepsOthers.of_below hb2)).trans (KeepsOthers.setCell _ _ _)).trans (KeepsOthers.setCell _ _ _)).trans (KeepsOthers.drew _)
  · simp; omega

set_option maxRecDepth 100000 in
set_option maxHeartbeats 40000000 in
theorem Maybe_in (hHas : ∀ (lo hi x : Int) (w : World), Calls Try.prog 22 #[.agg #[.int .i64 lo, .int .i64 hi], .int .i64 x] w fun e w' => e = .returned (.bool (decide (lo ≤ x ∧ x ≤ hi))) ∧ Below w.heap.size w w')
    (a0 a2 a3 : Value) (s1 s2 s3 : Value) (b1 b2 b3 b4 b5 b6 b9 b10 b11 : Value) (p b lo hi q0 q1 t k0 k1 : Int) (hp : I64 p) (hb : I64 b) (w : World)
    (hSip : ∀ (W : World), Below w.heap.size w W → ∀ (o : Bool) (x : Int), Calls Try.prog 14 #[.agg #[a0, .int .i64 3, a2, a3, s1, s2, s3, b1, b2, b3, b4, b5, b6, .int .i64 p, .int .i64 b, b9, b10, b11], .agg #[.int .i64 0, .int .i64 0, .bool false, .bool o], .int .i64 x] W fun e W' =>
      e = .returned (.agg #[.int .i64 0, .int .i64 0, .bool false, .bool (sph p b x o)]) ∧ Below W.heap.size W W') :
    CallsIn Fence.wide 6 Try.prog 16 #[.agg #[a0, .int .i64 3, a2, a3, s1, s2, s3, b1, b2, b3, b4, b5, b6, .int .i64 p, .int .i64 b, b9, b10, b11], .agg #[.int .i64 q0, .int .i64 q1, .int .i64 t, .int .i64 k0, .int .i64 k1], .agg #[.int .i64 lo, .int .i64 hi]] w fun e w' =>
      e = .returned (.agg #[.int .i64 q0, .int .i64 q1, .int .i64 t, .int .i64 (mayb lo hi p b k0 k1).1, .int .i64 (mayb lo hi p b k0 k1).2]) ∧ Below w.heap.size w w' := by
  have hu30 := Try.underlying30
  have hu26 := Try.underlying26
  have hu32 := Try.underlying32
  have hu28 := Try.underlying28
  refine callsIn_of_wp_marks Try.func16 rfl trivial ?_ rfl
  simp only [Try.ntmps16, List.size_toArray, List.length_cons, List.length_nil, Nat.reduceAdd, Nat.reduceSub, Array.replicate_succ, Array.replicate_zero, List.push_toArray, List.append_toArray, List.nil_append, List.cons_append]
  have hmx : Try.prog.follows .mixedOrders = true := by kernel_rfl
  have hfd : ∀ (o : Bool) (W : World), (Instr.field 28 (.agg #[.int .i64 0, .int .i64 0, .bool false, .bool o]) 3).run Try.prog W = .ok (.bool o) W := fun o W => by kernel_rfl
  replace hHas := Aside0.mk hHas
  replace hSip := Aside0.mk hSip
  replace hp := Aside0.mk hp
  replace hb := Aside0.mk hb
  gi_upto_region 1 with fail
  obtain ⟨W1, hW1⟩ : ∃ W1, ((((w.alloc (.cells #[a0, .int .i64 3, a2, a3, s1, s2, s3, b1, b2, b3, b4, b5, b6, .int .i64 p, .int .i64 b, b9, b10, b11] 26)).alloc (.cells #[.int .i64 q0, .int .i64 q1, .int .i64 t, .int .i64 k0, .int .i64 k1] 32)).alloc (.cells #[.int .i64 lo, .int .i64 hi] 30)).alloc (.cells #[.int .i64 0, .int .i64 0, .int .i64 0, .int .i64 0, .int .i64 0] 32)) = W1 := ⟨_, rfl⟩
  have hs1 : W1.heap.size = w.heap.size + 1 + 1 + 1 + 1 := by rw [← hW1]; simp
  have f0 : W1.heap[w.heap.size]? = some (.cells #[a0, .int .i64 3, a2, a3, s1, s2, s3, b1, b2, b3, b4, b5, b6, .int .i64 p, .int .i64 b, b9, b10, b11] 26 (0, 0)) := by rw [← hW1]; repeat (first | (refine al_new ?_; simp only [World.size_alloc]; done) | refine al_old ?_)
  have f1 : W1.heap[w.heap.size + 1]? = some (.cells #[.int .i64 q0, .int .i64 q1, .int .i64 t, .int .i64 k0, .int .i64 k1] 32 (0, 0)) := by rw [← hW1]; repeat (first | (refine al_new ?_; simp only [World.size_alloc]; done) | refine al_old ?_)
  have f2 : W1.heap[w.heap.size + 1 + 1]? = some (.cells #[.int .i64 lo, .int .i64 hi] 30 (0, 0)) := by rw [← hW1]; repeat (first | (refine al_new ?_; simp only [World.size_alloc]; done) | refine al_old ?_)
  have f3 : W1.heap[w.heap.size + 1 + 1 + 1]? = some (.cells #[.int .i64 0, .int .i64 0, .int .i64 0, .int .i64 0, .int .i64 0] 32 (0, 0)) := by rw [← hW1]; repeat (first | (refine al_new ?_; simp only [World.size_alloc]; done) | refine al_old ?_)
  have hBa : Below w.heap.size w W1 := by rw [← hW1]; exact below_alloc (below_alloc (below_alloc (below_alloc (Below.refl _ _) _) _) _) _
  rw [hW1]
  clear hW1
  have c1 : W1.cell? ⟨w.heap.size, 1, none⟩ = some (.int .i64 3) := cell_at f0 1 _ rfl
  replace f0 := Aside0.mk f0
  replace f1 := Aside0.mk f1
  replace f2 := Aside0.mk f2
  replace f3 := Aside0.mk f3
  replace hBa := Aside0.mk hBa
  as_aux_lemma =>
  gi_upto_region 4 with fail
  obtain ⟨W2, hW2⟩ : ∃ W2, ((W1.alloc (.cells #[.int .i64 2] 3)).alloc (.cells #[.int .i64 (-1)] 3)) = W2 := ⟨_, rfl⟩
  have hs2 : W2.heap.size = w.heap.size + 1 + 1 + 1 + 1 + 1 + 1 := by rw [← hW2]; simp [hs1]
  have hM2 : MB w.heap.size (.cells #[a0, .int .i64 3, a2, a3, s1, s2, s3, b1, b2, b3, b4, b5, b6, .int .i64 p, .int .i64 b, b9, b10, b11] 26 (0, 0)) (.cells #[.int .i64 q0, .int .i64 q1, .int .i64 t, .int .i64 k0, .int .i64 k1] 32 (0, 0)) (.cells #[.int .i64 0, .int .i64 0, .int .i64 0, .int .i64 0, .int .i64 0] 32 (0, 0)) (rnds p b k0 k1 []) W2 := by
    rw [← hW2]
    exact ⟨al_old (al_old f0.out), al_old (al_old f1.out), al_old (al_old f3.out), al_old (al_new hs1.symm), al_new (by simp [hs1])⟩
  have g2 : W2.heap[w.heap.size + 1 + 1]? = some (.cells #[.int .i64 lo, .int .i64 hi] 30 (0, 0)) := by rw [← hW2]; exact al_old (al_old f2.out)
  have hBb : Below w.heap.size w W2 := by rw [← hW2]; exact below_alloc (below_alloc hBa.out _) _
  rw [hW2]
  clear hW2 c1
  have hL : ∀ W : World, W.heap[w.heap.size]? = some (.cells #[a0, .int .i64 3, a2, a3, s1, s2, s3, b1, b2, b3, b4, b5, b6, .int .i64 p, .int .i64 b, b9, b10, b11] 26 (0, 0)) → (Instr.loadAt 26 (.pointer (some ⟨w.heap.size, 0, none⟩))).run Try.prog W = .ok (.agg #[a0, .int .i64 3, a2, a3, s1, s2, s3, b1, b2, b3, b4, b5, b6, .int .i64 p, .int .i64 b, b9, b10, b11]) W :=
    fun W h => run_loadAt_mid W w.heap.size 0 26 [a0, .int .i64 3, a2, a3, s1, s2, s3, b1, b2, b3, b4, b5, b6, .int .i64 p, .int .i64 b, b9, b10, b11] _ (fun j v hv => cell_at h (0 + j) v (by rw [Nat.zero_add]; simpa using hv)) hu26 rfl (by kernel_rfl)
  clear hu26
  have hld := hL W2 hM2.1
  have v0 : W2.cell? ⟨w.heap.size + 1 + 1, 0, none⟩ = some (.int .i64 lo) := cell_at g2 0 _ rfl
  have v1 : W2.cell? ⟨w.heap.size + 1 + 1, 1, none⟩ = some (.int .i64 hi) := cell_at g2 1 _ rfl
  replace hM2 := Aside0.mk hM2
  replace g2 := Aside0.mk g2
  replace hBb := Aside0.mk hBb
  replace hL := Aside0.mk hL
  clear f0 f1 f2 f3 hBa hs1
  as_aux_lemma =>
  gi_wp2_with (first | (refine load_in (by rfl) 26 _ (by rfl) w.heap.size 0 (by rfl) _ hld ?_) | (refine ⟨trivial, ?_⟩; gi_at_call 27; refine (turns_in a0 (.int .i64 3) a2 a3 s1 s2 s3 b1 b2 b3 b4 b5 b6 (.int .i64 p) (.int .i64 b) b9 b10 b11 lo hi W2).mono ?_; rintro e w' ⟨rfl, rfl⟩))
  clear hld v0 v1
  obtain ⟨W0, hW0⟩ : ∃ W0, ((W2.alloc (.cells #[a0, .int .i64 3, a2, a3, s1, s2, s3, b1, b2, b3, b4, b5, b6, .int .i64 p, .int .i64 b, b9, b10, b11] 26)).alloc (.cells #[.int .i64 lo, .int .i64 hi] 30)) = W0 := ⟨_, rfl⟩
  have hs0 : W0.heap.size = w.heap.size + 1 + 1 + 1 + 1 + 1 + 1 + 1 + 1 := by rw [← hW0]; simp [hs2]
  have hM0 : MB w.heap.size (.cells #[a0, .int .i64 3, a2, a3, s1, s2, s3, b1, b2, b3, b4, b5, b6, .int .i64 p, .int .i64 b, b9, b10, b11] 26 (0, 0)) (.cells #[.int .i64 q0, .int .i64 q1, .int .i64 t, .int .i64 k0, .int .i64 k1] 32 (0, 0)) (.cells #[.int .i64 0, .int .i64 0, .int .i64 0, .int .i64 0, .int .i64 0] 32 (0, 0)) (rnds p b k0 k1 []) W0 := by
    rw [← hW0]
    exact hM2.out.below (below_alloc (below_alloc (Below.refl _ _) _) _)
  have hl0 : W0.heap[w.heap.size + 1 + 1 + 1 + 1 + 1 + 1]? = some (.cells #[a0, .int .i64 3, a2, a3, s1, s2, s3, b1, b2, b3, b4, b5, b6, .int .i64 p, .int .i64 b, b9, b10, b11] 26 (0, 0)) := by rw [← hW0]; exact al_old (al_new hs2.symm)
  have hv0 : W0.heap[w.heap.size + 1 + 1 + 1 + 1 + 1 + 1 + 1]? = some (.cells #[.int .i64 lo, .int .i64 hi] 30 (0, 0)) := by rw [← hW0]; exact al_new (by simp [hs2])
  have hB0 : Below w.heap.size w W0 := by rw [← hW0]; exact below_alloc (below_alloc hBb.out _) _
  rw [hW0]
  clear hW0 hM2 g2 hBb hs2
  as_aux_lemma =>
  refine wpIn_rangeFunc_ownF rfl (by decide) (gf := 33) (lb := #[.pointer (some ⟨w.heap.size + 1 + 1 + 1 + 1 + 1 + 1 + 1, 0, none⟩), .pointer (some ⟨w.heap.size + 1 + 1 + 1 + 1 + 1 + 1, 0, none⟩)]) rfl trivial (enters_of Try.func33 (by kernel_rfl) rfl)
    (turns_stops hHas.out (w.heap.size + 1 + 1 + 1 + 1 + 1 + 1 + 1) (w.heap.size + 1 + 1 + 1 + 1 + 1 + 1) lo hi p b hp.out hb.out W0 (by omega) (by omega) (cell_at hv0 0 _ rfl) (cell_at hv0 1 _ rfl) (cell_at hl0 13 _ rfl) (cell_at hl0 14 _ rfl))
    Kp2.trans ?kb (Below.refl _ _) (fun _ => rfl)
    (fun pre W => (MB w.heap.size (.cells #[a0, .int .i64 3, a2, a3, s1, s2, s3, b1, b2, b3, b4, b5, b6, .int .i64 p, .int .i64 b, b9, b10, b11] 26 (0, 0)) (.cells #[.int .i64 q0, .int .i64 q1, .int .i64 t, .int .i64 k0, .int .i64 k1] 32 (0, 0)) (.cells #[.int .i64 0, .int .i64 0, .int .i64 0, .int .i64 0, .int .i64 0] 32 (0, 0)) (rnds p b k0 k1 pre) W ∧ Below w.heap.size w W) ∧ w.heap.size + 8 ≤ W.heap.size)
    (fun _ _ _ => False)
    (OwnFrom.and (MB.own' rfl rfl rfl _ _ _ _ (Nat.le_refl _) (by omega)) (ownFrom_size _ _))
    (fun _ _ _ _ _ hs _ _ => hs)
    ⟨⟨hM0, hB0⟩, by omega⟩
    (fun x => { tmps := #[.agg #[a0, .int .i64 3, a2, a3, s1, s2, s3, b1, b2, b3, b4, b5, b6, .int .i64 p, .int .i64 b, b9, b10, b11], .agg #[.int .i64 q0, .int .i64 q1, .int .i64 t, .int .i64 k0, .int .i64 k1], .agg #[.int .i64 lo, .int .i64 hi], .pointer (some ⟨w.heap.size, 0, none⟩), .pointer (some ⟨w.heap.size + 1, 0, none⟩), .pointer (some ⟨w.heap.size + 1 + 1, 0, none⟩), .pointer (some ⟨w.heap.size + 1 + 1 + 1, 0, none⟩), .pointer (some ⟨w.heap.size + 1 + 1 + 1 + 1, 0, none⟩), .pointer (some ⟨w.heap.size + 1 + 1 + 1 + 1 + 1, 0, none⟩), .int .i64 x, undef, undef, .pointer (some ⟨w.heap.size, 1, none⟩), .int .i64 3, .bool false, undef, .agg #[a0, .int .i64 3, a2, a3, s1, s2, s3, b1, b2, b3, b4, b5, b6, .int .i64 p, .int .i64 b, b9, b10, b11], .agg #[.int .i64 lo, .int .i64 hi], .func (.func 33) #[] #[.pointer (some ⟨w.heap.size + 1 + 1 + 1 + 1 + 1 + 1 + 1, 0, none⟩), .pointer (some ⟨w.heap.size + 1 + 1 + 1 + 1 + 1 + 1, 0, none⟩)], .int .i64 x, undef, undef, undef, undef, undef, undef, undef, undef, undef, undef, undef, undef, undef, undef, undef, undef, undef, undef, undef, undef, undef, undef, undef, undef, undef, undef, undef, undef, undef, undef], defers := [] }) ?assign ?body ?done ?stop
  case kb =>
    exact fun W l o o' hl ho hc hw => ⟨(grownBy_putObj' W l o').block _ (by have := (Array.getElem?_eq_some_iff.1 ho).1; omega) (fun e => by cases e; omega), (grownBy_putObj' W l o').block _ (by have := (Array.getElem?_eq_some_iff.1 ho).1; omega) (fun e => by cases e; omega), (grownBy_putObj' W l o').size⟩
  case assign =>
    intro l x W K hK
    as_aux_lemma =>
      gi_wp2
      exact hK
  case body =>
    rintro l pre x W ⟨⟨hM, hB⟩, hW8⟩ _
    obtain ⟨s, hs⟩ : ∃ s, rnds p b k0 k1 pre = s := ⟨_, rfl⟩
    rw [hs] at hM
    rw [show (6 : Nat) - 1 - 1 = 4 from rfl]
    as_aux_lemma =>
    gi_wp2
    gi_loopw [20] (fun i wr => ∃ k : Nat, k ≤ 2 ∧ i = .int .i64 k ∧ MB w.heap.size (.cells #[a0, .int .i64 3, a2, a3, s1, s2, s3, b1, b2, b3, b4, b5, b6, .int .i64 p, .int .i64 b, b9, b10, b11] 26 (0, 0)) (.cells #[.int .i64 q0, .int .i64 q1, .int .i64 t, .int .i64 k0, .int .i64 k1] 32 (0, 0)) (.cells #[.int .i64 0, .int .i64 0, .int .i64 0, .int .i64 0, .int .i64 0] 32 (0, 0)) (stp p b k0 k1 x s k) wr ∧ Below w.heap.size w wr ∧ Kp2 (w.heap.size + 1 + 1 + 1 + 1 + 1 + 1 + 1) (w.heap.size + 1 + 1 + 1 + 1 + 1 + 1) W wr ∧ KeepsOthers W wr ∧ w.heap.size + 8 ≤ wr.heap.size)
      (fun i _ => 2 - (intOf i).toNat)
    case atStart => exact ⟨0, by omega, rfl, hM, hB, ⟨rfl, rfl, Nat.le_refl _⟩, KeepsOthers.refl _, hW8⟩
    case round =>
      obtain ⟨k, hk, rfl, hM1, hB1, hnx, hko, hW8'⟩ := hrel
      have kn3 : wr.cell? ⟨w.heap.size + 1, 3, none⟩ = some (.int .i64 k0) := cell_at hM1.2.1 3 _ rfl
      have kn4 : wr.cell? ⟨w.heap.size + 1, 4, none⟩ = some (.int .i64 k1) := cell_at hM1.2.1 4 _ rfl
      replace hM := Aside0.mk hM
      replace hM1 := Aside0.mk hM1
      replace hB := Aside0.mk hB
      replace hB1 := Aside0.mk hB1
      replace hnx := Aside0.mk hnx
      replace hko := Aside0.mk hko
      replace hW8 := Aside0.mk hW8
      replace hW8' := Aside0.mk hW8'
      have hk' : k = 0 ∨ k = 1 ∨ k = 2 := by omega
      rcases hk' with rfl | rfl | rfl
      · obtain ⟨z, hz⟩ : ∃ z, stp p b k0 k1 x s 0 = z := ⟨_, rfl⟩
        replace hM1 := Aside0.mk (show MB w.heap.size (.cells #[a0, .int .i64 3, a2, a3, s1, s2, s3, b1, b2, b3, b4, b5, b6, .int .i64 p, .int .i64 b, b9, b10, b11] 26 (0, 0)) (.cells #[.int .i64 q0, .int .i64 q1, .int .i64 t, .int .i64 k0, .int .i64 k1] 32 (0, 0)) (.cells #[.int .i64 0, .int .i64 0, .int .i64 0, .int .i64 0, .int .i64 0] 32 (0, 0)) z wr from by rw [← hz]; exact hM1.out)
        replace hz := Aside0.mk hz
        have hst : stp p b k0 k1 x s 1 = rnd1 p b k0 k1 x false z := by rw [← hz.out]; rfl
        by_cases hin : k0 ≤ 0 ∧ 0 ≤ k1
        · have hd : decide (k0 ≤ (0 : Int) ∧ (0 : Int) ≤ k1) = true := decide_eq_true hin
          cases hs : sph p b x false
          · rw [rnd1_yes hin hs] at hst
            replace hst := Aside0.mk hst
            replace hin := Aside0.mk hin
            as_aux_lemma =>
            gi_wp2_with (first | (refine load_in (by rfl) 26 _ (by rfl) w.heap.size 0 (by rfl) _ hld ?_) | (refine ⟨trivial, ?_⟩; gi_at_call 22; refine (CallsIn.inRound l (callsIn_wide.2 (hHas.out k0 k1 0 wr))).mono ?_; rintro e w1 ⟨rfl, hbw⟩; rw [hd]; have hM2 := Aside0.mk (hM1.out.below hbw); have hB2 := Aside0.mk (hB1.out.trans (hbw.mono hB1.out.size)); replace hbw := Aside0.mk hbw; clear kn3 kn4; have hld := hL.out w1 hM2.out.1) | (refine ⟨trivial, ?_⟩; gi_at_call 14; refine (CallsIn.inRound l (callsIn_wide.2 (hSip.out w1 hB2.out false x))).mono ?_; rintro e w2 ⟨rfl, hbw2⟩; rw [hs]; have hM3 := Aside0.mk (hM2.out.below hbw2); have hB3 := Aside0.mk (hB2.out.trans (hbw2.mono hB2.out.size)); replace hbw2 := Aside0.mk hbw2; clear hld; have d0 := box_cell hM3.out.2.2.2.1; have d1 := box_cell hM3.out.2.2.2.2; have e0 := blk_frozen hM3.out.2.2.2.1 0; have e1 := blk_frozen hM3.out.2.2.2.2 0))
            refine reg13 l (w.heap.size + 1 + 1 + 1 + 1) z.1 z.2 0 _ _ _ _ _ _ _ _ _ _ _ _ _ _ _ _ _ _ _ _ _ _ _ _ _ _ _ _ _ _ _ _ _ _ _ _ _ _ _ _ _ _ _ _ _ _ _ w2 _ d0 d1 e0 e1 ?_
            gi_wp2
            exact ⟨round_fin (o := 0) (st := stp p b k0 k1 x s) (by decide) hst.out hM3.out hB3.out (Nat.le_refl _) hnx.out hko.out hW8'.out hbw.out hbw2.out, by simp [intOf]⟩
          · rw [rnd1_yes hin hs] at hst
            replace hst := Aside0.mk hst
            replace hin := Aside0.mk hin
            as_aux_lemma =>
            gi_wp2_with (first | (refine load_in (by rfl) 26 _ (by rfl) w.heap.size 0 (by rfl) _ hld ?_) | (refine ⟨trivial, ?_⟩; gi_at_call 22; refine (CallsIn.inRound l (callsIn_wide.2 (hHas.out k0 k1 0 wr))).mono ?_; rintro e w1 ⟨rfl, hbw⟩; rw [hd]; have hM2 := Aside0.mk (hM1.out.below hbw); have hB2 := Aside0.mk (hB1.out.trans (hbw.mono hB1.out.size)); replace hbw := Aside0.mk hbw; clear kn3 kn4; have hld := hL.out w1 hM2.out.1) | (refine ⟨trivial, ?_⟩; gi_at_call 14; refine (CallsIn.inRound l (callsIn_wide.2 (hSip.out w1 hB2.out false x))).mono ?_; rintro e w2 ⟨rfl, hbw2⟩; rw [hs]; have hM3 := Aside0.mk (hM2.out.below hbw2); have hB3 := Aside0.mk (hB2.out.trans (hbw2.mono hB2.out.size)); replace hbw2 := Aside0.mk hbw2; clear hld; have d0 := box_cell hM3.out.2.2.2.1; have d1 := box_cell hM3.out.2.2.2.2; have e0 := blk_frozen hM3.out.2.2.2.1 0; have e1 := blk_frozen hM3.out.2.2.2.2 0))
            refine reg13 l (w.heap.size + 1 + 1 + 1 + 1) z.1 z.2 1 _ _ _ _ _ _ _ _ _ _ _ _ _ _ _ _ _ _ _ _ _ _ _ _ _ _ _ _ _ _ _ _ _ _ _ _ _ _ _ _ _ _ _ _ _ _ _ w2 _ d0 d1 e0 e1 ?_
            gi_wp2
            exact ⟨round_fin (o := 0) (st := stp p b k0 k1 x s) (by decide) hst.out hM3.out hB3.out (Nat.le_refl _) hnx.out hko.out hW8'.out hbw.out hbw2.out, by simp [intOf]⟩
        · have hd : decide (k0 ≤ (0 : Int) ∧ (0 : Int) ≤ k1) = false := decide_eq_false hin
          rw [rnd1_no hin] at hst
          replace hst := Aside0.mk hst
          replace hin := Aside0.mk hin
          as_aux_lemma =>
          gi_wp2_with ((refine ⟨trivial, ?_⟩; gi_at_call 22; refine (CallsIn.inRound l (callsIn_wide.2 (hHas.out k0 k1 0 wr))).mono ?_; rintro e w1 ⟨rfl, hbw⟩; rw [hd]; have hM2 := Aside0.mk (hM1.out.below hbw); have hB2 := Aside0.mk (hB1.out.trans (hbw.mono hB1.out.size)); replace hbw := Aside0.mk hbw; clear kn3 kn4; have hld := hL.out w1 hM2.out.1))
          refine ⟨⟨0 + 1, by omega, by simp, by rw [hst.out]; exact hM2.out, hB2.out, hnx.out.trans (Kp2.of_below (by have := hW8'.out; omega) (by have := hW8'.out; omega) hbw.out), hko.out.trans (KeepsOthers.of_below hbw.out), Nat.le_trans hW8'.out hbw.out.size⟩, by simp [intOf]⟩
      · obtain ⟨z, hz⟩ : ∃ z, stp p b k0 k1 x s 1 = z := ⟨_, rfl⟩
        replace hM1 := Aside0.mk (show MB w.heap.size (.cells #[a0, .int .i64 3, a2, a3, s1, s2, s3, b1, b2, b3, b4, b5, b6, .int .i64 p, .int .i64 b, b9, b10, b11] 26 (0, 0)) (.cells #[.int .i64 q0, .int .i64 q1, .int .i64 t, .int .i64 k0, .int .i64 k1] 32 (0, 0)) (.cells #[.int .i64 0, .int .i64 0, .int .i64 0, .int .i64 0, .int .i64 0] 32 (0, 0)) z wr from by rw [← hz]; exact hM1.out)
        replace hz := Aside0.mk hz
        have hst : stp p b k0 k1 x s 2 = rnd1 p b k0 k1 x true z := by rw [← hz.out]; rfl
        by_cases hin : k0 ≤ 1 ∧ 1 ≤ k1
        · have hd : decide (k0 ≤ (1 : Int) ∧ (1 : Int) ≤ k1) = true := decide_eq_true hin
          cases hs : sph p b x true
          · rw [rnd1_yes hin hs] at hst
            replace hst := Aside0.mk hst
            replace hin := Aside0.mk hin
            as_aux_lemma =>
            gi_wp2_with (first | (refine load_in (by rfl) 26 _ (by rfl) w.heap.size 0 (by rfl) _ hld ?_) | (refine ⟨trivial, ?_⟩; gi_at_call 22; refine (CallsIn.inRound l (callsIn_wide.2 (hHas.out k0 k1 1 wr))).mono ?_; rintro e w1 ⟨rfl, hbw⟩; rw [hd]; have hM2 := Aside0.mk (hM1.out.below hbw); have hB2 := Aside0.mk (hB1.out.trans (hbw.mono hB1.out.size)); replace hbw := Aside0.mk hbw; clear kn3 kn4; have hld := hL.out w1 hM2.out.1) | (refine ⟨trivial, ?_⟩; gi_at_call 14; refine (CallsIn.inRound l (callsIn_wide.2 (hSip.out w1 hB2.out true x))).mono ?_; rintro e w2 ⟨rfl, hbw2⟩; rw [hs]; have hM3 := Aside0.mk (hM2.out.below hbw2); have hB3 := Aside0.mk (hB2.out.trans (hbw2.mono hB2.out.size)); replace hbw2 := Aside0.mk hbw2; clear hld; have d0 := box_cell hM3.out.2.2.2.1; have d1 := box_cell hM3.out.2.2.2.2; have e0 := blk_frozen hM3.out.2.2.2.1 0; have e1 := blk_frozen hM3.out.2.2.2.2 0))
            refine reg13 l (w.heap.size + 1 + 1 + 1 + 1) z.1 z.2 0 _ _ _ _ _ _ _ _ _ _ _ _ _ _ _ _ _ _ _ _ _ _ _ _ _ _ _ _ _ _ _ _ _ _ _ _ _ _ _ _ _ _ _ _ _ _ _ w2 _ d0 d1 e0 e1 ?_
            gi_wp2
            exact ⟨round_fin (o := 1) (st := stp p b k0 k1 x s) (by decide) hst.out hM3.out hB3.out (Nat.le_refl _) hnx.out hko.out hW8'.out hbw.out hbw2.out, by simp [intOf]⟩
          · rw [rnd1_yes hin hs] at hst
            replace hst := Aside0.mk hst
            replace hin := Aside0.mk hin
            as_aux_lemma =>
            gi_wp2_with (first | (refine load_in (by rfl) 26 _ (by rfl) w.heap.size 0 (by rfl) _ hld ?_) | (refine ⟨trivial, ?_⟩; gi_at_call 22; refine (CallsIn.inRound l (callsIn_wide.2 (hHas.out k0 k1 1 wr))).mono ?_; rintro e w1 ⟨rfl, hbw⟩; rw [hd]; have hM2 := Aside0.mk (hM1.out.below hbw); have hB2 := Aside0.mk (hB1.out.trans (hbw.mono hB1.out.size)); replace hbw := Aside0.mk hbw; clear kn3 kn4; have hld := hL.out w1 hM2.out.1) | (refine ⟨trivial, ?_⟩; gi_at_call 14; refine (CallsIn.inRound l (callsIn_wide.2 (hSip.out w1 hB2.out true x))).mono ?_; rintro e w2 ⟨rfl, hbw2⟩; rw [hs]; have hM3 := Aside0.mk (hM2.out.below hbw2); have hB3 := Aside0.mk (hB2.out.trans (hbw2.mono hB2.out.size)); replace hbw2 := Aside0.mk hbw2; clear hld; have d0 := box_cell hM3.out.2.2.2.1; have d1 := box_cell hM3.out.2.2.2.2; have e0 := blk_frozen hM3.out.2.2.2.1 0; have e1 := blk_frozen hM3.out.2.2.2.2 0))
            refine reg13 l (w.heap.size + 1 + 1 + 1 + 1) z.1 z.2 1 _ _ _ _ _ _ _ _ _ _ _ _ _ _ _ _ _ _ _ _ _ _ _ _ _ _ _ _ _ _ _ _ _ _ _ _ _ _ _ _ _ _ _ _ _ _ _ w2 _ d0 d1 e0 e1 ?_
            gi_wp2
            exact ⟨round_fin (o := 1) (st := stp p b k0 k1 x s) (by decide) hst.out hM3.out hB3.out (Nat.le_refl _) hnx.out hko.out hW8'.out hbw.out hbw2.out, by simp [intOf]⟩
        · have hd : decide (k0 ≤ (1 : Int) ∧ (1 : Int) ≤ k1) = false := decide_eq_false hin
          rw [rnd1_no hin] at hst
          replace hst := Aside0.mk hst
          replace hin := Aside0.mk hin
          as_aux_lemma =>
          gi_wp2_with ((refine ⟨trivial, ?_⟩; gi_at_call 22; refine (CallsIn.inRound l (callsIn_wide.2 (hHas.out k0 k1 1 wr))).mono ?_; rintro e w1 ⟨rfl, hbw⟩; rw [hd]; have hM2 := Aside0.mk (hM1.out.below hbw); have hB2 := Aside0.mk (hB1.out.trans (hbw.mono hB1.out.size)); replace hbw := Aside0.mk hbw; clear kn3 kn4; have hld := hL.out w1 hM2.out.1))
          refine ⟨⟨1 + 1, by omega, by simp, by rw [hst.out]; exact hM2.out, hB2.out, hnx.out.trans (Kp2.of_below (by have := hW8'.out; omega) (by have := hW8'.out; omega) hbw.out), hko.out.trans (KeepsOthers.of_below hbw.out), Nat.le_trans hW8'.out hbw.out.size⟩, by simp [intOf]⟩
      · as_aux_lemma =>
        gi_wp2
        exact ⟨hko.out, hnx.out, ⟨by rw [rnds_snoc, hs]; exact hM1.out, hB1.out⟩, hW8'.out⟩
  case done =>
    rintro D ys W hD rfl ⟨⟨hM, hB⟩, _⟩ hK
    obtain ⟨s, hs⟩ : ∃ s, rnds p b k0 k1 (trn lo hi p b 6) = s := ⟨_, rfl⟩
    rw [hs] at hM
    have hmy : mayb lo hi p b k0 k1 = if s.1 ≤ s.2 then s else (k0, k1) := by unfold mayb; rw [hs]
    clear hs
    have d0 := box_cell hM.2.2.2.1
    have d1 := box_cell hM.2.2.2.2
    have m0 : W.cell? ⟨w.heap.size + 1, 0, none⟩ = some (.int .i64 q0) := cell_at hM.2.1 0 _ rfl
    have m1 : W.cell? ⟨w.heap.size + 1, 1, none⟩ = some (.int .i64 q1) := cell_at hM.2.1 1 _ rfl
    have m2 : W.cell? ⟨w.heap.size + 1, 2, none⟩ = some (.int .i64 t) := cell_at hM.2.1 2 _ rfl
    have m3 : W.cell? ⟨w.heap.size + 1, 3, none⟩ = some (.int .i64 k0) := cell_at hM.2.1 3 _ rfl
    have m4 : W.cell? ⟨w.heap.size + 1, 4, none⟩ = some (.int .i64 k1) := cell_at hM.2.1 4 _ rfl
    have m5 := blk_frozen hM.2.1 3
    have m6 := blk_frozen hM.2.1 4
    have r0 : W.cell? ⟨w.heap.size + 1 + 1 + 1, 0, none⟩ = some (.int .i64 0) := cell_at hM.2.2.1 0 _ rfl
    have r1 : W.cell? ⟨w.heap.size + 1 + 1 + 1, 1, none⟩ = some (.int .i64 0) := cell_at hM.2.2.1 1 _ rfl
    have r2 : W.cell? ⟨w.heap.size + 1 + 1 + 1, 2, none⟩ = some (.int .i64 0) := cell_at hM.2.2.1 2 _ rfl
    have r3 : W.cell? ⟨w.heap.size + 1 + 1 + 1, 3, none⟩ = some (.int .i64 0) := cell_at hM.2.2.1 3 _ rfl
    have r4 : W.cell? ⟨w.heap.size + 1 + 1 + 1, 4, none⟩ = some (.int .i64 0) := cell_at hM.2.2.1 4 _ rfl
    have g0 := blk_frozen hM.2.2.1 0
    have g1 := blk_frozen hM.2.2.1 1
    have g2 := blk_frozen hM.2.2.1 2
    have g3 := blk_frozen hM.2.2.1 3
    have g4 := blk_frozen hM.2.2.1 4
    replace hM := Aside0.mk hM
    replace hB := Aside0.mk hB
    replace hK := Aside0.mk hK
    replace hD := Aside0.mk hD
    replace hmy := Aside0.mk hmy
    clear hHas hSip hp hb hL hfd hmx hM0 hl0 hv0 hB0
    by_cases hle : s.1 ≤ s.2
    · rw [if_pos hle] at hmy
      as_aux_lemma =>
      gi_wp2
      obtain ⟨W4, hW4⟩ : ∃ W4, (((((((W.setCell ⟨w.heap.size + 1, 3, none⟩ (.int .i64 s.1)).setCell ⟨w.heap.size + 1, 4, none⟩ (.int .i64 s.2)).setCell ⟨w.heap.size + 1 + 1 + 1, 0, none⟩ (.int .i64 q0)).setCell ⟨w.heap.size + 1 + 1 + 1, 1, none⟩ (.int .i64 q1)).setCell ⟨w.heap.size + 1 + 1 + 1, 2, none⟩ (.int .i64 t)).setCell ⟨w.heap.size + 1 + 1 + 1, 3, none⟩ (.int .i64 s.1)).setCell ⟨w.heap.size + 1 + 1 + 1, 4, none⟩ (.int .i64 s.2)) = W4 := ⟨_, rfl⟩
      have hko : KeepsOthers W W4 := by rw [← hW4]; exact ((((((KeepsOthers.setCell _ _ _).trans (KeepsOthers.setCell _ _ _)).trans (KeepsOthers.setCell _ _ _)).trans (KeepsOthers.setCell _ _ _)).trans (KeepsOthers.setCell _ _ _)).trans (KeepsOthers.setCell _ _ _)).trans (KeepsOthers.setCell _ _ _)
      have hb4 : W4.heap[w.heap.size + 1 + 1 + 1]? = some (.cells #[.int .i64 q0, .int .i64 q1, .int .i64 t, .int .i64 s.1, .int .i64 s.2] 32 (0, 0)) := by rw [← hW4]; refine blk_put (cs := #[.int .i64 q0, .int .i64 q1, .int .i64 t, .int .i64 s.1, .int .i64 0]) ?_ 4 _ rfl; refine blk_put (cs := #[.int .i64 q0, .int .i64 q1, .int .i64 t, .int .i64 0, .int .i64 0]) ?_ 3 _ rfl; refine blk_put (cs := #[.int .i64 q0, .int .i64 q1, .int .i64 0, .int .i64 0, .int .i64 0]) ?_ 2 _ rfl; refine blk_put (cs := #[.int .i64 q0, .int .i64 0, .int .i64 0, .int .i64 0, .int .i64 0]) ?_ 1 _ rfl; refine blk_put (cs := #[.int .i64 0, .int .i64 0, .int .i64 0, .int .i64 0, .int .i64 0]) ?_ 0 _ rfl; refine blk_far ?_ (by first | (simp; done) | (simp; omega)) _; refine blk_far ?_ (by first | (simp; done) | (simp; omega)) _; exact hM.out.2.2.1
      have hB4 : Below w.heap.size w W4 := by rw [← hW4]; refine below_set ?_ (by first | (simp; done) | (simp; omega) | omega); refine below_set ?_ (by first | (simp; done) | (simp; omega) | omega); refine below_set ?_ (by first | (simp; done) | (simp; omega) | omega); refine below_set ?_ (by first | (simp; done) | (simp; omega) | omega); refine below_set ?_ (by first | (simp; done) | (simp; omega) | omega); refine below_set ?_ (by first | (simp; done) | (simp; omega) | omega); refine below_set ?_ (by first | (simp; done) | (simp; omega) | omega); exact hB.out
      have hK4 := hko.same D _ hK.out rfl
      rw [hW4]
      clear hW4 hko
      refine ⟨by simp, .inl ⟨_, _, rfl, run_takeDeferred hK4, ?_⟩⟩
      have hDD := hD.out
      have hb5 : (W4.putObj D (.deferred none)).heap[w.heap.size + 1 + 1 + 1]? = some (.cells #[.int .i64 q0, .int .i64 q1, .int .i64 t, .int .i64 s.1, .int .i64 s.2] 32 (0, 0)) := ((grownBy_putObj' W4 D (.deferred none)).block _ (blk_lt' hb4) (fun e => by cases e; omega)).trans hb4
      exact ⟨_, results_cell_row rfl _ _ (w.heap.size + 1 + 1 + 1) 32 #[.int .i64 q0, .int .i64 q1, .int .i64 t, .int .i64 s.1, .int .i64 s.2] (0, 0) _ rfl hb5 hu32 rfl (by kernel_rfl), by rw [hmy.out], hB4.trans (belowK_b (w := w) (Nat.le_refl _) W4 D _ _ (by omega) hK4 rfl rfl)⟩
    · rw [if_neg hle] at hmy
      as_aux_lemma =>
      gi_wp2
      obtain ⟨W4, hW4⟩ : ∃ W4, (((((W.setCell ⟨w.heap.size + 1 + 1 + 1, 0, none⟩ (.int .i64 q0)).setCell ⟨w.heap.size + 1 + 1 + 1, 1, none⟩ (.int .i64 q1)).setCell ⟨w.heap.size + 1 + 1 + 1, 2, none⟩ (.int .i64 t)).setCell ⟨w.heap.size + 1 + 1 + 1, 3, none⟩ (.int .i64 k0)).setCell ⟨w.heap.size + 1 + 1 + 1, 4, none⟩ (.int .i64 k1)) = W4 := ⟨_, rfl⟩
      have hko : KeepsOthers W W4 := by rw [← hW4]; exact ((((KeepsOthers.setCell _ _ _).trans (KeepsOthers.setCell _ _ _)).trans (KeepsOthers.setCell _ _ _)).trans (KeepsOthers.setCell _ _ _)).trans (KeepsOthers.setCell _ _ _)
      have hb4 : W4.heap[w.heap.size + 1 + 1 + 1]? = some (.cells #[.int .i64 q0, .int .i64 q1, .int .i64 t, .int .i64 k0, .int .i64 k1] 32 (0, 0)) := by rw [← hW4]; refine blk_put (cs := #[.int .i64 q0, .int .i64 q1, .int .i64 t, .int .i64 k0, .int .i64 0]) ?_ 4 _ rfl; refine blk_put (cs := #[.int .i64 q0, .int .i64 q1, .int .i64 t, .int .i64 0, .int .i64 0]) ?_ 3 _ rfl; refine blk_put (cs := #[.int .i64 q0, .int .i64 q1, .int .i64 0, .int .i64 0, .int .i64 0]) ?_ 2 _ rfl; refine blk_put (cs := #[.int .i64 q0, .int .i64 0, .int .i64 0, .int .i64 0, .int .i64 0]) ?_ 1 _ rfl; refine blk_put (cs := #[.int .i64 0, .int .i64 0, .int .i64 0, .int .i64 0, .int .i64 0]) ?_ 0 _ rfl; exact hM.out.2.2.1
      have hB4 : Below w.heap.size w W4 := by rw [← hW4]; refine below_set ?_ (by first | (simp; done) | (simp; omega) | omega); refine below_set ?_ (by first | (simp; done) | (simp; omega) | omega); refine below_set ?_ (by first | (simp; done) | (simp; omega) | omega); refine below_set ?_ (by first | (simp; done) | (simp; omega) | omega); refine below_set ?_ (by first | (simp; done) | (simp; omega) | omega); exact hB.out
      have hK4 := hko.same D _ hK.out rfl
      rw [hW4]
      clear hW4 hko
      refine ⟨by simp, .inl ⟨_, _, rfl, run_takeDeferred hK4, ?_⟩⟩
      have hDD := hD.out
      have hb5 : (W4.putObj D (.deferred none)).heap[w.heap.size + 1 + 1 + 1]? = some (.cells #[.int .i64 q0, .int .i64 q1, .int .i64 t, .int .i64 k0, .int .i64 k1] 32 (0, 0)) := ((grownBy_putObj' W4 D (.deferred none)).block _ (blk_lt' hb4) (fun e => by cases e; omega)).trans hb4
      exact ⟨_, results_cell_row rfl _ _ (w.heap.size + 1 + 1 + 1) 32 #[.int .i64 q0, .int .i64 q1, .int .i64 t, .int .i64 k0, .int .i64 k1] (0, 0) _ rfl hb5 hu32 rfl (by kernel_rfl), by rw [hmy.out], hB4.trans (belowK_b (w := w) (Nat.le_refl _) W4 D _ _ (by omega) hK4 rfl rfl)⟩
  case stop =>
    rintro D c pre W _ _ h _
    exact h.elim
end Go.Proofs.Ytndancjnfdhbfaa.S
