/- What the form reads of an argument, in the words of the printed contracts: for each type that is built of integers, bools, strings, slices and structs, a value that can be read as data has the cells of a Lean value of its kind. -/
import Derived.Test.YtcdlielgifkemaaWMore
import Derived.Lib.SmallJoins
import Derived.ChangeArms
namespace Go.Proofs.Ytcdlielgifkemaa.S
open Go.RowKit Go.Proofs.YtcdlielgifkemaaW.PrintWords Go.Proofs.YtcdlielgifkemaaW.PrintLast Go.Proofs.YtcdlielgifkemaaW.PrintMore

/-- A value of type t that can be read has the cells of a value of the kind d, and Q holds of that. -/
def Op (P : Program) (t : TypeId) {α : Type} (d : Kd α) (Q : α → Prop) : Prop :=
  P.cellsOf t = d.sz ∧ ∀ (H : Type) (enc : TypeId × Value → H) (w : World) (base : Nat) (sp : Nat → Bool) (held : Bool) (n : Nat) (cs : List Value) (x : DataW H × List MemPlace),
    DataW.trod enc P w base sp held n t cs = some x → ∃ y : α, d.K w y cs ∧ Q y

section
variable {P : Program} {t e : TypeId} {α β : Type}

theorem Op.int {k : IntKind} (ht : P.underlying t = some (.int k)) (hc : P.cellsOf t = 1) : Op P t (Kd.int k) (fun a => (Lit.int k a).wf = true) := by
  refine ⟨hc, fun H enc w base sp held n cs x h => ?_⟩
  obtain ⟨a, rfl, _, hw⟩ := DataW.trod_int ht h
  exact ⟨a, rfl, hw⟩

theorem Op.bool (ht : P.underlying t = some .bool) (hc : P.cellsOf t = 1) : Op P t Kd.bool (fun _ => True) := by
  refine ⟨hc, fun H enc w base sp held n cs x h => ?_⟩
  obtain ⟨a, rfl, _⟩ := DataW.trod_bool ht h
  exact ⟨a, rfl, trivial⟩

theorem Op.string (ht : P.underlying t = some .string) (hc : P.cellsOf t = 1) : Op P t Kd.string (fun s => s.size ≤ maxLen) := by
  refine ⟨hc, fun H enc w base sp held n cs x h => ?_⟩
  obtain ⟨a, rfl, _, hw⟩ := DataW.trod_string ht h
  exact ⟨a, rfl, hw⟩

theorem list_of {γ : Type} (n : Nat) (R : Nat → γ → Prop) (h : ∀ i, i < n → ∃ y, R i y) : ∃ l : List γ, l.length = n ∧ ∀ i y, l[i]? = some y → R i y := by
  induction n with
  | zero => exact ⟨[], rfl, fun i y hy => by simp at hy⟩
  | succ n ih =>
    obtain ⟨l, hl, hr⟩ := ih (fun i hi => h i (by omega))
    obtain ⟨y, hy⟩ := h n (by omega)
    refine ⟨l ++ [y], by simp [hl], fun i z hz => ?_⟩
    rcases Nat.lt_or_ge i l.length with hi | hi
    · rw [List.getElem?_append_left hi] at hz
      exact hr i z hz
    · rw [List.getElem?_append_right hi] at hz
      have : i - l.length = 0 := by
        rcases Nat.eq_zero_or_pos (i - l.length) with h0 | h0
        · exact h0
        · rw [List.getElem?_eq_none (by simp; omega)] at hz; cases hz
      rw [this] at hz
      simp at hz
      subst hz
      rwa [show i = n by omega]

theorem Op.slice {d : Kd α} {Q : α → Prop} (ht : P.underlying t = some (.slice e)) (hc : P.cellsOf t = 1) (hd : Op P e d Q) : Op P t (Kd.slice e d) (fun l => l.length ≤ maxLen ∧ ∀ y ∈ l, Q y) := by
  refine ⟨hc, fun H enc w base sp held n cs x h => ?_⟩
  rcases DataW.trod_slice ht h with ⟨rfl, _⟩ | ⟨a, len, cap, elems, rest, m, _, rfl, _, _, hlc, hcm, hel, hget, _⟩
  · exact ⟨[], ⟨none, 0, rfl, Nat.le_refl _, rfl, by simp, fun h => absurd h (by simp)⟩, by simp, by simp⟩
  · have key : ∀ i, i < len → ∃ y, (∃ c, w.cells? base (a.add (i * P.cellsOf e)) (P.cellsOf e) = some c ∧ d.K w y c) ∧ Q y := by
      intro i hi
      have hg := hget i hi
      rw [List.getElem?_eq_getElem (by omega)] at hg
      obtain ⟨c, h1, h2⟩ := Option.bind_eq_some_iff.1 hg
      obtain ⟨y, hy, hq⟩ := hd.2 H enc w base sp held m c _ h2
      exact ⟨y, ⟨c, h1, hy⟩, hq⟩
    obtain ⟨l, hl, hr⟩ := list_of len _ key
    refine ⟨l, ⟨some a, cap, by rw [hl], by omega, rfl, by unfold maxLen at hcm; omega, fun _ => ⟨a, rfl, fun j p hj => ?_⟩⟩, by omega, fun y hy => ?_⟩
    · obtain ⟨⟨c, hcc, hK⟩, _⟩ := hr j p hj
      rw [hd.1] at hcc
      have hcl := d.K_len hK
      refine ⟨c, hcl, hK, fun i u hu => ?_⟩
      have hi : i < d.sz := by rw [← hcl]; exact (List.getElem?_eq_some_iff.1 hu).1
      obtain ⟨_, hall⟩ := World.cells?_some hcc
      have h3 := hall.2 i hi
      rw [Addr.add_add, hu] at h3
      exact h3
    · obtain ⟨j, hj⟩ := List.getElem?_of_mem hy
      exact (hr j y hj).2

/-- The fields from offset 'off' on have the cells of a value of the kind d. -/
def FO (P : Program) (fs : List Field) (off : Nat) {α : Type} (d : Kd α) (Q : α → Prop) : Prop :=
  ∀ (H : Type) (enc : TypeId × Value → H) (w : World) (base : Nat) (sp : Nat → Bool) (held : Bool) (n : Nat) (cs : List Value), cs.length = off + d.sz →
    (∀ (i : Nat) (f : Field), fs[i]? = some f → ∃ x, DataW.trod enc P w base sp held n f.type ((cs.drop f.offset).take (P.cellsOf f.type)) = some x) → ∃ y : α, d.K w y (cs.drop off) ∧ Q y

theorem FO.one {f : Field} {off : Nat} {d : Kd α} {Q : α → Prop} (ho : f.offset = off) (h : Op P f.type d Q) : FO P [f] off d Q := by
  intro H enc w base sp held n cs hl hf
  obtain ⟨x, hx⟩ := hf 0 f rfl
  rw [ho, h.1, List.take_of_length_le (by rw [List.length_drop]; omega)] at hx
  exact h.2 H enc w base sp held n _ x hx

theorem FO.cons {f : Field} {fs : List Field} {off : Nat} {d : Kd α} {d2 : Kd β} {Q : α → Prop} {Q2 : β → Prop} (ho : f.offset = off) (h : Op P f.type d Q) (h2 : FO P fs (off + d.sz) d2 Q2) :
    FO P (f :: fs) off (Kd.pair d d2) (fun x => Q x.1 ∧ Q2 x.2) := by
  intro H enc w base sp held n cs hl hf
  have hl' : cs.length = off + (d.sz + d2.sz) := hl
  obtain ⟨x, hx⟩ := hf 0 f rfl
  rw [ho, h.1] at hx
  obtain ⟨y, hy, hq⟩ := h.2 H enc w base sp held n _ x hx
  obtain ⟨z, hz, hq2⟩ := h2 H enc w base sp held n cs (by omega) (fun i g hg => hf (i + 1) g hg)
  refine ⟨(y, z), ⟨(cs.drop off).take d.sz, cs.drop (off + d.sz), ?_, hy, hz⟩, hq, hq2⟩
  rw [← List.drop_drop, List.take_append_drop]

theorem Op.struct {fs : List Field} {d : Kd α} {Q : α → Prop} (ht : P.underlying t = some (.struct fs.toArray)) (hc : P.cellsOf t = d.sz) (h : FO P fs 0 d Q) : Op P t d Q := by
  refine ⟨hc, fun H enc w base sp held n cs x hx => ?_⟩
  obtain ⟨xs, m, _, _, hl, hxs, hf⟩ := DataW.trod_struct ht hx
  refine h H enc w base sp held m cs (by omega) (fun i f hi => ?_)
  have h1 : fs.toArray[i]? = some f := by simpa using hi
  have h2 := hf i f h1
  have hlt : i < xs.length := by
    have := (List.getElem?_eq_some_iff.1 hi).1
    simp at hxs
    omega
  exact ⟨xs[i], by rw [h2, List.getElem?_eq_getElem hlt]⟩

theorem Op.iso {d : Kd α} {Q : α → Prop} {f : β → α} (g : α → β) (hg : ∀ a, f (g a) = a) (h : Op P t d Q) : Op P t (Kd.iso d f) (fun b => Q (f b)) := by
  refine ⟨h.1, fun H enc w base sp held n cs x hx => ?_⟩
  obtain ⟨y, hy, hq⟩ := h.2 H enc w base sp held n cs x hx
  refine ⟨g y, ?_, by show Q (f (g y)); rw [hg]; exact hq⟩
  show d.K w (f (g y)) cs
  rw [hg]; exact hy

/-- An argument: what the form's row says of it, opened. -/
theorem Op.open {d : Kd α} {Q : α → Prop} (h : Op P t d Q) {H : Type} {enc : TypeId × Value → H} {w : World} {base : Nat} {sp : Nat → Bool} {held : Bool} {v : Value} {dd : DataW H} {p : List MemPlace}
    (ht : DataW.Trod enc P w base sp held t v dd p) : ∃ y : α, d.K w y v.cells.toList ∧ Q y := by
  obtain ⟨n, hn⟩ := ht
  exact h.2 H enc w base sp held n _ _ hn

end
end Go.Proofs.Ytcdlielgifkemaa.S
