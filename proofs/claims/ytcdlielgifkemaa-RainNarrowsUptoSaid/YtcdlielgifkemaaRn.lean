/- The functions of the package rain, and the reference's, in closed form: the plain laws. -/
import Derived.Test.YtcdlielgifkemaaSp
namespace Go.Proofs.Ytcdlielgifkemaa.S
open Go.RowKit Go.Proofs.YtcdlielgifkemaaW.PrintWords Go.Proofs.YtcdlielgifkemaaW.PrintMore
/-- the litres of n millimetres on an area -/
def lit (n a : Int) : Int := if n ≤ 0 ∨ a ≤ 0 then 0 else if n * a ≤ 1125899906842624 then n * a else 1125899906842624
theorem lit_range (n a : Int) : 0 ≤ lit n a ∧ lit n a ≤ 1125899906842624 := by
  unfold lit
  split
  · omega
  · rename_i h
    have := Int.mul_pos (show 0 < n by omega) (show 0 < a by omega)
    split <;> omega
theorem scl_lit (n a : Int) (hn : 0 < n) (ha : 0 < a) : (if (scl n a 1).2.2 = true then (scl n a 1).1 else 1125899906842624) = lit n a := by
  have hp := Int.mul_pos hn ha
  have k1 : n ≤ n * a := by have := Int.mul_le_mul_of_nonneg_left (show (1 : Int) ≤ a by omega) (show 0 ≤ n by omega); omega
  have k2 : a ≤ n * a := by have := Int.mul_le_mul_of_nonneg_right (show (1 : Int) ≤ n by omega) (show 0 ≤ a by omega); omega
  have hl : lit n a = if n * a ≤ 1125899906842624 then n * a else 1125899906842624 := by unfold lit; rw [if_neg (by omega)]
  rw [hl]
  by_cases h : n * a ≤ 1125899906842624
  · have e : scl n a 1 = (n * a, n * a % 1, true) := by
      unfold scl
      rw [if_pos ⟨by omega, by omega, by omega, by omega, by decide, by decide, by rw [Int.ediv_one]; exact h⟩, Int.ediv_one]
    rw [e, if_pos rfl, if_pos h]
  · have e : scl n a 1 = (0, 0, false) := by
      unfold scl
      rw [if_neg (fun hh => h (by have := hh.2.2.2.2.2.2; rwa [Int.ediv_one] at this))]
    rw [e, if_neg (by decide), if_neg h]
/-- the span of a radar's value: rounded down and up -/
def rlo (v p : Int) : Int := (scl (mx 0 (mn v 1125899906842624)) (1000 - mx 0 (mn p 1000)) 1000).1
def rhi (v p : Int) : Int :=
  let s := scl (mx 0 (mn v 1125899906842624)) (1000 + mx 0 (mn p 1000)) 1000
  if s.2.2 = true then mn (s.1 + if s.2.1 > 0 then 1 else 0) 1125899906842624 else 1125899906842624
/-- a reading of a cell -/
def ofc (gs : List S67) (r : S63) (cell : Int) : Bool := decide (0 ≤ r.f0) && decide (r.f0 < (gs.length : Int)) && decide ((rd_T67 gs r.f0).f1 = 1) && decide ((rd_T67 gs r.f0).f2 = cell)
def stp (gs : List S67) (cell : Int) (s : S26) (r : S63) : S26 :=
  if ofc gs r cell = true ∧ r.f2.f0 ≤ r.f2.f1 ∧ mx s.f0 r.f2.f0 ≤ mn s.f1 r.f2.f1 then ⟨mx s.f0 r.f2.f0, mn s.f1 r.f2.f1⟩ else s
/-- the span of the radar at a cell -/
def rad (radar : List Int) (p : Int) (i : Nat) : S26 := ⟨rlo (radar.getD i 0) p, rhi (radar.getD i 0) p⟩
def cell (gs : List S67) (radar : List Int) (p : Int) (rs : List S63) (i : Nat) : S26 := rs.foldl (stp gs i) (rad radar p i)
/-- the number of cells -/
def ncl (n : Int) : Nat := (if n < 0 then 0 else if n > 64 then 64 else n).toNat
def cells (n : Int) (gs : List S67) (radar : List Int) (p : Int) (rs : List S63) : List S26 := (List.range (ncl n)).map (cell gs radar p rs)
/-- litres on a place, of one end of the cells' spans -/
def fall (sel : S26 → Int) (cs : List S26) (n : Int) (c : S49) : Int := if 0 ≤ c.f0 ∧ c.f0 < (cs.length : Int) then sat (n + lit (sel (rd_T26 cs c.f0)) c.f1) else n
def msum (sel : S26 → Int) (cs : List S26) (l : List S49) : Int := mn (l.foldl (fall sel cs) 0) 1125899906842624
def plc (cs : List S26) (p : S47) : S26 := ⟨msum S26.f0 cs p.f11, msum S26.f1 cs p.f11⟩
def mesh (ps : List S47) (cs : List S26) : List S26 := ps.map (plc cs)
/-- the sum of spans -/
def sadd (s : S26) (x : S26) : S26 := ⟨sat (s.f0 + x.f0), sat (s.f1 + x.f1)⟩
def ssum (l : List S26) : S26 := l.foldl sadd ⟨0, 0⟩
theorem sat_range (x : Int) : I64 (sat x) := by unfold sat I64; (repeat' split) <;> omega
theorem sat_id {x : Int} (h : I64 x) : sat x = x := by unfold I64 at h; unfold sat; (repeat' split) <;> omega
end Go.Proofs.Ytcdlielgifkemaa.S
namespace Go.Proofs.Ytcdlielgifkemaa.C
open Go.Proofs.Ytcdlielgifkemaa.S
open Go.RowKit Go.Proofs.YtcdlielgifkemaaW.PrintWords Go.Proofs.YtcdlielgifkemaaW.PrintLast Go.Proofs.YtcdlielgifkemaaW.PrintMore
set_option linter.unusedVariables false
theorem mxmn {x lo hi : Int} (h : lo ≤ hi) : mx lo (mn x hi) = (if x < lo then lo else if x > hi then hi else x) := by unfold mx mn; (repeat' split) <;> omega
theorem bourneref26_Litres_one (n a : Int) : bourneref26_Litres.f 1 n a = some (lit n a) := by
  unfold bourneref26_Litres.f
  simp only [bourneref26_Litres.j0]
  by_cases h : n ≤ 0
  · rw [if_pos h, if_pos trivial]; unfold lit; rw [if_pos (Or.inl h)]
  · rw [if_neg h]
    by_cases h2 : a ≤ 0
    · rw [decide_eq_true h2, if_pos rfl]; unfold lit; rw [if_pos (Or.inr h2)]
    · rw [decide_eq_false h2, if_neg (by decide)]
      unfold bourneref01_Scale.f
      simp only [Option.bind_some]
      rw [← scl_lit n a (by omega) (by omega)]
      split <;> rfl
theorem bourneref26_Radar_ok (v p : Int) : bourneref26_Radar.f v p = some (rlo v p, rhi v p) := by
  have hr := scl_range (mx 0 (mn v 1125899906842624)) (1000 + mx 0 (mn p 1000)) 1000
  unfold bourneref26_Radar.f bourneref01_Scale.f rlo rhi
  simp only [Option.bind_some]
  rw [B.wrap_id (by omega) (by omega)]
  split
  · split
    · rfl
    · rw [Int.add_zero]
  · rfl
theorem exact_Clamp_ok (n lo hi : Int) : exact_Clamp.f n lo hi = some (if n < lo then lo else if n > hi then hi else n) := by
  unfold exact_Clamp.f
  (repeat' split) <;> first | rfl | omega
theorem rain_radarSpan_ok (v p : Int) : rain_radarSpan.f 1 v p = some (rlo v p, rhi v p) := by
  have hr := scl_range (mx 0 (mn v 1125899906842624)) (1000 + mx 0 (mn p 1000)) 1000
  have hp : 0 ≤ mx 0 (mn p 1000) ∧ mx 0 (mn p 1000) ≤ 1000 := by unfold mx mn; (repeat' split) <;> omega
  unfold rain_radarSpan.f
  rw [exact_Clamp_ok, exact_Clamp_ok]
  simp only [Option.bind_some]
  rw [← mxmn (by decide), ← mxmn (by decide), B.wrap_id (by omega) (by omega), B.wrap_id (by omega) (by omega)]
  unfold exact_Scale.f rlo rhi
  simp only [Option.bind_some, rain_radarSpan.j0]
  rw [B.wrap_id (by omega) (by omega)]
  generalize scl (mx 0 (mn v 1125899906842624)) (1000 + mx 0 (mn p 1000)) 1000 = s at *
  by_cases h1 : s.2.2 = true
  · by_cases h2 : s.2.1 > 0
    · simp only [h1, h2, if_true]
      unfold mn
      (repeat' split) <;> first | rfl | omega | (congr 2; omega)
    · simp only [h1, h2, if_true, if_false, Int.add_zero]
      unfold mn
      (repeat' split) <;> first | rfl | omega | (congr 2; omega)
  · by_cases h2 : s.2.1 > 0 <;> simp only [h1, h2, if_true, if_false] <;> rfl
end Go.Proofs.Ytcdlielgifkemaa.C
