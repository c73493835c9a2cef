import Derived.Test.YtcdlielgifkemaaUx1
import Derived.Test.YtcdlielgifkemaaRv
import Derived.Test.YtcdlielgifkemaaRows
import Derived.Test.YtcdlielgifkemaaOr
import Derived.WalkKit
import Derived.ProofKit
import Derived.OpenShut
import Derived.ShutString
import Derived.ChangeOld
import Derived.Below
import Derived.SizedLaws
import Derived.Lib.SmallJoins
/- RainEncloses holds: for all true millimetres of the cells that differ from the radar's by at most the error and lie in all readings of their cells, the litres that fall on each place lie in the span of Mesh of Cells, and their sum in the sum. No conditions beyond the statement's own. -/
namespace Go.Proofs.Ytcdlielgifkemaa.Pure
open Go.Proofs.Ytcdlielgifkemaa.S
open Go.RowKit Go.Proofs.Ytcdlielgifkemaa.U Go.Proofs.YtcdlielgifkemaaW.PrintWords Go.Proofs.YtcdlielgifkemaaW.PrintMore
set_option linter.unusedVariables false
theorem fold_has (gs : List S67) (i m : Int) : ∀ (rs : List S63) (s : S26), (∀ r ∈ rs, ofc gs r i = true → r.f2.f0 ≤ m ∧ m ≤ r.f2.f1) → s.f0 ≤ m ∧ m ≤ s.f1 → (rs.foldl (stp gs i) s).f0 ≤ m ∧ m ≤ (rs.foldl (stp gs i) s).f1
  | [], s, _, h => h
  | r :: rs, s, hr, h => by
    rw [List.foldl_cons]
    refine fold_has gs i m rs _ (fun y hy => hr y (by simp [hy])) ?_
    unfold stp
    split
    · rename_i hc
      have h1 := hr r (by simp) hc.1
      show mx s.f0 r.f2.f0 ≤ m ∧ m ≤ mn s.f1 r.f2.f1
      unfold mx mn
      constructor <;> split <;> omega
    · exact h
/-- what is known of a cell: the true value, the radar's, and the readings -/
def Good (gs : List S67) (rs : List S63) (p : Int) (mm R : List Int) (j : Nat) : Prop :=
  (0 ≤ mm.getD j 0 ∧ mm.getD j 0 ≤ 1099511627776) ∧ (0 ≤ R.getD j 0 ∧ R.getD j 0 ≤ 2199023255552 ∧ 1000 * (R.getD j 0 - mm.getD j 0) ≤ p * R.getD j 0 ∧ 1000 * (mm.getD j 0 - R.getD j 0) ≤ p * R.getD j 0) ∧
    ∀ r ∈ rs, ofc gs r (j : Int) = true → r.f2.f0 ≤ mm.getD j 0 ∧ mm.getD j 0 ≤ r.f2.f1
theorem cell_has {gs : List S67} {rs : List S63} {p : Int} {mm R : List Int} {j : Nat} (hp : 0 ≤ p ∧ p < 1000) (h : Good gs rs p mm R j) : (cell gs R p rs j).f0 ≤ mm.getD j 0 ∧ mm.getD j 0 ≤ (cell gs R p rs j).f1 := by
  obtain ⟨h1, h2, h3⟩ := h
  have e : mx 0 (mn (R.getD j 0) 1125899906842624) = R.getD j 0 := by unfold mx mn; (repeat' split) <;> omega
  refine fold_has gs (j : Int) (mm.getD j 0) rs (rad R p j) h3 ?_
  exact rad_has (Or.inl hp) (by omega) (fun _ _ => by rw [e]; exact h2.2.2.1) (fun _ _ => by rw [e]; exact h2.2.2.2)
theorem of_r (r : S63) (x : Int) (nm : ByteArray) (ow : List ByteArray) (nc : Int) (ps : List S47) (ls : List S104) (ts : List S106) (gs : List S67) (ro : List S108) (sh : List S110) (rm : List Int) (er : Int) : bourneref26_Of.f nm ow nc ps ls ts gs ro sh rm er r.f0 r.f1 r.f2.f0 r.f2.f1 x = some (ofc gs r x) := rfl
theorem has_ok (a b x : Int) : span_Has.f a b x = some (decide (a ≤ x ∧ x ≤ b)) := rfl
theorem mesh_ok (nm : ByteArray) (ow : List ByteArray) (nc : Int) (ps : List S47) (ls : List S104) (ts : List S106) (gs : List S67) (ro : List S108) (sh : List S110) (rm : List Int) (er : Int) (cs : List S26) (h : ps.length < 8796093022208 ∧ Short ps) : rain_Mesh.f nm ow nc ps ls ts gs ro sh rm er cs = some (mesh ps cs) := by unfold rain_Mesh.f; rw [if_pos h]
theorem cells_ok (nm : ByteArray) (ow : List ByteArray) (nc : Int) (ps : List S47) (ls : List S104) (ts : List S106) (gs : List S67) (ro : List S108) (sh : List S110) (rm : List Int) (er : Int) (radar : List Int) (p : Int) (rs : List S63) (h : rs.length ≤ maxLen) : rain_Cells.f nm ow nc ps ls ts gs ro sh rm er radar p rs = some (cells nc gs radar p rs) := by unfold rain_Cells.f; rw [if_pos h]
theorem fold_i64 {len : Int} {g : Int → Int} : ∀ (l : List S49) (n : Int), I64 n → I64 (l.foldl (fallg len g) n)
  | [], n, h => h
  | c :: l, n, h => by
    rw [List.foldl_cons]
    refine fold_i64 l _ ?_
    unfold fallg
    split
    · exact sat_range _
    · exact h
theorem mn_i64 {x : Int} (h : I64 x) : I64 (mn x 1125899906842624) := by unfold I64 at *; unfold mn; split <;> omega
theorem falls_i64 (mm : List Int) (l : List S49) : I64 (falls mm l) := by unfold falls; rw [fallm_g]; exact mn_i64 (fold_i64 l 0 (by decide))
theorem msum_i64 (sel : S26 → Int) (cs : List S26) (l : List S49) : I64 (msum sel cs l) := by unfold msum; rw [fall_g]; exact mn_i64 (fold_i64 l 0 (by decide))
theorem falls_has (mm : List Int) (cs : List S26) (hl : mm.length = cs.length) (h : ∀ i, i < cs.length → (cs.getD i z26).f0 ≤ mm.getD i 0 ∧ mm.getD i 0 ≤ (cs.getD i z26).f1) (l : List S49) : msum S26.f0 cs l ≤ falls mm l ∧ falls mm l ≤ msum S26.f1 cs l := by
  unfold msum falls
  rw [fall_g, fall_g, fallm_g, hl]
  have q : ∀ j : Int, rd mm j = mm.getD j.toNat 0 := fun _ => rfl
  refine ⟨mn_mono (fallg_mono (fun j h0 h1 => ?_) l 0 0 (Int.le_refl _)), mn_mono (fallg_mono (fun j h0 h1 => ?_) l 0 0 (Int.le_refl _))⟩
  · rw [rdT, q]; exact (h j.toNat (by omega)).1
  · rw [rdT, q]; exact (h j.toNat (by omega)).2
theorem mesh_in64 (ps : List S47) (cs : List S26) : C.In64 (mesh ps cs) := fun y hy => by
  unfold mesh at hy
  obtain ⟨p, _, rfl⟩ := List.mem_map.1 hy
  exact ⟨msum_i64 _ _ _, msum_i64 _ _ _⟩
theorem ssum_snoc (l : List S26) (i : Nat) (h : i < l.length) : ssum (l.take (i + 1)) = sadd (ssum (l.take i)) (l.getD i z26) := by
  unfold ssum
  exact C.take_step z26 _ _ _ _ h
theorem at_mem {ps : List S47} {i : Nat} (h : i < ps.length) : ps.getD i z47 ∈ ps := by
  rw [List.getD_eq_getElem?_getD, List.getElem?_eq_getElem h]; exact List.getElem_mem h
theorem enc_l3 (mm : List Int) (nm : ByteArray) (ow : List ByteArray) (nc : Int) (ps : List S47) (ls : List S104) (ts : List S106) (gs : List S67) (ro : List S108) (sh : List S110) (rm : List Int) (er : Int) (cs : List S26) (hnc : nc ≤ mm.length) (hmm : mm.length ≤ 64) (hcs : cs.length = ncl nc) (hps : ps.length ≤ 70) (hsh : Short ps)
    (h : ∀ i, i < cs.length → (cs.getD i z26).f0 ≤ mm.getD i 0 ∧ mm.getD i 0 ≤ (cs.getD i z26).f1) : ∀ (m k i : Nat) (tot : Int), i + m = ps.length → m < k → I64 tot → (ssum ((mesh ps cs).take i)).f0 ≤ tot → tot ≤ (ssum ((mesh ps cs).take i)).f1 →
    bournelaw26_RainEncloses.l3 k mm true (mesh ps cs) tot (i : Int) nm ow nc ps ls ts gs ro sh rm er = some true := by
  have hnl := C.ncl_int nc
  have htl : (mm.take (mx 0 nc).toNat).length = cs.length := by
    rw [List.length_take, hcs]
    have e : mx 0 nc = (ncl nc : Int) := by rw [hnl]; unfold mx; (repeat' split) <;> omega
    have := C.ncl_le nc
    have h64 : (ncl nc : Int) ≤ mm.length := by rw [hnl]; (repeat' split) <;> omega
    omega
  have hta : ∀ i, i < cs.length → (cs.getD i z26).f0 ≤ (mm.take (mx 0 nc).toNat).getD i 0 ∧ (mm.take (mx 0 nc).toNat).getD i 0 ≤ (cs.getD i z26).f1 := fun i hi => by
    have e : (mm.take (mx 0 nc).toNat).getD i 0 = mm.getD i 0 := by
      rw [List.length_take] at htl
      rw [List.getD_eq_getElem?_getD, List.getD_eq_getElem?_getD, List.getElem?_take, if_pos (by omega)]
    rw [e]; exact h i hi
  intro m
  induction m with
  | zero =>
    intro k i tot hi hk ht h1 h2
    obtain ⟨k, rfl⟩ : ∃ q, k = q + 1 := ⟨k - 1, by omega⟩
    rw [List.take_of_length_le (by rw [mesh_len]; omega)] at h1 h2
    simp only [bournelaw26_RainEncloses.l3]
    have es : rain_Sum.f (mesh ps cs) = some ((ssum (mesh ps cs)).f0, (ssum (mesh ps cs)).f1) := by
      unfold rain_Sum.f
      rw [if_pos ⟨by rw [mesh_len]; exact Nat.le_trans hps (by decide), mesh_in64 _ _⟩]
    rw [if_neg (by omega), if_pos trivial, if_pos (by rw [mesh_len]), es, Option.bind_some, has_ok, Option.bind_some, decide_eq_true ⟨h1, h2⟩]
  | succ m ih =>
    intro k i tot hi hk ht h1 h2
    obtain ⟨k, rfl⟩ : ∃ q, k = q + 1 := ⟨k - 1, by omega⟩
    have hi2 : i < ps.length := by omega
    have rp : rd_T47 ps (i : Int) = ps.getD i z47 := rfl
    have hf := falls_has _ cs htl hta (ps.getD i z47).f11
    have hfi := falls_i64 (mm.take (mx 0 nc).toNat) (ps.getD i z47).f11
    have hms := mesh_at ps cs i hi2
    have hsn := ssum_snoc (mesh ps cs) i (by rw [mesh_len]; omega)
    have m0 : 0 ≤ mx 0 nc ∧ mx 0 nc ≤ mm.length := by unfold mx; split <;> omega
    simp only [bournelaw26_RainEncloses.l3]
    have ef : bournelaw26_falls.f (ps.getD i z47).f0 (ps.getD i z47).f1 (ps.getD i z47).f2 (ps.getD i z47).f3 (ps.getD i z47).f4 (ps.getD i z47).f5 (ps.getD i z47).f6 (ps.getD i z47).f7 (ps.getD i z47).f8 (ps.getD i z47).f9 (ps.getD i z47).f10 (ps.getD i z47).f11 (mm.take (mx 0 nc).toNat) = some (falls (mm.take (mx 0 nc).toNat) (ps.getD i z47).f11) := by
      unfold bournelaw26_falls.f
      rw [if_pos (hsh _ (at_mem hi2))]
    rw [if_pos (by omega), if_pos (by omega), if_pos m0.1, if_pos m0.2, rp, ef, Option.bind_some, if_neg (by rw [mesh_len]; omega), if_pos (by rw [mesh_len]; omega), C.rd26, hms]
    generalize falls (mm.take (mx 0 nc).toNat) (ps.getD i z47).f11 = n at *
    rw [hms] at hsn
    have hp : (plc cs (ps.getD i z47)).f0 ≤ n ∧ n ≤ (plc cs (ps.getD i z47)).f1 := hf
    have ea : exact_Add.f tot n = some (sat (tot + n)) := by unfold exact_Add.f; rw [if_pos ⟨ht, hfi⟩]
    rw [has_ok, Option.bind_some, decide_eq_true hp, if_pos rfl, ea, Option.bind_some, show wrap64 ((i : Int) + 1) = ((i + 1 : Nat) : Int) by unfold wrap64; omega]
    refine ih k (i + 1) _ (by omega) (by omega) (sat_range _) ?_ ?_
    · rw [hsn]; exact sat_mono (by omega)
    · rw [hsn]; exact sat_mono (by omega)
theorem enc_l2 (mm : List Int) (nm : ByteArray) (ow : List ByteArray) (nc : Int) (ps : List S47) (ls : List S104) (ts : List S106) (gs : List S67) (ro : List S108) (sh : List S110) (rm : List Int) (er : Int) (cs : List S26) (hnc : nc ≤ mm.length) (hmm : mm.length ≤ 64) (hcs : cs.length = ncl nc) (hps : ps.length ≤ 70) (hsh : Short ps)
    (h : ∀ i, i < cs.length → (cs.getD i z26).f0 ≤ mm.getD i 0 ∧ mm.getD i 0 ≤ (cs.getD i z26).f1) : ∀ (m k i : Nat), i + m = cs.length → m + ps.length + 2 ≤ k →
    bournelaw26_RainEncloses.l2 k mm true cs (i : Int) nm ow nc ps ls ts gs ro sh rm er = some true := by
  have hnl := C.ncl_int nc
  have h64 : (ncl nc : Int) ≤ mm.length := by rw [hnl]; (repeat' split) <;> omega
  intro m
  induction m with
  | zero =>
    intro k i hi hk
    obtain ⟨k, rfl⟩ : ∃ q, k = q + 1 := ⟨k - 1, by omega⟩
    simp only [bournelaw26_RainEncloses.l2]
    rw [if_neg (by omega), mesh_ok _ _ _ _ _ _ _ _ _ _ _ _ ⟨by omega, hsh⟩, Option.bind_some]
    exact enc_l3 mm _ _ _ _ _ _ _ _ _ _ _ cs hnc hmm hcs hps hsh h ps.length k 0 0 (by omega) (by omega) (by decide) (Int.le_refl 0) (Int.le_refl 0)
  | succ m ih =>
    intro k i hi hk
    obtain ⟨k, rfl⟩ : ∃ q, k = q + 1 := ⟨k - 1, by omega⟩
    have hh := h i (by omega)
    simp only [bournelaw26_RainEncloses.l2]
    rw [if_pos (by omega), if_pos (by omega), if_pos (by omega), C.rd26, C.rdI, has_ok, Option.bind_some, decide_eq_true hh, if_pos rfl, show wrap64 ((i : Int) + 1) = ((i + 1 : Nat) : Int) by unfold wrap64; omega]
    exact ih k (i + 1) (by omega) (by omega)
theorem enc_l1 (mm off : List Int) (p : Int) (rs : List S63) (R : List Int) (nm : ByteArray) (ow : List ByteArray) (nc : Int) (ps : List S47) (ls : List S104) (ts : List S106) (gs : List S67) (ro : List S108) (sh : List S110) (rm : List Int) (er : Int) (hmm : mm.length ≤ 64) (hrs : rs.length ≤ 60) (i : Nat) (hi : i < mm.length) (kk : Nat)
    (hnext : (∀ r ∈ rs, ofc gs r (i : Int) = true → r.f2.f0 ≤ mm.getD i 0 ∧ mm.getD i 0 ≤ r.f2.f1) → ∀ k, kk ≤ k → bournelaw26_RainEncloses.l0 k mm off p rs true R ((i + 1 : Nat) : Int) nm ow nc ps ls ts gs ro sh rm er = some true) :
    ∀ (m k j : Nat), j + m = rs.length → m + kk < k → (∀ t, t < j → ofc gs (rs.getD t z63) (i : Int) = true → (rs.getD t z63).f2.f0 ≤ mm.getD i 0 ∧ mm.getD i 0 ≤ (rs.getD t z63).f2.f1) →
    bournelaw26_RainEncloses.l1 k mm off p rs true R (i : Int) (j : Int) nm ow nc ps ls ts gs ro sh rm er = some true := by
  intro m
  induction m with
  | zero =>
    intro k j hj hk hh
    obtain ⟨k, rfl⟩ : ∃ q, k = q + 1 := ⟨k - 1, by omega⟩
    simp only [bournelaw26_RainEncloses.l1]
    rw [if_neg (by omega), show wrap64 ((i : Int) + 1) = ((i + 1 : Nat) : Int) by unfold wrap64; omega]
    refine hnext (fun r hr ho => ?_) k (by omega)
    obtain ⟨t, ht, rfl⟩ := List.getElem_of_mem hr
    have := hh t (by omega)
    rw [List.getD_eq_getElem?_getD, List.getElem?_eq_getElem ht] at this
    exact this ho
  | succ m ih =>
    intro k j hj hk hh
    obtain ⟨k, rfl⟩ : ∃ q, k = q + 1 := ⟨k - 1, by omega⟩
    have next : (ofc gs (rs.getD j z63) (i : Int) = true → (rs.getD j z63).f2.f0 ≤ mm.getD i 0 ∧ mm.getD i 0 ≤ (rs.getD j z63).f2.f1) → bournelaw26_RainEncloses.l1 k mm off p rs true R (i : Int) (wrap64 ((j : Int) + 1)) nm ow nc ps ls ts gs ro sh rm er = some true := fun h => by
      rw [show wrap64 ((j : Int) + 1) = ((j + 1 : Nat) : Int) by unfold wrap64; omega]
      refine ih k (j + 1) (by omega) (by omega) (fun t ht ho => ?_)
      rcases Nat.lt_or_ge t j with h' | h'
      · exact hh t h' ho
      · obtain rfl : t = j := by omega
        exact h ho
    simp only [bournelaw26_RainEncloses.l1]
    rw [if_pos (by omega), if_pos (by omega), C.rd63]
    generalize rs.getD j z63 = r at *
    rw [of_r, Option.bind_some]
    cases ho : ofc gs r (i : Int) with
    | false => rw [if_neg (by decide)]; exact next (fun h => by rw [ho] at h; cases h)
    | true =>
      rw [if_pos rfl, if_pos (by omega), if_pos (by omega), has_ok, C.rdI, Option.bind_some]
      by_cases hc : r.f2.f0 ≤ mm.getD i 0 ∧ mm.getD i 0 ≤ r.f2.f1
      · rw [decide_eq_true hc, if_pos rfl]; exact next (fun _ => hc)
      · rw [decide_eq_false hc, if_neg (by decide)]
theorem enc_l0 (mm off : List Int) (p : Int) (rs : List S63) (nm : ByteArray) (ow : List ByteArray) (nc : Int) (ps : List S47) (ls : List S104) (ts : List S106) (gs : List S67) (ro : List S108) (sh : List S110) (rm : List Int) (er : Int) (hmm : mm.length ≤ 64) (hrs : rs.length ≤ 60) (hp : 0 ≤ p ∧ p < 1000) (hnc : nc ≤ mm.length) (hps : ps.length ≤ 70) (hsh : Short ps) (hoff : ∀ y ∈ off, I64 y) : ∀ (m k i : Nat) (R : List Int), i + m = mm.length →
    m * (rs.length + 5) + 140 ≤ k → R.length = i → (∀ j, j < i → Good gs rs p mm R j) → bournelaw26_RainEncloses.l0 k mm off p rs true R (i : Int) nm ow nc ps ls ts gs ro sh rm er = some true := by
  have hnl := C.ncl_int nc
  have hn64 := C.ncl_le nc
  have h64 : (ncl nc : Int) ≤ mm.length := by rw [hnl]; (repeat' split) <;> omega
  intro m
  induction m with
  | zero =>
    intro k i R hi hk hR hh
    obtain ⟨k, rfl⟩ : ∃ q, k = q + 1 := ⟨k - 1, by omega⟩
    simp only [bournelaw26_RainEncloses.l0]
    rw [if_neg (by omega), cells_ok _ _ _ _ _ _ _ _ _ _ _ _ _ _ (Nat.le_trans hrs (by decide)), Option.bind_some]
    refine enc_l2 mm _ _ _ _ _ _ _ _ _ _ _ _ hnc hmm (cells_len _ _ _ _ _) hps hsh (fun j hj => ?_) (cells nc gs R p rs).length k 0 (by omega) (by rw [cells_len]; omega)
    rw [cells_len] at hj
    rw [cells_at _ _ _ _ _ j hj]
    exact cell_has hp (hh j (by omega))
  | succ m ih =>
    intro k i R hi hk hR hh
    rw [Nat.succ_mul] at hk
    obtain ⟨k, rfl⟩ : ∃ q, k = q + 4 := ⟨k - 4, by omega⟩
    have hi2 : i < mm.length := by omega
    have bad : bournelaw26_RainEncloses.j2 (k + 3) mm off p rs true R (i : Int) true nm ow nc ps ls ts gs ro sh rm er = some true := by simp only [bournelaw26_RainEncloses.j2, if_true]
    simp only [bournelaw26_RainEncloses.l0]
    rw [if_pos (by omega), if_pos (by omega), C.rdI]
    by_cases c1 : mm.getD i 0 < 0
    · rw [if_pos c1]; exact bad
    rw [if_neg c1]
    by_cases c2 : mm.getD i 0 > 1099511627776
    · rw [decide_eq_true c2]; exact bad
    rw [decide_eq_false c2]
    have j4 : ∀ v, (0 ≤ v ∧ v ≤ 2199023255552 ∧ 1000 * (v - mm.getD i 0) ≤ p * v ∧ 1000 * (mm.getD i 0 - v) ≤ p * v) → bournelaw26_RainEncloses.j4 (k + 1) mm off p rs true R (i : Int) v nm ow nc ps ls ts gs ro sh rm er = some true := fun v hv => by
      simp only [bournelaw26_RainEncloses.j4]
      rw [if_pos (by omega)]
      refine enc_l1 mm off p rs (R ++ [v]) _ _ _ _ _ _ _ _ _ _ _ hmm hrs i hi2 (m * (rs.length + 5) + 140) (fun hr k' hk' => ?_) rs.length k 0 (by omega) (by omega) (fun t ht => by omega)
      refine ih k' (i + 1) (R ++ [v]) (by omega) hk' (by rw [List.length_append, hR]; rfl) (fun j hj => ?_)
      have g1 : (R ++ [v]).getD i 0 = v := by rw [List.getD_eq_getElem?_getD, List.getElem?_append_right (by omega), hR, Nat.sub_self]; rfl
      rcases Nat.lt_or_ge j i with h | h
      · have g2 : (R ++ [v]).getD j 0 = R.getD j 0 := by rw [List.getD_eq_getElem?_getD, List.getElem?_append_left (by omega), List.getD_eq_getElem?_getD]
        have := hh j h
        unfold Good at this ⊢
        rw [g2]; exact this
      · obtain rfl : j = i := by omega
        unfold Good
        rw [g1]
        exact ⟨by omega, hv, hr⟩
    have j3 : ∀ v, 0 ≤ v → v ≤ 2199023255552 → bournelaw26_RainEncloses.j3 (k + 2) mm off p rs true R (i : Int) v nm ow nc ps ls ts gs ro sh rm er = some true := fun v v0 v1 => by
      have pv0 := Int.mul_nonneg hp.1 v0
      have pv1 : p * v ≤ 1000 * 2199023255552 := Int.mul_le_mul (by omega) v1 v0 (by decide)
      have pm := Int.mul_nonneg hp.1 (show 0 ≤ mm.getD i 0 by omega)
      simp only [bournelaw26_RainEncloses.j3]
      rw [if_pos (by omega), if_pos (by omega), C.rdI, B.wrap_id (x := p * v) (by omega) (by omega), B.wrap_id (x := v - mm.getD i 0) (by omega) (by omega), B.wrap_id (x := mm.getD i 0 - v) (by omega) (by omega)]
      have hM : v - mm.getD i 0 ≤ mx (v - mm.getD i 0) (mm.getD i 0 - v) ∧ mm.getD i 0 - v ≤ mx (v - mm.getD i 0) (mm.getD i 0 - v) ∧ 0 ≤ mx (v - mm.getD i 0) (mm.getD i 0 - v) ∧ mx (v - mm.getD i 0) (mm.getD i 0 - v) ≤ 2199023255552 := by unfold mx; split <;> omega
      rw [B.wrap_id (by omega) (by omega)]
      by_cases c3 : 1000 * mx (v - mm.getD i 0) (mm.getD i 0 - v) > p * v
      · rw [if_pos c3]; exact j4 _ (by omega)
      · rw [if_neg c3]; exact j4 _ (by omega)
    simp only [bournelaw26_RainEncloses.j2, Bool.false_eq_true, if_false]
    rw [if_pos (by omega), if_pos (by omega)]
    by_cases c5 : (i : Int) < (off.length : Int)
    · rw [if_pos c5, C.rdI, C.rdI]
      have ho : I64 (off.getD i 0) := by
        rw [List.getD_eq_getElem?_getD, List.getElem?_eq_getElem (by omega)]
        exact hoff _ (List.getElem_mem _)
      have ea : exact_Add.f (mm.getD i 0) (off.getD i 0) = some (sat (mm.getD i 0 + off.getD i 0)) := by unfold exact_Add.f; rw [if_pos ⟨by unfold I64; omega, ho⟩]
      have ec : ∀ v, exact_Clamp.f v 0 2199023255552 = some (if v < 0 then 0 else if v > 2199023255552 then 2199023255552 else v) := fun v => rfl
      rw [ea, Option.bind_some, ec, Option.bind_some]
      refine j3 _ ?_ ?_ <;> ((repeat' split) <;> omega)
    · rw [if_neg c5, C.rdI]; exact j3 _ (by omega) (by omega)
theorem RainEncloses (a0_0 : ByteArray) (l0_1 : List (ByteArray)) (a0_2 : Int) (l0_3 : List (S47)) (l0_4 : List (S104)) (l0_5 : List (S106)) (l0_6 : List (S67)) (l0_7 : List (S108)) (l0_8 : List (S110)) (l0_9 : List (Int)) (a0_10 : Int) (l1 : List (Int)) (l2 : List (Int)) (a3 : Int) (l4 : List (S63)) (z0_0 : a0_0.size ≤ maxLen) (y0_1 : l0_1.length ≤ maxLen) (q0_1 : ∀ y ∈ l0_1, y.size ≤ maxLen) (w0_2 : (Lit.int .i64 a0_2).wf = true) (y0_3 : l0_3.length ≤ maxLen) (q0_3 : ∀ y ∈ l0_3, Q47 y) (y0_4 : l0_4.length ≤ maxLen) (q0_4 : ∀ y ∈ l0_4, Q104 y) (y0_5 : l0_5.length ≤ maxLen) (q0_5 : ∀ y ∈ l0_5, Q106 y) (y0_6 : l0_6.length ≤ maxLen) (q0_6 : ∀ y ∈ l0_6, Q67 y) (y0_7 : l0_7.length ≤ maxLen) (q0_7 : ∀ y ∈ l0_7, Q108 y) (y0_8 : l0_8.length ≤ maxLen) (q0_8 : ∀ y ∈ l0_8, Q110 y) (y0_9 : l0_9.length ≤ maxLen) (q0_9 : ∀ y ∈ l0_9, (Lit.int .i64 y).wf = true) (w0_10 : (Lit.int .i64 a0_10).wf = true) (y1 : l1.length ≤ maxLen) (q1 : ∀ y ∈ l1, (Lit.int .i64 y).wf = true) (y2 : l2.length ≤ maxLen) (q2 : ∀ y ∈ l2, (Lit.int .i64 y).wf = true) (w3 : (Lit.int .i64 a3).wf = true) (y4 : l4.length ≤ maxLen) (q4 : ∀ y ∈ l4, Q63 y) :
    ∃ k, bournelaw26_RainEncloses.f k a0_0 l0_1 a0_2 l0_3 l0_4 l0_5 l0_6 l0_7 l0_8 l0_9 a0_10 l1 l2 a3 l4 = some true := by
  refine ⟨l1.length * (l4.length + 5) + 140 + 1, ?_⟩
  have bad : bournelaw26_RainEncloses.j0 (l1.length * (l4.length + 5) + 140 + 1) l1 l2 a3 l4 true true a0_0 l0_1 a0_2 l0_3 l0_4 l0_5 l0_6 l0_7 l0_8 l0_9 a0_10 = some true := by simp only [bournelaw26_RainEncloses.j0, if_true]
  unfold bournelaw26_RainEncloses.f bournelaw26_small.f bournelaw26_few.f
  rw [Option.bind_some, Option.bind_some]
  cases hf : C.fewb l0_3 l4 [] with
  | false => rw [if_neg (by decide)]; exact bad
  | true =>
    obtain ⟨h1, h2, h3, h4⟩ := few_of hf
    rw [if_pos rfl]
    by_cases c1 : (l1.length : Int) > 64
    · rw [if_pos c1]; exact bad
    rw [if_neg c1]
    by_cases c2 : a0_2 > (l1.length : Int)
    · rw [if_pos c2]; exact bad
    rw [if_neg c2]
    by_cases c3 : a3 < 0
    · rw [if_pos c3]; exact bad
    rw [if_neg c3]
    by_cases c4 : a3 ≥ 1000
    · rw [decide_eq_true c4]; exact bad
    rw [decide_eq_false c4]
    simp only [bournelaw26_RainEncloses.j0, Bool.false_eq_true, if_false]
    exact enc_l0 l1 l2 a3 l4 _ _ _ _ _ _ _ _ _ _ _ (by omega) h2 ⟨by omega, by omega⟩ (by omega) h1 (short_of h4) (fun y hy => by have := i64b (q2 y hy); unfold I64; omega) l1.length _ 0 [] (by omega) (Nat.le_refl _) rfl (fun j hj => by omega)
end Go.Proofs.Ytcdlielgifkemaa.Pure

-- Written by a program of this session (wip/tools/row3.py): the row of the law RainEncloses, out of its pure statement and its walk; Lean checks it.
namespace Go.Proofs.Ytcdlielgifkemaa.rainEncloses
open Go.ChangeShapes Go.WideShapes Go.ChangeAt Go.RowKit Go.Joins Go.Proofs.Ytcdlielgifkemaa.S Go.Proofs.YtcdlielgifkemaaW.PrintWords Go.Proofs.YtcdlielgifkemaaW.PrintLast Go.Proofs.YtcdlielgifkemaaW.PrintMore
open Go.ChangeMaps (open_string shut_string)
set_option linter.unusedVariables false
theorem own : ownKnob Try.prog.godebug = none := by kernel_rfl
theorem laidOut : laidOutB Try.prog = true := by kernel_rfl
theorem walk (a0_0 : ByteArray) (A0_1 : Option Addr) (c0_1 : Nat) (l0_1 : List (ByteArray)) (a0_2 : Int) (A0_3 : Option Addr) (c0_3 : Nat) (l0_3 : List (S47)) (A0_4 : Option Addr) (c0_4 : Nat) (l0_4 : List (S104)) (A0_5 : Option Addr) (c0_5 : Nat) (l0_5 : List (S106)) (A0_6 : Option Addr) (c0_6 : Nat) (l0_6 : List (S67)) (A0_7 : Option Addr) (c0_7 : Nat) (l0_7 : List (S108)) (A0_8 : Option Addr) (c0_8 : Nat) (l0_8 : List (S110)) (A0_9 : Option Addr) (c0_9 : Nat) (l0_9 : List (Int)) (a0_10 : Int) (A1 : Option Addr) (c1 : Nat) (l1 : List (Int)) (A2 : Option Addr) (c2 : Nat) (l2 : List (Int)) (a3 : Int) (A4 : Option Addr) (c4 : Nat) (l4 : List (S63)) (w : World) (hr0_1 : Kd.C Kd.string w A0_1 l0_1.length l0_1) (hc0_1 : l0_1.length ≤ c0_1) (hr0_3 : Kd.C k47 w A0_3 l0_3.length l0_3) (hc0_3 : l0_3.length ≤ c0_3) (hr0_4 : Kd.C k104 w A0_4 l0_4.length l0_4) (hc0_4 : l0_4.length ≤ c0_4) (hr0_5 : Kd.C k106 w A0_5 l0_5.length l0_5) (hc0_5 : l0_5.length ≤ c0_5) (hr0_6 : Kd.C k67 w A0_6 l0_6.length l0_6) (hc0_6 : l0_6.length ≤ c0_6) (hr0_7 : Kd.C k108 w A0_7 l0_7.length l0_7) (hc0_7 : l0_7.length ≤ c0_7) (hr0_8 : Kd.C k110 w A0_8 l0_8.length l0_8) (hc0_8 : l0_8.length ≤ c0_8) (hr0_9 : Kd.C (Kd.int .i64) w A0_9 l0_9.length l0_9) (hc0_9 : l0_9.length ≤ c0_9) (hr1 : Kd.C (Kd.int .i64) w A1 l1.length l1) (hc1 : l1.length ≤ c1) (hr2 : Kd.C (Kd.int .i64) w A2 l2.length l2) (hc2 : l2.length ≤ c2) (hr4 : Kd.C k63 w A4 l4.length l4) (hc4 : l4.length ≤ c4) (z0_0 : a0_0.size ≤ maxLen) (y0_1 : l0_1.length ≤ maxLen) (q0_1 : ∀ y ∈ l0_1, y.size ≤ maxLen) (w0_2 : (Lit.int .i64 a0_2).wf = true) (y0_3 : l0_3.length ≤ maxLen) (q0_3 : ∀ y ∈ l0_3, Q47 y) (y0_4 : l0_4.length ≤ maxLen) (q0_4 : ∀ y ∈ l0_4, Q104 y) (y0_5 : l0_5.length ≤ maxLen) (q0_5 : ∀ y ∈ l0_5, Q106 y) (y0_6 : l0_6.length ≤ maxLen) (q0_6 : ∀ y ∈ l0_6, Q67 y) (y0_7 : l0_7.length ≤ maxLen) (q0_7 : ∀ y ∈ l0_7, Q108 y) (y0_8 : l0_8.length ≤ maxLen) (q0_8 : ∀ y ∈ l0_8, Q110 y) (y0_9 : l0_9.length ≤ maxLen) (q0_9 : ∀ y ∈ l0_9, (Lit.int .i64 y).wf = true) (w0_10 : (Lit.int .i64 a0_10).wf = true) (y1 : l1.length ≤ maxLen) (q1 : ∀ y ∈ l1, (Lit.int .i64 y).wf = true) (y2 : l2.length ≤ maxLen) (q2 : ∀ y ∈ l2, (Lit.int .i64 y).wf = true) (w3 : (Lit.int .i64 a3).wf = true) (y4 : l4.length ≤ maxLen) (q4 : ∀ y ∈ l4, Q63 y) :
    Calls Try.prog 7 #[.agg #[.string a0_0, .slice A0_1 l0_1.length c0_1, .int .i64 a0_2, .slice A0_3 l0_3.length c0_3, .slice A0_4 l0_4.length c0_4, .slice A0_5 l0_5.length c0_5, .slice A0_6 l0_6.length c0_6, .slice A0_7 l0_7.length c0_7, .slice A0_8 l0_8.length c0_8, .slice A0_9 l0_9.length c0_9, .int .i64 a0_10], .slice A1 l1.length c1, .slice A2 l2.length c2, .int .i64 a3, .slice A4 l4.length c4] w fun e w' => e = .returned (.bool true) ∧ Below w.heap.size w w' := by
  obtain ⟨k, h⟩ := Pure.RainEncloses a0_0 l0_1 a0_2 l0_3 l0_4 l0_5 l0_6 l0_7 l0_8 l0_9 a0_10 l1 l2 a3 l4 z0_0 y0_1 q0_1 w0_2 y0_3 q0_3 y0_4 q0_4 y0_5 q0_5 y0_6 q0_6 y0_7 q0_7 y0_8 q0_8 y0_9 q0_9 w0_10 y1 q1 y2 q2 w3 y4 q4
  refine (U.bournelaw26_RainEncloses.calls k a0_0 A0_1 c0_1 l0_1 a0_2 A0_3 c0_3 l0_3 A0_4 c0_4 l0_4 A0_5 c0_5 l0_5 A0_6 c0_6 l0_6 A0_7 c0_7 l0_7 A0_8 c0_8 l0_8 A0_9 c0_9 l0_9 a0_10 A1 c1 l1 A2 c2 l2 a3 A4 c4 l4 true w hr0_1 hc0_1 hr0_3 hc0_3 hr0_4 hc0_4 hr0_5 hc0_5 hr0_6 hc0_6 hr0_7 hc0_7 hr0_8 hc0_8 hr0_9 hc0_9 hr1 hc1 hr2 hc2 hr4 hc4 h ⟨rfl⟩).mono ?_
  rintro e w' ⟨rfl, hd⟩
  exact ⟨rfl, hd⟩
set_option maxRecDepth 100000 in
set_option maxHeartbeats 4000000 in
theorem lifted (os : Os) (started : os.Started) (H : Type) (enc : TypeId × Value → H) :
    ReturnsInHanded {} Try.checked os 7 .any (Rows.rainEnclosesSpec.pre6 enc Try.prog Try.f7 Rows.rainEnclosesRow.domain false) (Rows.rainEnclosesSpec.post enc Try.prog Try.f7 false true false false) := by
  refine returnsInHanded_of_change_sized (C := Try.checked) own started (by kernel_rfl) Try.func7
    (ChangeSpec.witness6 (enc := enc) (C := Try.checked) false ⟨#[], #[.agg #[.string ⟨#[]⟩, .slice none 0 0, .int .i64 0, .slice none 0 0, .slice none 0 0, .slice none 0 0, .slice none 0 0, .slice none 0 0, .slice none 0 0, .slice none 0 0, .int .i64 0], .slice none 0 0, .slice none 0 0, .int .i64 0, .slice none 0 0], []⟩ 8 (by kernel_rfl) (by kernel_rfl) (by kernel_rfl) (by kernel_rfl)) ?_
  intro W base args ds gs before hval0 hW hcnd hsz0 _
  have hval : ∀ (j : Nat) t v, Try.f7.params[j]? = some t → args[j]? = some v → Value.okWide Try.prog W .any base t v := hval0
  have hW' := hW
  obtain ⟨p, q, hA0, hV, rfl, hfz, hnd⟩ := hW
  have hA : DataW.TrodAll enc Try.prog W 0 (fun _ => true) true Try.f7.params.toList args.toList ds p := hA0
  rw [Try.params7] at hA hval
  obtain ⟨v0, vs0, d0, ds0, p0, q0, hargs, rfl, rfl, h0, r0⟩ := trodAll_cons hA
  obtain ⟨v1, vs1, d1, ds1, p1, q1, rfl, rfl, rfl, h1, r1⟩ := trodAll_cons r0
  obtain ⟨v2, vs2, d2, ds2, p2, q2, rfl, rfl, rfl, h2, r2⟩ := trodAll_cons r1
  obtain ⟨v3, vs3, d3, ds3, p3, q3, rfl, rfl, rfl, h3, r3⟩ := trodAll_cons r2
  obtain ⟨v4, vs4, d4, ds4, p4, q4, rfl, rfl, rfl, h4, r4⟩ := trodAll_cons r3
  obtain ⟨rfl, rfl, rfl⟩ := trodAll_nil r4
  obtain rfl : args = #[v0, v1, v2, v3, v4] := by cases args; simp_all
  obtain ⟨rfl, rfl⟩ := trodVars_none hV
  obtain ⟨cs0, rfl, sz0⟩ := okWide_struct Try.underlying41 (hval 0 41 v0 rfl rfl)
  have k0 := h0
  have lt0 : ∀ x ∈ p0, x.block < W.heap.size := by obtain ⟨m, hm⟩ := k0; exact DataW.trod_lt m _ _ _ hm
  obtain ⟨⟨a0_0, l0_1, a0_2, l0_3, l0_4, l0_5, l0_6, l0_7, l0_8, l0_9, a0_10⟩, hK0, hQ0⟩ := op41.open h0
  obtain ⟨_, _, E0, rfl, ⟨_, _, rfl, ⟨A0_1, c0_1, rfl, hc0_1, hr0_1⟩, ⟨_, _, rfl, rfl, ⟨_, _, rfl, ⟨A0_3, c0_3, rfl, hc0_3, hr0_3⟩, ⟨_, _, rfl, ⟨A0_4, c0_4, rfl, hc0_4, hr0_4⟩, ⟨_, _, rfl, ⟨A0_5, c0_5, rfl, hc0_5, hr0_5⟩, ⟨_, _, rfl, ⟨A0_6, c0_6, rfl, hc0_6, hr0_6⟩, ⟨_, _, rfl, ⟨A0_7, c0_7, rfl, hc0_7, hr0_7⟩, ⟨_, _, rfl, ⟨A0_8, c0_8, rfl, hc0_8, hr0_8⟩, ⟨_, _, rfl, ⟨A0_9, c0_9, rfl, hc0_9, hr0_9⟩, rfl⟩⟩⟩⟩⟩⟩⟩⟩⟩⟩ := hK0
  obtain ⟨z0_0, ⟨y0_1, q0_1⟩, w0_2, ⟨y0_3, q0_3⟩, ⟨y0_4, q0_4⟩, ⟨y0_5, q0_5⟩, ⟨y0_6, q0_6⟩, ⟨y0_7, q0_7⟩, ⟨y0_8, q0_8⟩, ⟨y0_9, q0_9⟩, w0_10⟩ := hQ0
  obtain rfl : cs0 = #[.string a0_0, .slice A0_1 l0_1.length c0_1, .int .i64 a0_2, .slice A0_3 l0_3.length c0_3, .slice A0_4 l0_4.length c0_4, .slice A0_5 l0_5.length c0_5, .slice A0_6 l0_6.length c0_6, .slice A0_7 l0_7.length c0_7, .slice A0_8 l0_8.length c0_8, .slice A0_9 l0_9.length c0_9, .int .i64 a0_10] := by apply Array.ext'; simpa [Value.cells] using E0
  obtain ⟨sa1, sn1, sc1, rfl⟩ := okWide_slice Try.underlying39 (hval 1 39 v1 rfl rfl)
  have k1 := h1
  have lt1 : ∀ x ∈ p1, x.block < W.heap.size := by obtain ⟨m, hm⟩ := k1; exact DataW.trod_lt m _ _ _ hm
  obtain ⟨l1, ⟨A1, c1, hcs1, hc1, hr1⟩, y1, q1⟩ := op39.open h1
  simp [Value.cells] at hcs1
  obtain ⟨rfl, rfl, rfl⟩ := hcs1
  obtain ⟨sa2, sn2, sc2, rfl⟩ := okWide_slice Try.underlying39 (hval 2 39 v2 rfl rfl)
  have k2 := h2
  have lt2 : ∀ x ∈ p2, x.block < W.heap.size := by obtain ⟨m, hm⟩ := k2; exact DataW.trod_lt m _ _ _ hm
  obtain ⟨l2, ⟨A2, c2, hcs2, hc2, hr2⟩, y2, q2⟩ := op39.open h2
  simp [Value.cells] at hcs2
  obtain ⟨rfl, rfl, rfl⟩ := hcs2
  obtain ⟨a3, rfl, rfl, rfl, w3⟩ := open_int Try.underlying3 (hval 3 3 v3 rfl rfl) h3
  obtain ⟨sa4, sn4, sc4, rfl⟩ := okWide_slice Try.underlying53 (hval 4 53 v4 rfl rfl)
  have k4 := h4
  have lt4 : ∀ x ∈ p4, x.block < W.heap.size := by obtain ⟨m, hm⟩ := k4; exact DataW.trod_lt m _ _ _ hm
  obtain ⟨l4, ⟨A4, c4, hcs4, hc4, hr4⟩, y4, q4⟩ := op53.open h4
  simp [Value.cells] at hcs4
  obtain ⟨rfl, rfl, rfl⟩ := hcs4
  clear hA0 hval0 hsz0
  refine (walk a0_0 _ _ l0_1 a0_2 _ _ l0_3 _ _ l0_4 _ _ l0_5 _ _ l0_6 _ _ l0_7 _ _ l0_8 _ _ l0_9 a0_10 _ _ l1 _ _ l2 a3 _ _ l4 W hr0_1 hc0_1 hr0_3 hc0_3 hr0_4 hc0_4 hr0_5 hc0_5 hr0_6 hc0_6 hr0_7 hc0_7 hr0_8 hc0_8 hr0_9 hc0_9 hr1 hc1 hr2 hc2 hr4 hc4 z0_0 y0_1 q0_1 w0_2 y0_3 q0_3 y0_4 q0_4 y0_5 q0_5 y0_6 q0_6 y0_7 q0_7 y0_8 q0_8 y0_9 q0_9 w0_10 y1 q1 y2 q2 w3 y4 q4).mono fun e W' ⟨he, bel⟩ => ?_
  subst he
  exact ⟨_, rfl, _, _, _, [], _, [], hW', trodAll_mk1 (shut_bool Try.underlying4 _), (trodAll_cons_mk (Below.trod laidOut (by kernel_rfl) (of_decide_eq_true (by kernel_rfl)) k0 bel lt0) (trodAll_cons_mk (Below.trod laidOut (by kernel_rfl) (of_decide_eq_true (by kernel_rfl)) k1 bel lt1) (trodAll_cons_mk (Below.trod laidOut (by kernel_rfl) (of_decide_eq_true (by kernel_rfl)) k2 bel lt2) (trodAll_cons_mk (shut_int Try.underlying3 w3) (trodAll_cons_mk (Below.trod laidOut (by kernel_rfl) (of_decide_eq_true (by kernel_rfl)) k4 bel lt4) trodAll_mk0))))), rfl, bel.frame _, fun h => by cases h⟩
theorem over : Rows.rainEnclosesRow.holds Try.pinned (OpenSpec.ofChange Rows.rainEnclosesSpec) :=
  OpenClaim.holds_of_wide 7 Try.f7 rfl rfl rfl rfl rfl rfl rfl ⟨rfl, rfl, rfl, rfl, rfl⟩ rfl rfl rfl rfl rfl (by kernel_rfl) Try.func7 (by kernel_rfl)
    (of_decide_eq_true (by kernel_rfl)) (by unfold Func.isWrapper; first | (rw [if_pos (by decide +kernel)]; kernel_rfl) | (rw [if_neg (by decide +kernel)]; exact ⟨rfl, rfl⟩))
    (fun os started H enc _ => lifted os started H enc)
theorem proved : Rows.RainEnclosesSaid := over
#print axioms proved
end Go.Proofs.Ytcdlielgifkemaa.rainEncloses
namespace Go.Proofs.Ytcdlielgifkemaa
/-- The row, under a short name, for the claim. -/
theorem rainEncloses_holds : Rows.RainEnclosesSaid := rainEncloses.proved
end Go.Proofs.Ytcdlielgifkemaa
