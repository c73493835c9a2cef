/- rain.Mesh: the walk over the places and their cells, with the function values that it hands on. -/
import Derived.Test.YtcdlielgifkemaaRs
import Derived.Test.YtcdlielgifkemaaVx1
import Derived.Test.YtcdlielgifkemaaWg
namespace Go.Proofs.Ytcdlielgifkemaa.C
open Go.Proofs.Ytcdlielgifkemaa.S
open Go.RowKit Go.Proofs.YtcdlielgifkemaaW.PrintWords Go.Proofs.YtcdlielgifkemaaW.PrintLast Go.Proofs.YtcdlielgifkemaaW.PrintMore
theorem rlit (n a : Int) : V.rain_litres.f 1 n a = some (lit n a) := by
  unfold V.rain_litres.f
  simp only [V.rain_litres.j0]
  by_cases h : n ≤ 0
  · rw [if_pos h, if_pos trivial]; unfold lit; rw [if_pos (Or.inl h)]
  · rw [if_neg h]
    by_cases h2 : a ≤ 0
    · rw [decide_eq_true h2, if_pos rfl]; unfold lit; rw [if_pos (Or.inr h2)]
    · rw [decide_eq_false h2, if_neg (by decide)]
      unfold exact_Scale.f
      rw [Option.bind_some, ← scl_lit n a (by omega) (by omega)]
      split <;> rfl
end Go.Proofs.Ytcdlielgifkemaa.C
namespace Go.Proofs.Ytcdlielgifkemaa.S
open Go.RowKit Go.Proofs.YtcdlielgifkemaaW.PrintWords Go.Proofs.YtcdlielgifkemaaW.PrintLast Go.Proofs.YtcdlielgifkemaaW.PrintMore
set_option linter.unusedVariables false
set_option linter.unusedSimpArgs false
attribute [local go_sem] max2_int min2_int max_two min_two
theorem drawn_below {w w' : World} (h : Drawn0 w w') : Below w.heap.size w w' := h.below
theorem litres_calls (n a : Int) (w : World) : Calls Try.prog 28 #[.int .i64 n, .int .i64 a] w fun e w' => e = .returned (.int .i64 (lit n a)) ∧ Below w.heap.size w w' :=
  (V.rain_litres.calls 1 n a (lit n a) w (C.rlit n a)).mono fun e w' h => ⟨h.1, drawn_below h.2⟩
theorem add_calls (a b : Int) (w : World) (ha : I64 a) (hb : I64 b) : Calls Try.prog 24 #[.int .i64 a, .int .i64 b] w fun e w' => e = .returned (.int .i64 (sat (a + b))) ∧ Below w.heap.size w w' :=
  (exact_Add.calls a b (sat (a + b)) w (by unfold exact_Add.f; rw [if_pos ⟨ha, hb⟩])).mono fun e w' h => ⟨h.1, drawn_below h.2⟩
theorem mesh2_calls (x : S26) (w : World) : Calls Try.prog 29 #[.agg #[.int .i64 x.f0, .int .i64 x.f1]] w fun e w' => e = .returned (.int .i64 x.f0) ∧ Below w.heap.size w w' := by
  have hu26 := Try.underlying26
  go_enter Try.func29, Try.ntmps29
  go_wp2
  go_ret
  exact ⟨rfl, below_alloc (Below.refl _ _) _⟩
theorem mesh3_calls (x : S26) (w : World) : Calls Try.prog 30 #[.agg #[.int .i64 x.f0, .int .i64 x.f1]] w fun e w' => e = .returned (.int .i64 x.f1) ∧ Below w.heap.size w w' := by
  have hu26 := Try.underlying26
  go_enter Try.func30, Try.ntmps30
  go_wp2
  go_ret
  exact ⟨rfl, below_alloc (Below.refl _ _) _⟩
/-- a call of a function value, in a region that draws its order -/
theorem goesV_ {P : Program} {ops : Array Oper} {Q : Exit → Act → World → Prop} {oi : Oper} {N : Option Tmp} {a : Act} {w : World} {K : Act → World → Prop} (f : FuncId) {fn : Func} {xs_ : Array Operand} {ts : Array TypeId} {x : Operand} (hf : P.funcs[f]? = some fn) (hname : (fn.name == "runtime.NumGoroutine") = false) (hb : fn.body.isSome = true) (args : Array Value)
    (hw : Region.wanted oi (yielded ops a.tmps) = true) (hN : oi.dst = N) (hop : oi.op = .call { callee := .value x, args := xs_, argTypes := ts }) (hx : a.eval x = .func (.func f) #[] #[]) (hargs : xs_.map a.eval = args)
    (h : Calls P f args w fun e w' => ∃ v, e = .returned v ∧ K (a.put N v) w') : if Region.wanted oi (yielded ops a.tmps) = true then Oper.wp P oi a w K Q else K (a.put N undef) w := by
  refine call_ f args hw hN ?_ h
  have he := enters_ hf hname hb args w
  unfold execOp
  simp [hop, resolve, Deferred.ofValue, invoke, hx, hargs, he]
noncomputable def meshT : Bool × List (List Nat × List Nat) := (true, [([], []), ([], []), ([], []), ([], []), ([3], [3]), ([2, 4], [2, 4]), ([5], [5]), ([1, 6], [1, 6]), ([], []), ([8], [8]), ([7, 9, 7], [7, 9]), ([0, 10, 10], [0, 10]), ([11, 11, 0, 1, 2, 3, 4, 5, 6, 7, 8, 9, 10, 11], [0, 11])])
def meshB : List Nat := [0, 0, 0, 0, 8, 28, 60, 126, 0, 256, 1022, 2047, 4095]
theorem meshtab : rtab .any (opsOf Try.f27 6) = meshT := by kernel_rfl
theorem meshbits : waitsOk meshT.2 meshB = true := by kernel_rfl
set_option maxRecDepth 100000 in
set_option maxHeartbeats 8000000 in
theorem mesh1_calls (gf : Nat) (gfn : Func) (hgf : Try.prog.funcs[gf]? = some gfn) (hgn : (gfn.name == "runtime.NumGoroutine") = false) (hgb : gfn.body.isSome = true) (sel : S26 → Int)
    (hsel : ∀ (x : S26) (W : World), Calls Try.prog gf #[.agg #[.int .i64 x.f0, .int .i64 x.f1]] W fun e W' => e = .returned (.int .i64 (sel x)) ∧ Below W.heap.size W W')
    (Bp Bc : Nat) (pcs : Array Value) (Ar : Option Addr) (cr : Nat) (l : List S49) (A : Option Addr) (c : Nat) (cs : List S26) (w : World)
    (hp : w.heap[Bp]? = some (.cells pcs 47 (0, 0))) (h11 : pcs[11]? = some (.slice Ar l.length cr)) (hcb : w.heap[Bc]? = some (.cells #[.slice A cs.length c] 22 (0, 0)))
    (hr : Kd.C k49 w Ar l.length l) (hrc : Kd.C k26 w A cs.length cs) (hl : l.length ≤ maxLen) :
    Calls Try.prog 27 #[.func (.func gf) #[] #[], .pointer (some ⟨Bp, 0, none⟩), .pointer (some ⟨Bc, 0, none⟩)] w fun e w' => e = .returned (.int .i64 (msum sel cs l)) ∧ Below w.heap.size w w' := by
  have hq : w.cell? ⟨Bp, 11, none⟩ = some (.slice Ar l.length cr) := (blk_cell hp 11).trans h11
  have HCB := Aside0.mk hcb
  have HR := Aside0.mk hr
  have HRC := Aside0.mk hrc
  have HL := Aside0.mk hl
  have HS := Aside0.mk hsel
  have hu49 := Try.underlying49
  have hu26 := Try.underlying26
  clear hp h11 hcb hr hrc hl hsel
  go_enter Try.func27, Try.ntmps27
  go_wp2
  go_loopg [5, 11] l.length (fun g v5 v11 wr => ∃ (j : Nat) (n : Int), v5 = .int .i64 n ∧ v11 = .int .i64 j ∧ j + g = l.length ∧ Aside0 (n = (l.take j).foldl (fall sel cs) 0) ∧ Aside0 (I64 n) ∧ Aside0 (Below w.heap.size w wr))
  case atStart => exact ⟨0, 0, rfl, rfl, by omega, ⟨rfl⟩, ⟨by decide⟩, ⟨Below.refl _ _⟩⟩
  case round =>
    obtain ⟨j, n, rfl, rfl, hj, hn, hi, HB⟩ := hrel
    by_cases hlt : j < l.length
    · obtain ⟨g1, rfl⟩ : ∃ g1, gk = g1 + 1 := ⟨gk - 1, by omega⟩
      have hwj : wrap64 ((j : Int) + 1) = (j : Int) + 1 := by have := HL.out; unfold maxLen at this; unfold wrap64; omega
      obtain ⟨ad, hA, hx0, hx1⟩ := at_T49 HR.out (j : Int) (by omega) (by omega)
      subst hA
      replace hx0 := keep_cell HB.out hx0
      replace hx1 := keep_cell HB.out hx1
      simp only [Int.toNat_natCast] at hx0 hx1
      have kb : wr.cell? ⟨Bc, 0, none⟩ = some (.slice A cs.length c) := (blk_cell (blk_below HCB.out HB.out) 0).trans rfl
      have hstep : (l.take (j + 1)).foldl (fall sel cs) 0 = fall sel cs n (rd_T49 l (j : Int)) := by
        rw [C.take_step z49 _ _ _ _ hlt, ← hn.out]; rfl
      have HSTEP := Aside0.mk hstep
      clear hstep
      generalize rd_T49 l (j : Int) = C at hx0 hx1 HSTEP
      by_cases h0 : 0 ≤ C.f0
      · have b0 : decide (0 ≤ C.f0) = true := decide_eq_true h0
        by_cases h1 : C.f0 < (cs.length : Int)
        · have b1 : decide (C.f0 < (cs.length : Int)) = true := decide_eq_true h1
          have hfa : fall sel cs n C = sat (n + lit (sel (rd_T26 cs C.f0)) C.f1) := by unfold fall; rw [if_pos ⟨h0, h1⟩]
          obtain ⟨ad2, hA2, hy0, hy1⟩ := at_T26 HRC.out C.f0 h0 h1
          subst hA2
          replace hy0 := keep_cell HB.out hy0
          replace hy1 := keep_cell HB.out hy1
          generalize rd_T26 cs C.f0 = D at hy0 hy1 hfa
          have HFA := Aside0.mk hfa
          clear hfa
          have p0 : (0 ≤ C.f0) = True := eq_true h0
          have p1 : (C.f0 < (cs.length : Int)) = True := eq_true h1
          clear h0 h1
          go_wp2_with (((with_reducible refine gate_dst (N := 7) rfl ?_); refine new_event (N := 7) (t := 49) (z := #[.int .i64 0, .int .i64 0]) (cs := #[.int .i64 C.f0, .int .i64 C.f1]) rfl rfl rfl rfl rfl ?hr (fun _ => rfl) (fun _ => rfl) rfl (by kernel_rfl) rfl ?_; (case hr => first | (go_simp; done) | (go_simp; rfl)); intro gc hgc w1 hbox hb; have HX := Aside0.mk hbox; have k0 : w1.cell? ⟨gc, 0, none⟩ = some (.int .i64 C.f0) := (blk_cell hbox 0).trans rfl; have k1 : w1.cell? ⟨gc, 1, none⟩ = some (.int .i64 C.f1) := (blk_cell hbox 1).trans rfl; have kc := keep_cell hb kb; have ky0 := keep_cell hb hy0; have ky1 := keep_cell hb hy1; clear hy0 hy1; have HB1 := Aside0.mk (below_step HB.out hb); clear hb hbox hgc kb hx0 hx1))
          as_aux_lemma =>
          refine start_ (n := 13) (S := (fun w' => w'.cell? ⟨gc, 0, none⟩ = some (.int .i64 C.f0) ∧ w'.cell? ⟨gc, 1, none⟩ = some (.int .i64 C.f1) ∧ w'.cell? ⟨Bc, 0, none⟩ = some (.slice (some ad2) cs.length c) ∧ w'.cell? (ad2.add (C.f0.toNat * 2)) = some (.int .i64 D.f0) ∧ w'.cell? ⟨(ad2.add (C.f0.toNat * 2)).block, (ad2.add (C.f0.toNat * 2)).off + 1, none⟩ = some (.int .i64 D.f1))) (ds := []) #[false, false, false, false, false, false, false, false, false, false, false, false, false] (by kernel_rfl) rfl rfl ⟨k0, k1, kc, ky0, ky1⟩ (fun hHeld => ?_); refine with_tabW meshtab meshbits (fun HT_ HW_ => ?_)
          have HB2 := Aside0.mk (below_drew1 HB1.out)
          clear HB HB1 k0 k1 kc ky0 ky1 HX
          have HB := HB2
          clear HB2
          generalize w1.drew = w3 at HB hHeld ⊢
          as_aux_lemma =>
          refine pure_ (i := 0) (N := some 25) (v := ?_) (a' := ?_) #[true, false, false, false, false, false, false, false, false, false, false, false, false] rfl rfl (any_of HT_.out (by kernel_rfl)) (fun _ _ _ h => h) (Or.inl ⟨by rfl, ?_⟩) ?_ ?_
          rotate_left
          · intro w'
            go_simp
            with_reducible rfl
          rotate_left
          · simp only [Act.put, List.setIfInBounds_toArray, List.set_cons_zero, List.set_cons_succ, i64_w, i32_w]
            rfl
          as_aux_lemma =>
          refine pure_ (i := 1) (N := some 26) (v := ?_) (a' := ?_) #[true, true, false, false, false, false, false, false, false, false, false, false, false] rfl rfl (any_of HT_.out (by kernel_rfl)) (fun _ _ _ h => h) (Or.inl ⟨by rfl, ?_⟩) ?_ ?_
          rotate_left
          · intro w'
            go_simp
            with_reducible rfl
          rotate_left
          · simp only [Act.put, List.setIfInBounds_toArray, List.set_cons_zero, List.set_cons_succ, i64_w, i32_w]
            rfl
          as_aux_lemma =>
          refine pure_ (i := 3) (N := some 28) (v := ?_) (a' := ?_) #[true, true, false, true, false, false, false, false, false, false, false, false, false] rfl rfl (any_of HT_.out (by kernel_rfl)) (fun _ _ _ h => h) (Or.inl ⟨by rfl, ?_⟩) ?_ ?_
          rotate_left
          · intro w'
            go_simp
            with_reducible rfl
          rotate_left
          · simp only [Act.put, List.setIfInBounds_toArray, List.set_cons_zero, List.set_cons_succ, i64_w, i32_w]
            rfl
          as_aux_lemma =>
          refine pure_ (i := 8) (N := some 33) (v := ?_) (a' := ?_) #[true, true, false, true, false, false, false, false, true, false, false, false, false] rfl rfl (any_of HT_.out (by kernel_rfl)) (fun _ _ _ h => h) (Or.inl ⟨by rfl, ?_⟩) ?_ ?_
          rotate_left
          · intro w'
            go_simp
            with_reducible rfl
          rotate_left
          · simp only [Act.put, List.setIfInBounds_toArray, List.set_cons_zero, List.set_cons_succ, i64_w, i32_w]
            rfl
          as_aux_lemma =>
          refine take_ (i := 2) (N := some 27) (v := ?_) (a' := ?_) #[true, true, true, true, false, false, false, false, true, false, false, false, false] rfl rfl (take_ofW HT_.out HW_.out (by kernel_rfl)) (fun _ _ _ h => h) (Or.inl ⟨by rfl, ?_⟩) hHeld ?_ ?_
          rotate_left
          · rintro w' ⟨s0, s1, s2, s3, s4⟩
            go_simp
            with_reducible rfl
          rotate_left
          · simp only [Act.put, List.setIfInBounds_toArray, List.set_cons_zero, List.set_cons_succ, i64_w, i32_w]
            rfl
          as_aux_lemma =>
          refine take_ (i := 4) (N := some 29) (v := ?_) (a' := ?_) #[true, true, true, true, true, false, false, false, true, false, false, false, false] rfl rfl (take_ofW HT_.out HW_.out (by kernel_rfl)) (fun _ _ _ h => h) (Or.inl ⟨by rfl, ?_⟩) hHeld ?_ ?_
          rotate_left
          · rintro w' ⟨s0, s1, s2, s3, s4⟩
            go_simp
            with_reducible rfl
          rotate_left
          · simp only [Act.put, List.setIfInBounds_toArray, List.set_cons_zero, List.set_cons_succ, i64_w, i32_w]
            rfl
          as_aux_lemma =>
          refine pure_ (i := 5) (N := some 30) (v := ?_) (a' := ?_) #[true, true, true, true, true, true, false, false, true, false, false, false, false] rfl rfl (any_of HT_.out (by kernel_rfl)) (fun _ _ _ h => h) (Or.inl ⟨by rfl, ?_⟩) ?_ ?_
          rotate_left
          · intro w'
            go_simp
            with_reducible rfl
          rotate_left
          · simp only [Act.put, List.setIfInBounds_toArray, List.set_cons_zero, List.set_cons_succ, i64_w, i32_w]
            rfl
          as_aux_lemma =>
          refine take_ (i := 6) (N := some 31) (v := ?_) (a' := ?_) #[true, true, true, true, true, true, true, false, true, false, false, false, false] rfl rfl (take_ofW HT_.out HW_.out (by kernel_rfl)) (fun _ _ _ h => h) (Or.inl ⟨by rfl, ?_⟩) hHeld ?_ ?_
          rotate_left
          · rintro w' ⟨s0, s1, s2, s3, s4⟩
            go_simp
            with_reducible rfl
          rotate_left
          · simp only [Act.put, List.setIfInBounds_toArray, List.set_cons_zero, List.set_cons_succ, i64_w, i32_w]
            rfl
          as_aux_lemma =>
          refine take_ (i := 9) (N := some 34) (v := ?_) (a' := ?_) #[true, true, true, true, true, true, true, false, true, true, false, false, false] rfl rfl (take_ofW HT_.out HW_.out (by kernel_rfl)) (fun _ _ _ h => h) (Or.inl ⟨by rfl, ?_⟩) hHeld ?_ ?_
          rotate_left
          · rintro w' ⟨s0, s1, s2, s3, s4⟩
            go_simp
            with_reducible rfl
          rotate_left
          · simp only [Act.put, List.setIfInBounds_toArray, List.set_cons_zero, List.set_cons_succ, i64_w, i32_w]
            rfl
          as_aux_lemma =>
          refine one_ (i := 7) (N := some 32) #[true, true, true, true, true, true, true, true, true, true, false, false, false] rfl rfl (one_of HT_.out (by kernel_rfl)) (by decide) (fun K hK => ?_)
          refine goesV_ gf hgf hgn hgb #[.agg #[.int .i64 D.f0, .int .i64 D.f1]] (by rfl) rfl rfl rfl (by (try simp only [List.map_toArray, List.map_cons, List.map_nil]); first | done | rfl) ?_
          with_reducible refine (HS.out D _).mono ?_
          rintro e w4 ⟨rfl, hb⟩
          refine ⟨_, rfl, ?_⟩
          refine hK.out _ _ ⟨keep_cell hb hHeld.1, keep_cell hb hHeld.2.1, keep_cell hb hHeld.2.2.1, keep_cell hb hHeld.2.2.2.1, keep_cell hb hHeld.2.2.2.2⟩ (fun hHeld => ?_)
          have HB' := Aside0.mk (below_step HB.out hb)
          clear hK K HB hb
          have HB := HB'
          clear HB'
          as_aux_lemma =>
          refine norm_ (a' := ?_) ?_ ?_
          rotate_left
          · show Act.put _ (some 32) _ = _
            simp only [Act.put, List.setIfInBounds_toArray, List.set_cons_zero, List.set_cons_succ, i64_w, i32_w]
            rfl
          as_aux_lemma =>
          refine one_ (i := 10) (N := some 35) #[true, true, true, true, true, true, true, true, true, true, true, false, false] rfl rfl (one_of HT_.out (by kernel_rfl)) (by decide) (fun K hK => ?_)
          refine goes_ Try.func28 (by kernel_rfl) rfl #[.int .i64 (sel D), .int .i64 C.f1] (by rfl) rfl rfl (by (try simp only [List.map_toArray, List.map_cons, List.map_nil]); first | done | rfl) ?_
          with_reducible refine (litres_calls (sel D) C.f1 _).mono ?_
          rintro e w5 ⟨rfl, hb⟩
          refine ⟨_, rfl, ?_⟩
          refine hK.out _ _ ⟨keep_cell hb hHeld.1, keep_cell hb hHeld.2.1, keep_cell hb hHeld.2.2.1, keep_cell hb hHeld.2.2.2.1, keep_cell hb hHeld.2.2.2.2⟩ (fun hHeld => ?_)
          have HB' := Aside0.mk (below_step HB.out hb)
          clear hK K HB hb
          have HB := HB'
          clear HB'
          as_aux_lemma =>
          refine norm_ (a' := ?_) ?_ ?_
          rotate_left
          · show Act.put _ (some 35) _ = _
            simp only [Act.put, List.setIfInBounds_toArray, List.set_cons_zero, List.set_cons_succ, i64_w, i32_w]
            rfl
          as_aux_lemma =>
          refine one_ (i := 11) (N := some 36) #[true, true, true, true, true, true, true, true, true, true, true, true, false] rfl rfl (one_of HT_.out (by kernel_rfl)) (by decide) (fun K hK => ?_)
          refine goes_ Try.func24 (by kernel_rfl) rfl #[.int .i64 n, .int .i64 (lit (sel D) C.f1)] (by rfl) rfl rfl (by (try simp only [List.map_toArray, List.map_cons, List.map_nil]); first | done | rfl) ?_
          with_reducible refine (add_calls n (lit (sel D) C.f1) _ hi.out (Go.Proofs.Ytcdlielgifkemaa.C.lit_i64 _ _)).mono ?_
          rintro e w6 ⟨rfl, hb⟩
          refine ⟨_, rfl, ?_⟩
          refine hK.out _ _ ⟨keep_cell hb hHeld.1, keep_cell hb hHeld.2.1, keep_cell hb hHeld.2.2.1, keep_cell hb hHeld.2.2.2.1, keep_cell hb hHeld.2.2.2.2⟩ (fun hHeld => ?_)
          have HB' := Aside0.mk (below_step HB.out hb)
          clear hK K HB hb
          have HB := HB'
          clear HB'
          as_aux_lemma =>
          refine norm_ (a' := ?_) ?_ ?_
          rotate_left
          · show Act.put _ (some 36) _ = _
            simp only [Act.put, List.setIfInBounds_toArray, List.set_cons_zero, List.set_cons_succ, i64_w, i32_w]
            rfl
          as_aux_lemma =>
          refine pure_ (i := 12) (N := some 5) (v := ?_) (a' := ?_) #[true, true, true, true, true, true, true, true, true, true, true, true, true] rfl rfl (any_of HT_.out (by kernel_rfl)) (fun _ _ _ h => h) (Or.inl ⟨by rfl, ?_⟩) ?_ ?_
          rotate_left
          · intro w'
            go_simp
            with_reducible rfl
          rotate_left
          · simp only [Act.put, List.setIfInBounds_toArray, List.set_cons_zero, List.set_cons_succ, i64_w, i32_w]
            rfl
          refine done_ (done_of HT_.out (by kernel_rfl)) ?_
          go_wp2
          go_roundg g1
          case measure => omega
          case rel => exact ⟨j + 1, sat (n + lit (sel D) C.f1), rfl, by go_num, by omega, ⟨by rw [HSTEP.out, HFA.out]⟩, ⟨sat_range _⟩, HB⟩
        · have b1 : decide (C.f0 < (cs.length : Int)) = false := decide_eq_false h1
          have hfa : fall sel cs n C = n := by unfold fall; rw [if_neg (fun hh => h1 hh.2)]
          have HFA := Aside0.mk hfa
          clear hfa h0 h1
          go_wp2_with (((with_reducible refine gate_dst (N := 7) rfl ?_); refine new_event (N := 7) (t := 49) (z := #[.int .i64 0, .int .i64 0]) (cs := #[.int .i64 C.f0, .int .i64 C.f1]) rfl rfl rfl rfl rfl ?hr (fun _ => rfl) (fun _ => rfl) rfl (by kernel_rfl) rfl ?_; (case hr => first | (go_simp; done) | (go_simp; rfl)); intro gc hgc w1 hbox hb; have HX := Aside0.mk hbox; have k0 : w1.cell? ⟨gc, 0, none⟩ = some (.int .i64 C.f0) := (blk_cell hbox 0).trans rfl; have k1 : w1.cell? ⟨gc, 1, none⟩ = some (.int .i64 C.f1) := (blk_cell hbox 1).trans rfl; have kc := keep_cell hb kb; have HB1 := Aside0.mk (below_step HB.out hb); clear hb hbox hgc kb hx0 hx1))
          go_roundg g1
          case measure => omega
          case rel => exact ⟨j + 1, n, rfl, by go_num, by omega, ⟨by rw [HSTEP.out, HFA.out]⟩, hi, HB1⟩
      · have b0 : decide (0 ≤ C.f0) = false := decide_eq_false h0
        have hfa : fall sel cs n C = n := by unfold fall; rw [if_neg (fun hh => h0 hh.1)]
        have HFA := Aside0.mk hfa
        clear hfa h0
        go_wp2_with (((with_reducible refine gate_dst (N := 7) rfl ?_); refine new_event (N := 7) (t := 49) (z := #[.int .i64 0, .int .i64 0]) (cs := #[.int .i64 C.f0, .int .i64 C.f1]) rfl rfl rfl rfl rfl ?hr (fun _ => rfl) (fun _ => rfl) rfl (by kernel_rfl) rfl ?_; (case hr => first | (go_simp; done) | (go_simp; rfl)); intro gc hgc w1 hbox hb; have HX := Aside0.mk hbox; have k0 : w1.cell? ⟨gc, 0, none⟩ = some (.int .i64 C.f0) := (blk_cell hbox 0).trans rfl; have k1 : w1.cell? ⟨gc, 1, none⟩ = some (.int .i64 C.f1) := (blk_cell hbox 1).trans rfl; have kc := keep_cell hb kb; have HB1 := Aside0.mk (below_step HB.out hb); clear hb hbox hgc kb hx0 hx1))
        go_roundg g1
        case measure => omega
        case rel => exact ⟨j + 1, n, rfl, by go_num, by omega, ⟨by rw [HSTEP.out, HFA.out]⟩, hi, HB1⟩
    · have hfin : msum sel cs l = if (1125899906842624 : Int) < n then 1125899906842624 else n := by
        have := hn.out
        rw [List.take_of_length_le (by omega)] at this
        unfold msum mn
        rw [this]
      by_cases hv : (1125899906842624 : Int) < n
      · have hvb : decide ((1125899906842624 : Int) < n) = true := decide_eq_true hv
        have HF : Aside0 (Ending.returned (.int .i64 1125899906842624) = .returned (.int .i64 (msum sel cs l))) := ⟨by rw [hfin, if_pos hv]⟩
        clear hfin
        go_wp2
        go_ret
        exact ⟨HF.out, HB.out⟩
      · have hvb : decide ((1125899906842624 : Int) < n) = false := decide_eq_false hv
        have HF : Aside0 (Ending.returned (.int .i64 n) = .returned (.int .i64 (msum sel cs l))) := ⟨by rw [hfin, if_neg hv]⟩
        clear hfin
        go_wp2
        go_ret
        exact ⟨HF.out, HB.out⟩
theorem load_any {P : Program} (w : World) (a : Addr) (ty : TypeId) (cs : List Value) (d : TypeDesc) (hc : ∀ j v, cs[j]? = some v → w.cell? (a.add j) = some v)
    (hu : P.underlying ty = some d) (hd : d.isRow = true) (hi : (P.info? ty).map (·.size) = some cs.length) : (Instr.loadAt ty (.pointer (some a))).run P w = .ok (.agg cs.toArray) w := by
  have hl : (loadCells a cs.length).run P w = .ok cs.toArray w := run_loadCells_list (P := P) w a cs hc
  have hv : (loadVar ty a).run P w = .ok (.agg cs.toArray) w := by
    cases hq : P.info? ty with
    | none => simp [hq] at hi
    | some i =>
      have hs : i.size = cs.length := by simpa [hq] using hi
      have hagg : (isAgg ty).run P w = .ok true w := by
        unfold isAgg
        rw [Sem.run_bind, run_underlying hu w]
        cases d <;> simp_all
      simp [loadVar, Sem.run_bind, hagg, sizeOf, typeInfo, hq, hs, hl]
  simp only [Instr.loadAt, Instr.sureAddr, Sem.run_bind, Sem.run_pure, Result.andThen_ok, hv]
theorem place_open {w : World} {x : S47} {cs : List Value} (h : k47.K w x cs) : cs.length = 12 ∧ cs.all (·.oneCell') = true ∧ ∃ A c, cs[11]? = some (.slice A x.f11.length c) ∧ Kd.C k49 w A x.f11.length x.f11 := by
  obtain ⟨A4, c4, A5, c5, A11, c11, rfl, l4, g4, l5, g5, l11, g11⟩ := k47_open h
  exact ⟨rfl, rfl, _, _, rfl, g11⟩
theorem mesh_snoc (ps : List S47) (cs : List S26) (i : Nat) (h : i < ps.length) : mesh (ps.take i) cs ++ [(⟨msum S26.f0 cs (ps.getD i z47).f11, msum S26.f1 cs (ps.getD i z47).f11⟩ : S26)] = mesh (ps.take (i + 1)) cs := by
  rw [List.take_succ_eq_append_getElem h, List.getD_eq_getElem?_getD, List.getElem?_eq_getElem h]
  unfold mesh
  rw [List.map_append]; rfl
def rain_Mesh.f (a0_0 : ByteArray) (l0_1 : List ByteArray) (a0_2 : Int) (l0_3 : List (S47)) (l0_4 : List (S104)) (l0_5 : List (S106)) (l0_6 : List (S67)) (l0_7 : List (S108)) (l0_8 : List (S110)) (l0_9 : List Int) (a0_10 : Int) (l1 : List (S26)) : Option ((List (S26))) := if l0_3.length < 8796093022208 ∧ Short l0_3 then some (mesh l0_3 l1) else none
set_option maxRecDepth 100000 in
set_option maxHeartbeats 8000000 in
theorem rain_Mesh.calls (a0_0 : ByteArray) (A0_1 : Option Addr) (c0_1 : Nat) (l0_1 : List ByteArray) (a0_2 : Int) (A0_3 : Option Addr) (c0_3 : Nat) (l0_3 : List (S47)) (A0_4 : Option Addr) (c0_4 : Nat) (l0_4 : List (S104)) (A0_5 : Option Addr) (c0_5 : Nat) (l0_5 : List (S106)) (A0_6 : Option Addr) (c0_6 : Nat) (l0_6 : List (S67)) (A0_7 : Option Addr) (c0_7 : Nat) (l0_7 : List (S108)) (A0_8 : Option Addr) (c0_8 : Nat) (l0_8 : List (S110)) (A0_9 : Option Addr) (c0_9 : Nat) (l0_9 : List Int) (a0_10 : Int) (A1 : Option Addr) (c1 : Nat) (l1 : List (S26)) (r : List (S26)) (w : World) (hr0_1 : Kd.C Kd.string w A0_1 l0_1.length l0_1) (hc0_1 : l0_1.length ≤ c0_1) (hr0_3 : Kd.C k47 w A0_3 l0_3.length l0_3) (hc0_3 : l0_3.length ≤ c0_3) (hr0_4 : Kd.C k104 w A0_4 l0_4.length l0_4) (hc0_4 : l0_4.length ≤ c0_4) (hr0_5 : Kd.C k106 w A0_5 l0_5.length l0_5) (hc0_5 : l0_5.length ≤ c0_5) (hr0_6 : Kd.C k67 w A0_6 l0_6.length l0_6) (hc0_6 : l0_6.length ≤ c0_6) (hr0_7 : Kd.C k108 w A0_7 l0_7.length l0_7) (hc0_7 : l0_7.length ≤ c0_7) (hr0_8 : Kd.C k110 w A0_8 l0_8.length l0_8) (hc0_8 : l0_8.length ≤ c0_8) (hr0_9 : Kd.C (Kd.int .i64) w A0_9 l0_9.length l0_9) (hc0_9 : l0_9.length ≤ c0_9) (hr1 : Kd.C k26 w A1 l1.length l1) (hc1 : l1.length ≤ c1) (h : rain_Mesh.f a0_0 l0_1 a0_2 l0_3 l0_4 l0_5 l0_6 l0_7 l0_8 l0_9 a0_10 l1 = some r) :
  Calls Try.prog 15 #[.agg #[.string a0_0, .slice A0_1 l0_1.length c0_1, .int .i64 a0_2, .slice A0_3 l0_3.length c0_3, .slice A0_4 l0_4.length c0_4, .slice A0_5 l0_5.length c0_5, .slice A0_6 l0_6.length c0_6, .slice A0_7 l0_7.length c0_7, .slice A0_8 l0_8.length c0_8, .slice A0_9 l0_9.length c0_9, .int .i64 a0_10], .slice A1 l1.length c1] w fun e w' => ∃ v0_ : Value, e = .returned (v0_) ∧ Kd.R k26 26 w' w.heap.size (fun _ => True) v0_ r ∧ Below w.heap.size w w' := by
  unfold rain_Mesh.f at h
  split at h
  rotate_left
  · cases h
  rename_i hgd
  obtain rfl := Option.some.inj h
  have LM := Aside0.mk hgd.1
  have HSH := Aside0.mk hgd.2
  have HR1 := Aside0.mk hr1
  have HR3 := Aside0.mk hr0_3
  clear h hgd hr1 hc1 hr0_3 hc0_3 hr0_1 hc0_1 hr0_4 hc0_4 hr0_5 hc0_5 hr0_6 hc0_6 hr0_7 hc0_7 hr0_8 hc0_8 hr0_9 hc0_9
  have HB := Aside0.mk (Below.refl w.heap.size w)
  have hu26 := Try.underlying26
  go_enter Try.func15, Try.ntmps15
  go_wp2_with (first | ((with_reducible refine gate_dst (N := 2) rfl ?_); refine box_event ?hg (N := 2) ?hd (cs := #[.string a0_0, .slice A0_1 l0_1.length c0_1, .int .i64 a0_2, .slice A0_3 l0_3.length c0_3, .slice A0_4 l0_4.length c0_4, .slice A0_5 l0_5.length c0_5, .slice A0_6 l0_6.length c0_6, .slice A0_7 l0_7.length c0_7, .slice A0_8 l0_8.length c0_8, .slice A0_9 l0_9.length c0_9, .int .i64 a0_10]) (t := 41) ?hr ?_; (case hd => rfl); (case hg => rfl); (case hr => first | (go_simp; done) | (go_simp; rfl)); intro gb hgb w1 hbox hb; have kpl : w1.cell? ⟨gb, 3, none⟩ = some (.slice A0_3 l0_3.length c0_3) := (blk_cell hbox 3).trans rfl; have HB1 := Aside0.mk (below_step HB.out hb); clear HB; have HB := HB1; clear HB1 hb hgb hbox) | ((with_reducible refine gate_dst (N := 3) rfl ?_); refine box_event ?hg (N := 3) ?hd (cs := #[.slice A1 l1.length c1]) (t := 22) ?hr ?_; (case hd => rfl); (case hg => rfl); (case hr => first | (go_simp; done) | (go_simp; rfl)); intro gcb hgcb w2 hbox hb; have kpl2 := keep_cell hb kpl; have BC := Aside0.mk hbox; have HB1 := Aside0.mk (below_step HB.out hb); clear HB; have HB := HB1; clear HB1 hb hgcb hbox kpl))
  go_loopg [5, 12] l0_3.length (fun g v5 v12 wr => ∃ i : Nat, v12 = .int .i64 i ∧ i + g = l0_3.length ∧ Aside0 (Kd.R k26 26 wr w.heap.size (fun _ => True) v5 (mesh (l0_3.take i) l1)) ∧ Aside0 (wr.heap[gcb]? = some (.cells #[.slice A1 l1.length c1] 22 (0, 0))) ∧ Aside0 (Below w.heap.size w wr))
  case atStart => exact ⟨0, rfl, by omega, ⟨Kd.R_nil _ _ _ _ _⟩, BC, HB⟩
  case round =>
    clear BC HB kpl2
    obtain ⟨i, rfl, hi, HO, BC, HB⟩ := hrel
    by_cases hlt : i < l0_3.length
    · obtain ⟨g1, rfl⟩ : ∃ g1, gk = g1 + 1 := ⟨gk - 1, by omega⟩
      have hwi : wrap64 ((i : Int) + 1) = (i : Int) + 1 := by have := LM.out; unfold wrap64; omega
      obtain ⟨ad, cc, hA, hcl, hK, hcells⟩ := Kd.C_get HR3.out z47 (i : Int) (by omega) (by omega)
      subst hA
      have HE := Aside0.mk (mesh_snoc l0_3 l1 i hlt)
      have HLN : Aside0 ((mesh (l0_3.take i) l1).length < 8796093022208) := ⟨by have := LM.out; unfold mesh; rw [List.length_map, List.length_take]; omega⟩
      have HL11 := Aside0.mk (C.short_at HSH.out i hlt)
      have hK2 : k47.K w (l0_3.getD i z47) cc := hK
      generalize l0_3.getD i z47 = P at hK2 HE HL11
      obtain ⟨hlen, hone, A11, c11, h11, hr11⟩ := place_open hK2
      have H11 : Aside0 (cc.toArray[11]? = some (.slice A11 P.f11.length c11)) := ⟨by rw [List.getElem?_toArray]; exact h11⟩
      have HR11 := Aside0.mk hr11
      have hload : (Instr.loadAt 47 (.pointer (some (ad.add (i * 12))))).run Try.prog wr = .ok (.agg cc.toArray) wr := by
        refine load_any wr _ 47 cc _ (fun j v hj => keep_cell HB.out ?_) Try.underlying47 rfl (by rw [hlen]; kernel_rfl)
        rw [Addr.add_add]
        exact hcells j v hj
      have HLD := Aside0.mk hload
      have HZ : Aside0 ((#[.string (⟨#[]⟩ : ByteArray), .int .i64 0, .int .i64 0, .int .i64 0, .slice none 0 0, .slice none 0 0, .int .i64 0, .int .i64 0, .int .i64 0, .int .i64 0, .int .i64 0, .slice none 0 0] : Array Value).size = cc.toArray.size) := ⟨by show (12 : Nat) = cc.toArray.size; rw [List.size_toArray, hlen]⟩
      have HI : Aside0 ((Try.prog.info? 47).map (·.size) = some cc.toArray.size) := ⟨by rw [List.size_toArray, hlen]; kernel_rfl⟩
      have HON : Aside0 (cc.toArray.toList.all (·.oneCell') = true) := ⟨hone⟩
      clear hK hK2 hcells hcl hlen hone h11 hr11 hload
      go_wp2_with (first | ((with_reducible refine gate_dst (N := 15) rfl ?_); refine Kd.event_run rfl (exec_load (p := .pointer (some (ad.add (i * 12)))) rfl rfl HLD.out) ?_; clear HLD) | ((with_reducible refine gate_dst (N := 7) rfl ?_); refine new_event (N := 7) (t := 47) (z := #[.string (⟨#[]⟩ : ByteArray), .int .i64 0, .int .i64 0, .int .i64 0, .slice none 0 0, .slice none 0 0, .int .i64 0, .int .i64 0, .int .i64 0, .int .i64 0, .int .i64 0, .slice none 0 0]) (cs := cc.toArray) rfl rfl rfl rfl rfl ?hr (fun _ => rfl) (fun _ => rfl) HZ.out HI.out HON.out ?_; (case hr => first | (go_simp; done) | (go_simp; rfl)); intro gp hgp w3 hbox hb; have HP := Aside0.mk hbox; have n1 := Aside0.mk (blk_below BC.out hb); have n2 := Aside0.mk (Kd.R_below HO.out hb); have n3 := Aside0.mk (below_step HB.out hb); clear BC HO HB hb hbox hgp; have BC := n1; have HO := n2; have HB := n3; clear n1 n2 n3) | (go_at_call 27; (with_reducible refine (mesh1_calls 29 _ Try.func29 rfl rfl S26.f0 mesh2_calls gp gcb cc.toArray _ _ P.f11 A1 c1 l1 _ HP.out H11.out BC.out (Kd.C_below HR11.out HB.out) (Kd.C_below HR1.out HB.out) HL11.out).mono ?_); rintro e w4 ⟨rfl, hb⟩; have n0 := Aside0.mk (blk_below HP.out hb); have n1 := Aside0.mk (blk_below BC.out hb); have n2 := Aside0.mk (Kd.R_below HO.out hb); have n3 := Aside0.mk (below_step HB.out hb); clear HP BC HO HB hb; have HP := n0; have BC := n1; have HO := n2; have HB := n3; clear n0 n1 n2 n3) | (go_at_call 27; (with_reducible refine (mesh1_calls 30 _ Try.func30 rfl rfl S26.f1 mesh3_calls gp gcb cc.toArray _ _ P.f11 A1 c1 l1 _ HP.out H11.out BC.out (Kd.C_below HR11.out HB.out) (Kd.C_below HR1.out HB.out) HL11.out).mono ?_); rintro e w5 ⟨rfl, hb⟩; have n0 := Aside0.mk (blk_below HP.out hb); have n1 := Aside0.mk (blk_below BC.out hb); have n2 := Aside0.mk (Kd.R_below HO.out hb); have n3 := Aside0.mk (below_step HB.out hb); clear HP BC HO HB hb; have HP := n0; have BC := n1; have HO := n2; have HB := n3; clear n0 n1 n2 n3) | ((with_reducible refine gate_builtin (b := .append) (xs := #[.tmp 17, .tmp 23]) rfl ?_); (at_builtin; refine Kd.R_append k26 (w0 := w) w.heap.size rfl (.tmp 17) (.tmp 23) 22 26 (.agg #[(.int .i64 0), (.int .i64 0)]) 16 rfl Try.underlying22 Go.Proofs.Ytcdlielgifkemaa.C.info26 rfl (by decide) (by omega) u5 (mesh (l0_3.take i) l1) (⟨msum S26.f0 l1 P.f11, msum S26.f1 l1 P.f11⟩ : S26) [.int .i64 (msum S26.f0 l1 P.f11), .int .i64 (msum S26.f1 l1 P.f11)] (fun _ => True) (fun _ => False) rfl rfl ?aP (fun _ hk => hk.elim) ?aF ?aO ?aB ?aS ?aL ?_; (case aP => exact k26_mkM _ _ _ (⟨msum S26.f0 l1 P.f11, msum S26.f1 l1 P.f11⟩ : S26)); (case aB => exact ahx); (case aF => exact (fun _ _ => trivial)); (case aO => exact (by (with_reducible repeat (first | apply Kd.R_alloc | apply Kd.R_drewN | apply Kd.R_drew)); exact HO.out)); (case aS => exact (below_size ahx)); (case aL => have := HLN.out; omega); intro v9 w9 ho hb hg hat; rw [HE.out] at ho; have n0 := Aside0.mk (blk_grown (g := gcb) (o := .cells #[.slice A1 l1.length c1] 22 (0, 0)) abx hg (Kd.R_ne HO.out BC.out (by decide))); have n1 := Aside0.mk hb; have n2 := Aside0.mk ho; clear BC HB HO HP; have BC := n0; have HB := n1; have HO := n2; clear n0 n1 n2; clear ho hb hg hat)))
      go_roundg g1
      case measure => omega
      case rel => exact ⟨i + 1, by go_num, by omega, HO, BC, HB⟩
    · have e : l0_3.take i = l0_3 := List.take_of_length_le (by omega)
      rw [e] at HO
      go_wp2
      go_ret
      exact ⟨_, rfl, HO.out, HB.out⟩
end Go.Proofs.Ytcdlielgifkemaa.S
