/- A region of seep.Maybe's round that draws its order of evaluation: whatever the order, the least and the greatest state are stored. -/
import Derived.Test.YtndancjnfdhbfaaTy
namespace Go.Proofs.Ytndancjnfdhbfaa.S
open Go.RowKit Go.Shelf Go.Proofs.YtndancjnfdhbfaaW.PrintWords Go.Proofs.YtndancjnfdhbfaaW.PrintMore
attribute [local go_sem] Oper.semAt_some max2_int min2_int max_two min_two
set_option linter.unusedVariables false
set_option linter.unusedSimpArgs false
/-- the operations of a region -/
noncomputable def regOps (k : Nat) : Code → Array Oper
  | .region id ops _ => if id = k then ops else #[]
  | .seq a b => regOps k a ++ regOps k b
  | .cond _ a b => regOps k a ++ regOps k b
  | .block _ c => regOps k c
  | .loop c => regOps k c
  | .rangeFunc _ _ a b => regOps k a ++ regOps k b
  | _ => #[]
noncomputable def ops13 : Array Oper := match Try.f16.body with
  | some c => regOps 13 c
  | none => #[]
set_option maxRecDepth 100000 in
set_option maxHeartbeats 8000000 in
theorem reg13_any (ops : Array Oper) (hops : ops13 = ops) (l S : Nat) (u v n : Int) (t0 t1 t2 t3 t4 t5 t6 t9 t10 t12 t13 t14 t15 t16 t17 t18 t19 t20 t21 t22 t23 t24 t25 t26 t27 t28 t29 t30 t31 t32 t33 t34 t35 t36 t37 t38 t39 t40 t41 t42 t43 t44 t45 t46 t47 t48 t49 : Value) (w : World) (Q : Exit → Act → World → Prop)
    (c0 : w.cell? ⟨S, 0, none⟩ = some (.int .i64 u)) (c1 : w.cell? ⟨S + 1, 0, none⟩ = some (.int .i64 v)) (f0 : w.frozen? ⟨S, 0, none⟩ = false) (f1 : w.frozen? ⟨S + 1, 0, none⟩ = false)
    (hQ : Q .normal { tmps := #[t0, t1, t2, t3, t4, t5, t6, .pointer (some ⟨S, 0, none⟩), .pointer (some ⟨S + 1, 0, none⟩), t9, t10, .int .i64 n, t12, t13, t14, t15, t16, t17, t18, t19, t20, t21, t22, t23, t24, t25, t26, t27, t28, t29, t30, t31, t32, t33, t34, .int .i64 u, .int .i64 n, .int .i64 (mn u n), .int .i64 v, .int .i64 n, .int .i64 (mx v n), t41, t42, t43, t44, t45, t46, t47, t48, t49], defers := [] } ((w.setCell ⟨S, 0, none⟩ (.int .i64 (mn u n))).setCell ⟨S + 1, 0, none⟩ (.int .i64 (mx v n)))) :
    wpAnyIn (Fence.wide.inRound l) 4 Try.prog .any ops Q 8 #[false, false, false, false, false, false, false, false] { tmps := #[t0, t1, t2, t3, t4, t5, t6, .pointer (some ⟨S, 0, none⟩), .pointer (some ⟨S + 1, 0, none⟩), t9, t10, .int .i64 n, t12, t13, t14, t15, t16, t17, t18, t19, t20, t21, t22, t23, t24, t25, t26, t27, t28, t29, t30, t31, t32, t33, t34, t35, t36, t37, t38, t39, t40, t41, t42, t43, t44, t45, t46, t47, t48, t49], defers := [] } w := by
  simp only [ops13, Try.f16, regOps, Array.empty_append, Array.append_empty, if_true, if_false, Nat.reduceEqDiff, reduceIte] at hops
  have e0 := congrArg (fun o : Array Oper => o[0]?) hops
  simp only [List.getElem?_toArray, List.getElem?_cons_zero, List.getElem?_cons_succ] at e0
  have e1 := congrArg (fun o : Array Oper => o[1]?) hops
  simp only [List.getElem?_toArray, List.getElem?_cons_zero, List.getElem?_cons_succ] at e1
  have e2 := congrArg (fun o : Array Oper => o[2]?) hops
  simp only [List.getElem?_toArray, List.getElem?_cons_zero, List.getElem?_cons_succ] at e2
  have e3 := congrArg (fun o : Array Oper => o[3]?) hops
  simp only [List.getElem?_toArray, List.getElem?_cons_zero, List.getElem?_cons_succ] at e3
  have e4 := congrArg (fun o : Array Oper => o[4]?) hops
  simp only [List.getElem?_toArray, List.getElem?_cons_zero, List.getElem?_cons_succ] at e4
  have e5 := congrArg (fun o : Array Oper => o[5]?) hops
  simp only [List.getElem?_toArray, List.getElem?_cons_zero, List.getElem?_cons_succ] at e5
  have e6 := congrArg (fun o : Array Oper => o[6]?) hops
  simp only [List.getElem?_toArray, List.getElem?_cons_zero, List.getElem?_cons_succ] at e6
  have e7 := congrArg (fun o : Array Oper => o[7]?) hops
  simp only [List.getElem?_toArray, List.getElem?_cons_zero, List.getElem?_cons_succ] at e7
  have s01234567 : wpAnyIn (Fence.wide.inRound l) 4 Try.prog .any ops Q 0 #[true, true, true, true, true, true, true, true] { tmps := #[t0, t1, t2, t3, t4, t5, t6, .pointer (some ⟨S, 0, none⟩), .pointer (some ⟨S + 1, 0, none⟩), t9, t10, .int .i64 n, t12, t13, t14, t15, t16, t17, t18, t19, t20, t21, t22, t23, t24, t25, t26, t27, t28, t29, t30, t31, t32, t33, t34, .int .i64 u, .int .i64 n, .int .i64 (mn u n), .int .i64 v, .int .i64 n, .int .i64 (mx v n), t41, t42, t43, t44, t45, t46, t47, t48, t49], defers := [] } ((w.setCell ⟨S, 0, none⟩ (.int .i64 (mn u n))).setCell ⟨S + 1, 0, none⟩ (.int .i64 (mx v n))) := by
    as_aux_lemma =>
    exact wpAnyIn_done (by rw [← hops]; kernel_rfl) hQ _
  have s0123456 : wpAnyIn (Fence.wide.inRound l) 4 Try.prog .any ops Q 1 #[true, true, true, true, true, true, true, false] { tmps := #[t0, t1, t2, t3, t4, t5, t6, .pointer (some ⟨S, 0, none⟩), .pointer (some ⟨S + 1, 0, none⟩), t9, t10, .int .i64 n, t12, t13, t14, t15, t16, t17, t18, t19, t20, t21, t22, t23, t24, t25, t26, t27, t28, t29, t30, t31, t32, t33, t34, .int .i64 u, .int .i64 n, .int .i64 (mn u n), .int .i64 v, .int .i64 n, .int .i64 (mx v n), t41, t42, t43, t44, t45, t46, t47, t48, t49], defers := [] } (w.setCell ⟨S, 0, none⟩ (.int .i64 (mn u n))) := by
    as_aux_lemma =>
    refine wpAnyIn_ready (rs := [7]) (by rw [← hops]; kernel_rfl) (by simp) ?_
    refine AllReadyIn.cons e7.symm (fun K hK => ?_) ?_
    · go_simp
      exact hK _ _ s01234567
    exact AllReadyIn.nil
  have s012346 : wpAnyIn (Fence.wide.inRound l) 4 Try.prog .any ops Q 2 #[true, true, true, true, true, false, true, false] { tmps := #[t0, t1, t2, t3, t4, t5, t6, .pointer (some ⟨S, 0, none⟩), .pointer (some ⟨S + 1, 0, none⟩), t9, t10, .int .i64 n, t12, t13, t14, t15, t16, t17, t18, t19, t20, t21, t22, t23, t24, t25, t26, t27, t28, t29, t30, t31, t32, t33, t34, .int .i64 u, .int .i64 n, .int .i64 (mn u n), .int .i64 v, .int .i64 n, t40, t41, t42, t43, t44, t45, t46, t47, t48, t49], defers := [] } (w.setCell ⟨S, 0, none⟩ (.int .i64 (mn u n))) := by
    as_aux_lemma =>
    refine wpAnyIn_ready (rs := [5]) (by rw [← hops]; kernel_rfl) (by simp) ?_
    refine AllReadyIn.cons e5.symm (fun K hK => ?_) ?_
    · go_simp
      exact hK _ _ s0123456
    exact AllReadyIn.nil
  have s012345 : wpAnyIn (Fence.wide.inRound l) 4 Try.prog .any ops Q 2 #[true, true, true, true, true, true, false, false] { tmps := #[t0, t1, t2, t3, t4, t5, t6, .pointer (some ⟨S, 0, none⟩), .pointer (some ⟨S + 1, 0, none⟩), t9, t10, .int .i64 n, t12, t13, t14, t15, t16, t17, t18, t19, t20, t21, t22, t23, t24, t25, t26, t27, t28, t29, t30, t31, t32, t33, t34, .int .i64 u, .int .i64 n, .int .i64 (mn u n), .int .i64 v, .int .i64 n, .int .i64 (mx v n), t41, t42, t43, t44, t45, t46, t47, t48, t49], defers := [] } w := by
    as_aux_lemma =>
    refine wpAnyIn_ready (rs := [6]) (by rw [← hops]; kernel_rfl) (by simp) ?_
    refine AllReadyIn.cons e6.symm (fun K hK => ?_) ?_
    · go_simp
      exact hK _ _ s0123456
    exact AllReadyIn.nil
  have s01345 : wpAnyIn (Fence.wide.inRound l) 4 Try.prog .any ops Q 3 #[true, true, false, true, true, true, false, false] { tmps := #[t0, t1, t2, t3, t4, t5, t6, .pointer (some ⟨S, 0, none⟩), .pointer (some ⟨S + 1, 0, none⟩), t9, t10, .int .i64 n, t12, t13, t14, t15, t16, t17, t18, t19, t20, t21, t22, t23, t24, t25, t26, t27, t28, t29, t30, t31, t32, t33, t34, .int .i64 u, .int .i64 n, t37, .int .i64 v, .int .i64 n, .int .i64 (mx v n), t41, t42, t43, t44, t45, t46, t47, t48, t49], defers := [] } w := by
    as_aux_lemma =>
    refine wpAnyIn_ready (rs := [2]) (by rw [← hops]; kernel_rfl) (by simp) ?_
    refine AllReadyIn.cons e2.symm (fun K hK => ?_) ?_
    · go_simp
      exact hK _ _ s012345
    exact AllReadyIn.nil
  have s01234 : wpAnyIn (Fence.wide.inRound l) 4 Try.prog .any ops Q 3 #[true, true, true, true, true, false, false, false] { tmps := #[t0, t1, t2, t3, t4, t5, t6, .pointer (some ⟨S, 0, none⟩), .pointer (some ⟨S + 1, 0, none⟩), t9, t10, .int .i64 n, t12, t13, t14, t15, t16, t17, t18, t19, t20, t21, t22, t23, t24, t25, t26, t27, t28, t29, t30, t31, t32, t33, t34, .int .i64 u, .int .i64 n, .int .i64 (mn u n), .int .i64 v, .int .i64 n, t40, t41, t42, t43, t44, t45, t46, t47, t48, t49], defers := [] } w := by
    as_aux_lemma =>
    refine wpAnyIn_ready (rs := [5, 6]) (by rw [← hops]; kernel_rfl) (by simp) ?_
    refine AllReadyIn.cons e5.symm (fun K hK => ?_) ?_
    · go_simp
      exact hK _ _ s012345
    refine AllReadyIn.cons e6.symm (fun K hK => ?_) ?_
    · go_simp
      exact hK _ _ s012346
    exact AllReadyIn.nil
  have s01246 : wpAnyIn (Fence.wide.inRound l) 4 Try.prog .any ops Q 3 #[true, true, true, false, true, false, true, false] { tmps := #[t0, t1, t2, t3, t4, t5, t6, .pointer (some ⟨S, 0, none⟩), .pointer (some ⟨S + 1, 0, none⟩), t9, t10, .int .i64 n, t12, t13, t14, t15, t16, t17, t18, t19, t20, t21, t22, t23, t24, t25, t26, t27, t28, t29, t30, t31, t32, t33, t34, .int .i64 u, .int .i64 n, .int .i64 (mn u n), t38, .int .i64 n, t40, t41, t42, t43, t44, t45, t46, t47, t48, t49], defers := [] } (w.setCell ⟨S, 0, none⟩ (.int .i64 (mn u n))) := by
    as_aux_lemma =>
    refine wpAnyIn_ready (rs := [3]) (by rw [← hops]; kernel_rfl) (by simp) ?_
    refine AllReadyIn.cons e3.symm (fun K hK => ?_) ?_
    · go_simp
      exact hK _ _ s012346
    exact AllReadyIn.nil
  have s01236 : wpAnyIn (Fence.wide.inRound l) 4 Try.prog .any ops Q 3 #[true, true, true, true, false, false, true, false] { tmps := #[t0, t1, t2, t3, t4, t5, t6, .pointer (some ⟨S, 0, none⟩), .pointer (some ⟨S + 1, 0, none⟩), t9, t10, .int .i64 n, t12, t13, t14, t15, t16, t17, t18, t19, t20, t21, t22, t23, t24, t25, t26, t27, t28, t29, t30, t31, t32, t33, t34, .int .i64 u, .int .i64 n, .int .i64 (mn u n), .int .i64 v, t39, t40, t41, t42, t43, t44, t45, t46, t47, t48, t49], defers := [] } (w.setCell ⟨S, 0, none⟩ (.int .i64 (mn u n))) := by
    as_aux_lemma =>
    refine wpAnyIn_ready (rs := [4]) (by rw [← hops]; kernel_rfl) (by simp) ?_
    refine AllReadyIn.cons e4.symm (fun K hK => ?_) ?_
    · go_simp
      exact hK _ _ s012346
    exact AllReadyIn.nil
  have s0345 : wpAnyIn (Fence.wide.inRound l) 4 Try.prog .any ops Q 4 #[true, false, false, true, true, true, false, false] { tmps := #[t0, t1, t2, t3, t4, t5, t6, .pointer (some ⟨S, 0, none⟩), .pointer (some ⟨S + 1, 0, none⟩), t9, t10, .int .i64 n, t12, t13, t14, t15, t16, t17, t18, t19, t20, t21, t22, t23, t24, t25, t26, t27, t28, t29, t30, t31, t32, t33, t34, .int .i64 u, t36, t37, .int .i64 v, .int .i64 n, .int .i64 (mx v n), t41, t42, t43, t44, t45, t46, t47, t48, t49], defers := [] } w := by
    as_aux_lemma =>
    refine wpAnyIn_ready (rs := [1]) (by rw [← hops]; kernel_rfl) (by simp) ?_
    refine AllReadyIn.cons e1.symm (fun K hK => ?_) ?_
    · go_simp
      exact hK _ _ s01345
    exact AllReadyIn.nil
  have s0134 : wpAnyIn (Fence.wide.inRound l) 4 Try.prog .any ops Q 4 #[true, true, false, true, true, false, false, false] { tmps := #[t0, t1, t2, t3, t4, t5, t6, .pointer (some ⟨S, 0, none⟩), .pointer (some ⟨S + 1, 0, none⟩), t9, t10, .int .i64 n, t12, t13, t14, t15, t16, t17, t18, t19, t20, t21, t22, t23, t24, t25, t26, t27, t28, t29, t30, t31, t32, t33, t34, .int .i64 u, .int .i64 n, t37, .int .i64 v, .int .i64 n, t40, t41, t42, t43, t44, t45, t46, t47, t48, t49], defers := [] } w := by
    as_aux_lemma =>
    refine wpAnyIn_ready (rs := [2, 5]) (by rw [← hops]; kernel_rfl) (by simp) ?_
    refine AllReadyIn.cons e2.symm (fun K hK => ?_) ?_
    · go_simp
      exact hK _ _ s01234
    refine AllReadyIn.cons e5.symm (fun K hK => ?_) ?_
    · go_simp
      exact hK _ _ s01345
    exact AllReadyIn.nil
  have s1345 : wpAnyIn (Fence.wide.inRound l) 4 Try.prog .any ops Q 4 #[false, true, false, true, true, true, false, false] { tmps := #[t0, t1, t2, t3, t4, t5, t6, .pointer (some ⟨S, 0, none⟩), .pointer (some ⟨S + 1, 0, none⟩), t9, t10, .int .i64 n, t12, t13, t14, t15, t16, t17, t18, t19, t20, t21, t22, t23, t24, t25, t26, t27, t28, t29, t30, t31, t32, t33, t34, t35, .int .i64 n, t37, .int .i64 v, .int .i64 n, .int .i64 (mx v n), t41, t42, t43, t44, t45, t46, t47, t48, t49], defers := [] } w := by
    as_aux_lemma =>
    refine wpAnyIn_ready (rs := [0]) (by rw [← hops]; kernel_rfl) (by simp) ?_
    refine AllReadyIn.cons e0.symm (fun K hK => ?_) ?_
    · go_simp
      exact hK _ _ s01345
    exact AllReadyIn.nil
  have s0126 : wpAnyIn (Fence.wide.inRound l) 4 Try.prog .any ops Q 4 #[true, true, true, false, false, false, true, false] { tmps := #[t0, t1, t2, t3, t4, t5, t6, .pointer (some ⟨S, 0, none⟩), .pointer (some ⟨S + 1, 0, none⟩), t9, t10, .int .i64 n, t12, t13, t14, t15, t16, t17, t18, t19, t20, t21, t22, t23, t24, t25, t26, t27, t28, t29, t30, t31, t32, t33, t34, .int .i64 u, .int .i64 n, .int .i64 (mn u n), t38, t39, t40, t41, t42, t43, t44, t45, t46, t47, t48, t49], defers := [] } (w.setCell ⟨S, 0, none⟩ (.int .i64 (mn u n))) := by
    as_aux_lemma =>
    refine wpAnyIn_ready (rs := [3, 4]) (by rw [← hops]; kernel_rfl) (by simp) ?_
    refine AllReadyIn.cons e3.symm (fun K hK => ?_) ?_
    · go_simp
      exact hK _ _ s01236
    refine AllReadyIn.cons e4.symm (fun K hK => ?_) ?_
    · go_simp
      exact hK _ _ s01246
    exact AllReadyIn.nil
  have s0123 : wpAnyIn (Fence.wide.inRound l) 4 Try.prog .any ops Q 4 #[true, true, true, true, false, false, false, false] { tmps := #[t0, t1, t2, t3, t4, t5, t6, .pointer (some ⟨S, 0, none⟩), .pointer (some ⟨S + 1, 0, none⟩), t9, t10, .int .i64 n, t12, t13, t14, t15, t16, t17, t18, t19, t20, t21, t22, t23, t24, t25, t26, t27, t28, t29, t30, t31, t32, t33, t34, .int .i64 u, .int .i64 n, .int .i64 (mn u n), .int .i64 v, t39, t40, t41, t42, t43, t44, t45, t46, t47, t48, t49], defers := [] } w := by
    as_aux_lemma =>
    refine wpAnyIn_ready (rs := [4, 6]) (by rw [← hops]; kernel_rfl) (by simp) ?_
    refine AllReadyIn.cons e4.symm (fun K hK => ?_) ?_
    · go_simp
      exact hK _ _ s01234
    refine AllReadyIn.cons e6.symm (fun K hK => ?_) ?_
    · go_simp
      exact hK _ _ s01236
    exact AllReadyIn.nil
  have s0124 : wpAnyIn (Fence.wide.inRound l) 4 Try.prog .any ops Q 4 #[true, true, true, false, true, false, false, false] { tmps := #[t0, t1, t2, t3, t4, t5, t6, .pointer (some ⟨S, 0, none⟩), .pointer (some ⟨S + 1, 0, none⟩), t9, t10, .int .i64 n, t12, t13, t14, t15, t16, t17, t18, t19, t20, t21, t22, t23, t24, t25, t26, t27, t28, t29, t30, t31, t32, t33, t34, .int .i64 u, .int .i64 n, .int .i64 (mn u n), t38, .int .i64 n, t40, t41, t42, t43, t44, t45, t46, t47, t48, t49], defers := [] } w := by
    as_aux_lemma =>
    refine wpAnyIn_ready (rs := [3, 6]) (by rw [← hops]; kernel_rfl) (by simp) ?_
    refine AllReadyIn.cons e3.symm (fun K hK => ?_) ?_
    · go_simp
      exact hK _ _ s01234
    refine AllReadyIn.cons e6.symm (fun K hK => ?_) ?_
    · go_simp
      exact hK _ _ s01246
    exact AllReadyIn.nil
  have s345 : wpAnyIn (Fence.wide.inRound l) 4 Try.prog .any ops Q 5 #[false, false, false, true, true, true, false, false] { tmps := #[t0, t1, t2, t3, t4, t5, t6, .pointer (some ⟨S, 0, none⟩), .pointer (some ⟨S + 1, 0, none⟩), t9, t10, .int .i64 n, t12, t13, t14, t15, t16, t17, t18, t19, t20, t21, t22, t23, t24, t25, t26, t27, t28, t29, t30, t31, t32, t33, t34, t35, t36, t37, .int .i64 v, .int .i64 n, .int .i64 (mx v n), t41, t42, t43, t44, t45, t46, t47, t48, t49], defers := [] } w := by
    as_aux_lemma =>
    refine wpAnyIn_ready (rs := [0, 1]) (by rw [← hops]; kernel_rfl) (by simp) ?_
    refine AllReadyIn.cons e0.symm (fun K hK => ?_) ?_
    · go_simp
      exact hK _ _ s0345
    refine AllReadyIn.cons e1.symm (fun K hK => ?_) ?_
    · go_simp
      exact hK _ _ s1345
    exact AllReadyIn.nil
  have s134 : wpAnyIn (Fence.wide.inRound l) 4 Try.prog .any ops Q 5 #[false, true, false, true, true, false, false, false] { tmps := #[t0, t1, t2, t3, t4, t5, t6, .pointer (some ⟨S, 0, none⟩), .pointer (some ⟨S + 1, 0, none⟩), t9, t10, .int .i64 n, t12, t13, t14, t15, t16, t17, t18, t19, t20, t21, t22, t23, t24, t25, t26, t27, t28, t29, t30, t31, t32, t33, t34, t35, .int .i64 n, t37, .int .i64 v, .int .i64 n, t40, t41, t42, t43, t44, t45, t46, t47, t48, t49], defers := [] } w := by
    as_aux_lemma =>
    refine wpAnyIn_ready (rs := [0, 5]) (by rw [← hops]; kernel_rfl) (by simp) ?_
    refine AllReadyIn.cons e0.symm (fun K hK => ?_) ?_
    · go_simp
      exact hK _ _ s0134
    refine AllReadyIn.cons e5.symm (fun K hK => ?_) ?_
    · go_simp
      exact hK _ _ s1345
    exact AllReadyIn.nil
  have s034 : wpAnyIn (Fence.wide.inRound l) 4 Try.prog .any ops Q 5 #[true, false, false, true, true, false, false, false] { tmps := #[t0, t1, t2, t3, t4, t5, t6, .pointer (some ⟨S, 0, none⟩), .pointer (some ⟨S + 1, 0, none⟩), t9, t10, .int .i64 n, t12, t13, t14, t15, t16, t17, t18, t19, t20, t21, t22, t23, t24, t25, t26, t27, t28, t29, t30, t31, t32, t33, t34, .int .i64 u, t36, t37, .int .i64 v, .int .i64 n, t40, t41, t42, t43, t44, t45, t46, t47, t48, t49], defers := [] } w := by
    as_aux_lemma =>
    refine wpAnyIn_ready (rs := [1, 5]) (by rw [← hops]; kernel_rfl) (by simp) ?_
    refine AllReadyIn.cons e1.symm (fun K hK => ?_) ?_
    · go_simp
      exact hK _ _ s0134
    refine AllReadyIn.cons e5.symm (fun K hK => ?_) ?_
    · go_simp
      exact hK _ _ s0345
    exact AllReadyIn.nil
  have s012 : wpAnyIn (Fence.wide.inRound l) 4 Try.prog .any ops Q 5 #[true, true, true, false, false, false, false, false] { tmps := #[t0, t1, t2, t3, t4, t5, t6, .pointer (some ⟨S, 0, none⟩), .pointer (some ⟨S + 1, 0, none⟩), t9, t10, .int .i64 n, t12, t13, t14, t15, t16, t17, t18, t19, t20, t21, t22, t23, t24, t25, t26, t27, t28, t29, t30, t31, t32, t33, t34, .int .i64 u, .int .i64 n, .int .i64 (mn u n), t38, t39, t40, t41, t42, t43, t44, t45, t46, t47, t48, t49], defers := [] } w := by
    as_aux_lemma =>
    refine wpAnyIn_ready (rs := [3, 4, 6]) (by rw [← hops]; kernel_rfl) (by simp) ?_
    refine AllReadyIn.cons e3.symm (fun K hK => ?_) ?_
    · go_simp
      exact hK _ _ s0123
    refine AllReadyIn.cons e4.symm (fun K hK => ?_) ?_
    · go_simp
      exact hK _ _ s0124
    refine AllReadyIn.cons e6.symm (fun K hK => ?_) ?_
    · go_simp
      exact hK _ _ s0126
    exact AllReadyIn.nil
  have s013 : wpAnyIn (Fence.wide.inRound l) 4 Try.prog .any ops Q 5 #[true, true, false, true, false, false, false, false] { tmps := #[t0, t1, t2, t3, t4, t5, t6, .pointer (some ⟨S, 0, none⟩), .pointer (some ⟨S + 1, 0, none⟩), t9, t10, .int .i64 n, t12, t13, t14, t15, t16, t17, t18, t19, t20, t21, t22, t23, t24, t25, t26, t27, t28, t29, t30, t31, t32, t33, t34, .int .i64 u, .int .i64 n, t37, .int .i64 v, t39, t40, t41, t42, t43, t44, t45, t46, t47, t48, t49], defers := [] } w := by
    as_aux_lemma =>
    refine wpAnyIn_ready (rs := [2, 4]) (by rw [← hops]; kernel_rfl) (by simp) ?_
    refine AllReadyIn.cons e2.symm (fun K hK => ?_) ?_
    · go_simp
      exact hK _ _ s0123
    refine AllReadyIn.cons e4.symm (fun K hK => ?_) ?_
    · go_simp
      exact hK _ _ s0134
    exact AllReadyIn.nil
  have s014 : wpAnyIn (Fence.wide.inRound l) 4 Try.prog .any ops Q 5 #[true, true, false, false, true, false, false, false] { tmps := #[t0, t1, t2, t3, t4, t5, t6, .pointer (some ⟨S, 0, none⟩), .pointer (some ⟨S + 1, 0, none⟩), t9, t10, .int .i64 n, t12, t13, t14, t15, t16, t17, t18, t19, t20, t21, t22, t23, t24, t25, t26, t27, t28, t29, t30, t31, t32, t33, t34, .int .i64 u, .int .i64 n, t37, t38, .int .i64 n, t40, t41, t42, t43, t44, t45, t46, t47, t48, t49], defers := [] } w := by
    as_aux_lemma =>
    refine wpAnyIn_ready (rs := [2, 3]) (by rw [← hops]; kernel_rfl) (by simp) ?_
    refine AllReadyIn.cons e2.symm (fun K hK => ?_) ?_
    · go_simp
      exact hK _ _ s0124
    refine AllReadyIn.cons e3.symm (fun K hK => ?_) ?_
    · go_simp
      exact hK _ _ s0134
    exact AllReadyIn.nil
  have s14 : wpAnyIn (Fence.wide.inRound l) 4 Try.prog .any ops Q 6 #[false, true, false, false, true, false, false, false] { tmps := #[t0, t1, t2, t3, t4, t5, t6, .pointer (some ⟨S, 0, none⟩), .pointer (some ⟨S + 1, 0, none⟩), t9, t10, .int .i64 n, t12, t13, t14, t15, t16, t17, t18, t19, t20, t21, t22, t23, t24, t25, t26, t27, t28, t29, t30, t31, t32, t33, t34, t35, .int .i64 n, t37, t38, .int .i64 n, t40, t41, t42, t43, t44, t45, t46, t47, t48, t49], defers := [] } w := by
    as_aux_lemma =>
    refine wpAnyIn_ready (rs := [0, 3]) (by rw [← hops]; kernel_rfl) (by simp) ?_
    refine AllReadyIn.cons e0.symm (fun K hK => ?_) ?_
    · go_simp
      exact hK _ _ s014
    refine AllReadyIn.cons e3.symm (fun K hK => ?_) ?_
    · go_simp
      exact hK _ _ s134
    exact AllReadyIn.nil
  have s34 : wpAnyIn (Fence.wide.inRound l) 4 Try.prog .any ops Q 6 #[false, false, false, true, true, false, false, false] { tmps := #[t0, t1, t2, t3, t4, t5, t6, .pointer (some ⟨S, 0, none⟩), .pointer (some ⟨S + 1, 0, none⟩), t9, t10, .int .i64 n, t12, t13, t14, t15, t16, t17, t18, t19, t20, t21, t22, t23, t24, t25, t26, t27, t28, t29, t30, t31, t32, t33, t34, t35, t36, t37, .int .i64 v, .int .i64 n, t40, t41, t42, t43, t44, t45, t46, t47, t48, t49], defers := [] } w := by
    as_aux_lemma =>
    refine wpAnyIn_ready (rs := [0, 1, 5]) (by rw [← hops]; kernel_rfl) (by simp) ?_
    refine AllReadyIn.cons e0.symm (fun K hK => ?_) ?_
    · go_simp
      exact hK _ _ s034
    refine AllReadyIn.cons e1.symm (fun K hK => ?_) ?_
    · go_simp
      exact hK _ _ s134
    refine AllReadyIn.cons e5.symm (fun K hK => ?_) ?_
    · go_simp
      exact hK _ _ s345
    exact AllReadyIn.nil
  have s03 : wpAnyIn (Fence.wide.inRound l) 4 Try.prog .any ops Q 6 #[true, false, false, true, false, false, false, false] { tmps := #[t0, t1, t2, t3, t4, t5, t6, .pointer (some ⟨S, 0, none⟩), .pointer (some ⟨S + 1, 0, none⟩), t9, t10, .int .i64 n, t12, t13, t14, t15, t16, t17, t18, t19, t20, t21, t22, t23, t24, t25, t26, t27, t28, t29, t30, t31, t32, t33, t34, .int .i64 u, t36, t37, .int .i64 v, t39, t40, t41, t42, t43, t44, t45, t46, t47, t48, t49], defers := [] } w := by
    as_aux_lemma =>
    refine wpAnyIn_ready (rs := [1, 4]) (by rw [← hops]; kernel_rfl) (by simp) ?_
    refine AllReadyIn.cons e1.symm (fun K hK => ?_) ?_
    · go_simp
      exact hK _ _ s013
    refine AllReadyIn.cons e4.symm (fun K hK => ?_) ?_
    · go_simp
      exact hK _ _ s034
    exact AllReadyIn.nil
  have s04 : wpAnyIn (Fence.wide.inRound l) 4 Try.prog .any ops Q 6 #[true, false, false, false, true, false, false, false] { tmps := #[t0, t1, t2, t3, t4, t5, t6, .pointer (some ⟨S, 0, none⟩), .pointer (some ⟨S + 1, 0, none⟩), t9, t10, .int .i64 n, t12, t13, t14, t15, t16, t17, t18, t19, t20, t21, t22, t23, t24, t25, t26, t27, t28, t29, t30, t31, t32, t33, t34, .int .i64 u, t36, t37, t38, .int .i64 n, t40, t41, t42, t43, t44, t45, t46, t47, t48, t49], defers := [] } w := by
    as_aux_lemma =>
    refine wpAnyIn_ready (rs := [1, 3]) (by rw [← hops]; kernel_rfl) (by simp) ?_
    refine AllReadyIn.cons e1.symm (fun K hK => ?_) ?_
    · go_simp
      exact hK _ _ s014
    refine AllReadyIn.cons e3.symm (fun K hK => ?_) ?_
    · go_simp
      exact hK _ _ s034
    exact AllReadyIn.nil
  have s13 : wpAnyIn (Fence.wide.inRound l) 4 Try.prog .any ops Q 6 #[false, true, false, true, false, false, false, false] { tmps := #[t0, t1, t2, t3, t4, t5, t6, .pointer (some ⟨S, 0, none⟩), .pointer (some ⟨S + 1, 0, none⟩), t9, t10, .int .i64 n, t12, t13, t14, t15, t16, t17, t18, t19, t20, t21, t22, t23, t24, t25, t26, t27, t28, t29, t30, t31, t32, t33, t34, t35, .int .i64 n, t37, .int .i64 v, t39, t40, t41, t42, t43, t44, t45, t46, t47, t48, t49], defers := [] } w := by
    as_aux_lemma =>
    refine wpAnyIn_ready (rs := [0, 4]) (by rw [← hops]; kernel_rfl) (by simp) ?_
    refine AllReadyIn.cons e0.symm (fun K hK => ?_) ?_
    · go_simp
      exact hK _ _ s013
    refine AllReadyIn.cons e4.symm (fun K hK => ?_) ?_
    · go_simp
      exact hK _ _ s134
    exact AllReadyIn.nil
  have s01 : wpAnyIn (Fence.wide.inRound l) 4 Try.prog .any ops Q 6 #[true, true, false, false, false, false, false, false] { tmps := #[t0, t1, t2, t3, t4, t5, t6, .pointer (some ⟨S, 0, none⟩), .pointer (some ⟨S + 1, 0, none⟩), t9, t10, .int .i64 n, t12, t13, t14, t15, t16, t17, t18, t19, t20, t21, t22, t23, t24, t25, t26, t27, t28, t29, t30, t31, t32, t33, t34, .int .i64 u, .int .i64 n, t37, t38, t39, t40, t41, t42, t43, t44, t45, t46, t47, t48, t49], defers := [] } w := by
    as_aux_lemma =>
    refine wpAnyIn_ready (rs := [2, 3, 4]) (by rw [← hops]; kernel_rfl) (by simp) ?_
    refine AllReadyIn.cons e2.symm (fun K hK => ?_) ?_
    · go_simp
      exact hK _ _ s012
    refine AllReadyIn.cons e3.symm (fun K hK => ?_) ?_
    · go_simp
      exact hK _ _ s013
    refine AllReadyIn.cons e4.symm (fun K hK => ?_) ?_
    · go_simp
      exact hK _ _ s014
    exact AllReadyIn.nil
  have s1 : wpAnyIn (Fence.wide.inRound l) 4 Try.prog .any ops Q 7 #[false, true, false, false, false, false, false, false] { tmps := #[t0, t1, t2, t3, t4, t5, t6, .pointer (some ⟨S, 0, none⟩), .pointer (some ⟨S + 1, 0, none⟩), t9, t10, .int .i64 n, t12, t13, t14, t15, t16, t17, t18, t19, t20, t21, t22, t23, t24, t25, t26, t27, t28, t29, t30, t31, t32, t33, t34, t35, .int .i64 n, t37, t38, t39, t40, t41, t42, t43, t44, t45, t46, t47, t48, t49], defers := [] } w := by
    as_aux_lemma =>
    refine wpAnyIn_ready (rs := [0, 3, 4]) (by rw [← hops]; kernel_rfl) (by simp) ?_
    refine AllReadyIn.cons e0.symm (fun K hK => ?_) ?_
    · go_simp
      exact hK _ _ s01
    refine AllReadyIn.cons e3.symm (fun K hK => ?_) ?_
    · go_simp
      exact hK _ _ s13
    refine AllReadyIn.cons e4.symm (fun K hK => ?_) ?_
    · go_simp
      exact hK _ _ s14
    exact AllReadyIn.nil
  have s4 : wpAnyIn (Fence.wide.inRound l) 4 Try.prog .any ops Q 7 #[false, false, false, false, true, false, false, false] { tmps := #[t0, t1, t2, t3, t4, t5, t6, .pointer (some ⟨S, 0, none⟩), .pointer (some ⟨S + 1, 0, none⟩), t9, t10, .int .i64 n, t12, t13, t14, t15, t16, t17, t18, t19, t20, t21, t22, t23, t24, t25, t26, t27, t28, t29, t30, t31, t32, t33, t34, t35, t36, t37, t38, .int .i64 n, t40, t41, t42, t43, t44, t45, t46, t47, t48, t49], defers := [] } w := by
    as_aux_lemma =>
    refine wpAnyIn_ready (rs := [0, 1, 3]) (by rw [← hops]; kernel_rfl) (by simp) ?_
    refine AllReadyIn.cons e0.symm (fun K hK => ?_) ?_
    · go_simp
      exact hK _ _ s04
    refine AllReadyIn.cons e1.symm (fun K hK => ?_) ?_
    · go_simp
      exact hK _ _ s14
    refine AllReadyIn.cons e3.symm (fun K hK => ?_) ?_
    · go_simp
      exact hK _ _ s34
    exact AllReadyIn.nil
  have s3 : wpAnyIn (Fence.wide.inRound l) 4 Try.prog .any ops Q 7 #[false, false, false, true, false, false, false, false] { tmps := #[t0, t1, t2, t3, t4, t5, t6, .pointer (some ⟨S, 0, none⟩), .pointer (some ⟨S + 1, 0, none⟩), t9, t10, .int .i64 n, t12, t13, t14, t15, t16, t17, t18, t19, t20, t21, t22, t23, t24, t25, t26, t27, t28, t29, t30, t31, t32, t33, t34, t35, t36, t37, .int .i64 v, t39, t40, t41, t42, t43, t44, t45, t46, t47, t48, t49], defers := [] } w := by
    as_aux_lemma =>
    refine wpAnyIn_ready (rs := [0, 1, 4]) (by rw [← hops]; kernel_rfl) (by simp) ?_
    refine AllReadyIn.cons e0.symm (fun K hK => ?_) ?_
    · go_simp
      exact hK _ _ s03
    refine AllReadyIn.cons e1.symm (fun K hK => ?_) ?_
    · go_simp
      exact hK _ _ s13
    refine AllReadyIn.cons e4.symm (fun K hK => ?_) ?_
    · go_simp
      exact hK _ _ s34
    exact AllReadyIn.nil
  have s0 : wpAnyIn (Fence.wide.inRound l) 4 Try.prog .any ops Q 7 #[true, false, false, false, false, false, false, false] { tmps := #[t0, t1, t2, t3, t4, t5, t6, .pointer (some ⟨S, 0, none⟩), .pointer (some ⟨S + 1, 0, none⟩), t9, t10, .int .i64 n, t12, t13, t14, t15, t16, t17, t18, t19, t20, t21, t22, t23, t24, t25, t26, t27, t28, t29, t30, t31, t32, t33, t34, .int .i64 u, t36, t37, t38, t39, t40, t41, t42, t43, t44, t45, t46, t47, t48, t49], defers := [] } w := by
    as_aux_lemma =>
    refine wpAnyIn_ready (rs := [1, 3, 4]) (by rw [← hops]; kernel_rfl) (by simp) ?_
    refine AllReadyIn.cons e1.symm (fun K hK => ?_) ?_
    · go_simp
      exact hK _ _ s01
    refine AllReadyIn.cons e3.symm (fun K hK => ?_) ?_
    · go_simp
      exact hK _ _ s03
    refine AllReadyIn.cons e4.symm (fun K hK => ?_) ?_
    · go_simp
      exact hK _ _ s04
    exact AllReadyIn.nil
  have s_ : wpAnyIn (Fence.wide.inRound l) 4 Try.prog .any ops Q 8 #[false, false, false, false, false, false, false, false] { tmps := #[t0, t1, t2, t3, t4, t5, t6, .pointer (some ⟨S, 0, none⟩), .pointer (some ⟨S + 1, 0, none⟩), t9, t10, .int .i64 n, t12, t13, t14, t15, t16, t17, t18, t19, t20, t21, t22, t23, t24, t25, t26, t27, t28, t29, t30, t31, t32, t33, t34, t35, t36, t37, t38, t39, t40, t41, t42, t43, t44, t45, t46, t47, t48, t49], defers := [] } w := by
    as_aux_lemma =>
    refine wpAnyIn_ready (rs := [0, 1, 3, 4]) (by rw [← hops]; kernel_rfl) (by simp) ?_
    refine AllReadyIn.cons e0.symm (fun K hK => ?_) ?_
    · go_simp
      exact hK _ _ s0
    refine AllReadyIn.cons e1.symm (fun K hK => ?_) ?_
    · go_simp
      exact hK _ _ s1
    refine AllReadyIn.cons e3.symm (fun K hK => ?_) ?_
    · go_simp
      exact hK _ _ s3
    refine AllReadyIn.cons e4.symm (fun K hK => ?_) ?_
    · go_simp
      exact hK _ _ s4
    exact AllReadyIn.nil
  exact s_
theorem reg13 (l S : Nat) (u v n : Int) (t0 t1 t2 t3 t4 t5 t6 t9 t10 t12 t13 t14 t15 t16 t17 t18 t19 t20 t21 t22 t23 t24 t25 t26 t27 t28 t29 t30 t31 t32 t33 t34 t35 t36 t37 t38 t39 t40 t41 t42 t43 t44 t45 t46 t47 t48 t49 : Value) (w : World) (Q : Exit → Act → World → Prop)
    (c0 : w.cell? ⟨S, 0, none⟩ = some (.int .i64 u)) (c1 : w.cell? ⟨S + 1, 0, none⟩ = some (.int .i64 v)) (f0 : w.frozen? ⟨S, 0, none⟩ = false) (f1 : w.frozen? ⟨S + 1, 0, none⟩ = false)
    (hQ : Q .normal { tmps := #[t0, t1, t2, t3, t4, t5, t6, .pointer (some ⟨S, 0, none⟩), .pointer (some ⟨S + 1, 0, none⟩), t9, t10, .int .i64 n, t12, t13, t14, t15, t16, t17, t18, t19, t20, t21, t22, t23, t24, t25, t26, t27, t28, t29, t30, t31, t32, t33, t34, .int .i64 u, .int .i64 n, .int .i64 (mn u n), .int .i64 v, .int .i64 n, .int .i64 (mx v n), t41, t42, t43, t44, t45, t46, t47, t48, t49], defers := [] } ((w.setCell ⟨S, 0, none⟩ (.int .i64 (mn u n))).setCell ⟨S + 1, 0, none⟩ (.int .i64 (mx v n))).drew) :
    (Code.region 13 ops13 true).wpIn (Fence.wide.inRound l) 4 Try.prog Q { tmps := #[t0, t1, t2, t3, t4, t5, t6, .pointer (some ⟨S, 0, none⟩), .pointer (some ⟨S + 1, 0, none⟩), t9, t10, .int .i64 n, t12, t13, t14, t15, t16, t17, t18, t19, t20, t21, t22, t23, t24, t25, t26, t27, t28, t29, t30, t31, t32, t33, t34, t35, t36, t37, t38, t39, t40, t41, t42, t43, t44, t45, t46, t47, t48, t49], defers := [] } w := by
  refine wpIn_region_any (by kernel_rfl) ?_
  exact reg13_any ops13 rfl l S u v n t0 t1 t2 t3 t4 t5 t6 t9 t10 t12 t13 t14 t15 t16 t17 t18 t19 t20 t21 t22 t23 t24 t25 t26 t27 t28 t29 t30 t31 t32 t33 t34 t35 t36 t37 t38 t39 t40 t41 t42 t43 t44 t45 t46 t47 t48 t49 w.drew Q c0 c1 f0 f1 hQ
end Go.Proofs.Ytndancjnfdhbfaa.S
