/- WHAT IS PROVED: contracts of functions of the program, each by a walk of its code. Conditions: none. -/
import Derived.Test.YtdoboiiilcgbnaaQ11
namespace Go.Proofs.Ytdoboiiilcgbnaa
open Go.Proofs Go.Proofs.Ytdoboiiilcgbnaa.L
set_option maxHeartbeats 1000000
set_option linter.unusedSimpArgs false
set_option linter.unusedVariables false

open Go.ChangeShapes Go.WideShapes Go.RowKit
set_option maxRecDepth 100000

theorem seqRun_len : ∀ (f : Nat) (sp : Int) (left out : List Mv) (cyc : Int), (seqRun f sp left out cyc).1.length ≤ out.length + f
  | 0, sp, left, out, cyc => by simp [seqRun]
  | f + 1, sp, [], out, cyc => by simp [seqRun]
  | f + 1, sp, m :: l, out, cyc => by
    rw [seqRun]
    split
    · have := seqRun_len f sp (cut (m :: l) (freeIdx (m :: l))) (out ++ [((m :: l)[freeIdx (m :: l)]?).getD m]) cyc
      simp only [List.length_append, List.length_cons, List.length_nil] at this ⊢
      omega
    · have := seqRun_len f sp ((m :: l).map (fixS sp m.to)) (out ++ [⟨sp, ⟨1, m.to⟩⟩]) (cyc + 1)
      simp only [List.length_append, List.length_cons, List.length_nil] at this ⊢
      omega
theorem seqAns_len (l : List Mv) (sp : Int) : (seqAns l sp).length ≤ 1048576 := by
  unfold seqAns
  split
  · rename_i h
    have h1 := ok_len h.1
    have h2 := seqRun_len (2 * l.length + 1) sp (flt l) [] 0
    unfold seqOf
    simp only [List.length_nil] at h2
    omega
  · simp

theorem law_big (l : List Mv) (sp : Int) (h : l.length ≤ 9223372036854775807) (h2 : 1048576 < l.length) : Con Try.prog 9 [bRows 3 Mv.cells l, V.int sp] [] (V.bool true) [] := by
  have hneg : (1048576 : Int) < l.length := by omega

  refine con_of_aw Try.func9 rfl Try.call9 (by simp [Try.ntmps9]) (by simp [V.inNs, V.inN]) (by simp [C.inN, V.inNss, V.inNs, V.inN, inNss_dd]) (by simp [V.inNs, V.inN]) (by simp [C.inN, V.inNss, V.inNs, V.inN, inNss_dd]) rfl ?_
  rw [Try.ntmps9, Try.results9]
  simp only [entryS, entryO, Nat.reduceAdd, List.length_nil, List.length_cons]
  repeat' (first
    | with_reducible refine aw_seq ?_
    | with_reducible refine aw_reg ?_
    | with_reducible refine aw_ret ?_
    | with_reducible refine aw_skip ?_
    | with_reducible refine aw_block ?_
    | with_reducible refine aw_exit ?_
    | with_reducible refine seqQ_normal ?_
    | with_reducible refine seqQ_ret ?_
    | with_reducible refine seqQ_exit ?_
    | with_reducible refine blockQ_normal ?_
    | with_reducible refine blockQ_ret ?_
    | with_reducible refine blockQ_this ?_
    | with_reducible refine blockQ_other (by decide) ?_
    | with_reducible refine regW_nil ?_
    | with_reducible refine aw_draw mixed ?_
    | (with_reducible refine regD_nil ?_
       refine ⟨by kernel_rfl, ?_⟩)
    | with_reducible refine retQ_ret ?_
    | with_reducible refine retQ_normal ?_
    | (first
        | ((with_reducible refine gh_ret ?_); simp only [RetW])
        | (with_reducible refine call_data (c_laws_szMovS l 1048576 (by omega) (by omega) h) rfl ?_)
        | (with_reducible refine call_data (c_laws_szMovS _ _ (by first | assumption | omega) (by first | assumption | omega) (by first | assumption | omega)) rfl ?_)
        | ((with_reducible apply call_auto (f := 18))
           · simp only [lendAL, lendA, Option.bind_some, Option.map_some, undd_dd, dd_length, dd_take, dd_drop, List.length_map, List.length_range, Nat.zero_add, Nat.add_zero, Nat.le_refl, true_and, and_true, and_self, take_len_map, take_marks, List.drop_zero, C.o.injEq, V.d.injEq, putSt, lk, Res.s.injEq, Res.r.injEq, reduceCtorEq, Nat.reduceEqDiff, if_true, if_false, lend_mv, lend_n1, take_len_map, take_marks, lend_mv, lend_n1, beq_self_eq_true, bne_self_eq_false, decide_true, Int.reduceNeg, Int.reduceLT, C.ren, V.ren, renLL_dd, objsP, List.length_map, List.length_range, List.getD_cons_zero, gt_iff_lt, hneg]; rfl
           · with_reducible exact c_laws_szMovS _ _ (by first | assumption | omega) (by first | assumption | omega) (by first | assumption | omega)
           · first | rfl | exact nb_rows (fun _ => rfl) _ _
           simp only [V.namesOf, V.namesOfL, List.foldl_cons, List.foldl_nil, List.nil_append, List.append_nil, List.cons_append])
        | (with_reducible refine call_data (c_laws_toMovS _ (by first | assumption | omega)) rfl ?_)
        | ((with_reducible apply call_auto (f := 20))
           · simp only [lendAL, lendA, Option.bind_some, Option.map_some, undd_dd, dd_length, dd_take, dd_drop, List.length_map, List.length_range, Nat.zero_add, Nat.add_zero, Nat.le_refl, true_and, and_true, and_self, take_len_map, take_marks, List.drop_zero, C.o.injEq, V.d.injEq, putSt, lk, Res.s.injEq, Res.r.injEq, reduceCtorEq, Nat.reduceEqDiff, if_true, if_false, lend_mv, lend_n1, take_len_map, take_marks, lend_mv, lend_n1, beq_self_eq_true, bne_self_eq_false, decide_true, Int.reduceNeg, Int.reduceLT, C.ren, V.ren, renLL_dd, objsP, List.length_map, List.length_range, List.getD_cons_zero, gt_iff_lt, hneg]; rfl
           · with_reducible exact c_laws_toMovS _ (by first | assumption | omega)
           · first | rfl | exact nb_rows (fun _ => rfl) _ _
           simp only [V.namesOf, V.namesOfL, List.foldl_cons, List.foldl_nil, List.nil_append, List.append_nil, List.cons_append])
        | (with_reducible refine call_data (c_laws_eqMovS _ _ (by first | assumption | omega)) rfl ?_)
        | ((with_reducible apply call_auto (f := 22))
           · simp only [lendAL, lendA, Option.bind_some, Option.map_some, undd_dd, dd_length, dd_take, dd_drop, List.length_map, List.length_range, Nat.zero_add, Nat.add_zero, Nat.le_refl, true_and, and_true, and_self, take_len_map, take_marks, List.drop_zero, C.o.injEq, V.d.injEq, putSt, lk, Res.s.injEq, Res.r.injEq, reduceCtorEq, Nat.reduceEqDiff, if_true, if_false, lend_mv, lend_n1, take_len_map, take_marks, lend_mv, lend_n1, beq_self_eq_true, bne_self_eq_false, decide_true, Int.reduceNeg, Int.reduceLT, C.ren, V.ren, renLL_dd, objsP, List.length_map, List.length_range, List.getD_cons_zero, gt_iff_lt, hneg]; rfl
           · with_reducible exact c_laws_eqMovS _ _ (by first | assumption | omega)
           · first | rfl | exact nb_rows (fun _ => rfl) _ _
           simp only [V.namesOf, V.namesOfL, List.foldl_cons, List.foldl_nil, List.nil_append, List.append_nil, List.cons_append])
        | ((with_reducible apply call_own1 (f := 27))
           · simp only [putSt, lk, Res.s.injEq, Res.r.injEq, reduceCtorEq, Nat.reduceEqDiff, if_true, if_false]; rfl
           · with_reducible exact c_laws_markMovS1 _ (by first | assumption | omega)
           · rfl
           · simp only [C.ren, renLL_dd]
           · simp only [C.ren, renLL_dd])
        | ((with_reducible apply call_own1 (f := 27))
           · simp only [putSt, lk, Res.s.injEq, Res.r.injEq, reduceCtorEq, Nat.reduceEqDiff, if_true, if_false]; rfl
           · with_reducible exact c_laws_markMovS _ _ (by first | assumption | omega) (by first | assumption | omega)
           · rfl
           · simp only [C.ren, renLL_dd]
           · simp only [C.ren, renLL_dd])
        | (with_reducible refine call_data (c_spec_Sequence _ _ (by first | assumption | omega)) rfl ?_)
        | ((with_reducible apply call_auto (f := 34))
           · simp only [lendAL, lendA, Option.bind_some, Option.map_some, undd_dd, dd_length, dd_take, dd_drop, List.length_map, List.length_range, Nat.zero_add, Nat.add_zero, Nat.le_refl, true_and, and_true, and_self, take_len_map, take_marks, List.drop_zero, C.o.injEq, V.d.injEq, putSt, lk, Res.s.injEq, Res.r.injEq, reduceCtorEq, Nat.reduceEqDiff, if_true, if_false, lend_mv, lend_n1, take_len_map, take_marks, lend_mv, lend_n1, beq_self_eq_true, bne_self_eq_false, decide_true, Int.reduceNeg, Int.reduceLT, C.ren, V.ren, renLL_dd, objsP, List.length_map, List.length_range, List.getD_cons_zero, gt_iff_lt, hneg]; rfl
           · with_reducible exact c_spec_Sequence _ _ (by first | assumption | omega)
           · first | rfl | exact nb_rows (fun _ => rfl) _ _
           simp only [V.namesOf, V.namesOfL, List.foldl_cons, List.foldl_nil, List.nil_append, List.append_nil, List.cons_append])
        | (with_reducible refine call_data (c_impl_Sequence _ _ (by first | assumption | omega)) rfl ?_)
        | ((with_reducible apply call_auto (f := 35))
           · simp only [lendAL, lendA, Option.bind_some, Option.map_some, undd_dd, dd_length, dd_take, dd_drop, List.length_map, List.length_range, Nat.zero_add, Nat.add_zero, Nat.le_refl, true_and, and_true, and_self, take_len_map, take_marks, List.drop_zero, C.o.injEq, V.d.injEq, putSt, lk, Res.s.injEq, Res.r.injEq, reduceCtorEq, Nat.reduceEqDiff, if_true, if_false, lend_mv, lend_n1, take_len_map, take_marks, lend_mv, lend_n1, beq_self_eq_true, bne_self_eq_false, decide_true, Int.reduceNeg, Int.reduceLT, C.ren, V.ren, renLL_dd, objsP, List.length_map, List.length_range, List.getD_cons_zero, gt_iff_lt, hneg]; rfl
           · with_reducible exact c_impl_Sequence _ _ (by first | assumption | omega)
           · first | rfl | exact nb_rows (fun _ => rfl) _ _
           simp only [V.namesOf, V.namesOfL, List.foldl_cons, List.foldl_nil, List.nil_append, List.append_nil, List.cons_append])
        | (with_reducible refine call_data (c_laws_heldMovS1 _ (by first | assumption | omega)) rfl ?_)
        | ((with_reducible apply call_auto (f := 36))
           · simp only [lendAL, lendA, Option.bind_some, Option.map_some, undd_dd, dd_length, dd_take, dd_drop, List.length_map, List.length_range, Nat.zero_add, Nat.add_zero, Nat.le_refl, true_and, and_true, and_self, take_len_map, take_marks, List.drop_zero, C.o.injEq, V.d.injEq, putSt, lk, Res.s.injEq, Res.r.injEq, reduceCtorEq, Nat.reduceEqDiff, if_true, if_false, lend_mv, lend_n1, take_len_map, take_marks, lend_mv, lend_n1, beq_self_eq_true, bne_self_eq_false, decide_true, Int.reduceNeg, Int.reduceLT, C.ren, V.ren, renLL_dd, objsP, List.length_map, List.length_range, List.getD_cons_zero, gt_iff_lt, hneg]; rfl
           · with_reducible exact c_laws_heldMovS1 _ (by first | assumption | omega)
           · first | rfl | exact nb_rows (fun _ => rfl) _ _
           simp only [V.namesOf, V.namesOfL, List.foldl_cons, List.foldl_nil, List.nil_append, List.append_nil, List.cons_append])
        | (with_reducible refine call_data (c_laws_heldMovS _ _ (by first | assumption | omega) (by first | assumption | omega)) rfl ?_)
        | ((with_reducible apply call_auto (f := 36))
           · simp only [lendAL, lendA, Option.bind_some, Option.map_some, undd_dd, dd_length, dd_take, dd_drop, List.length_map, List.length_range, Nat.zero_add, Nat.add_zero, Nat.le_refl, true_and, and_true, and_self, take_len_map, take_marks, List.drop_zero, C.o.injEq, V.d.injEq, putSt, lk, Res.s.injEq, Res.r.injEq, reduceCtorEq, Nat.reduceEqDiff, if_true, if_false, lend_mv, lend_n1, take_len_map, take_marks, lend_mv, lend_n1, beq_self_eq_true, bne_self_eq_false, decide_true, Int.reduceNeg, Int.reduceLT, C.ren, V.ren, renLL_dd, objsP, List.length_map, List.length_range, List.getD_cons_zero, gt_iff_lt, hneg]; rfl
           · with_reducible exact c_laws_heldMovS _ _ (by first | assumption | omega) (by first | assumption | omega)
           · first | rfl | exact nb_rows (fun _ => rfl) _ _
           simp only [V.namesOf, V.namesOfL, List.foldl_cons, List.foldl_nil, List.nil_append, List.append_nil, List.cons_append])
        | (with_reducible apply regD_op
           · simp only [dstOk, Nat.reduceLT]
           · simp only [Nat.reduceAdd]; rfl
           intro k hk
           simp only [stepP])
        | (with_reducible apply regW_op
           · simp only [dstOk, Nat.reduceLT]
           · simp only [Nat.reduceAdd]; rfl
           intro k hk)
       try simp only [opC, opP, fetchN, fetchP, fetchAll, fetchO, Prog.bind, Prog.wp, Prog.wp_bind, lk, nameP, nameAll, Value.oneCell', putSt, stepP, putP, Res.s.injEq, Res.r.injEq, reduceCtorEq, V.lin, V.linL, D.lin, isNil, binP, unP, intBin, BinOp.isShift, Prog.ofO, true_and, and_true, Nat.reduceAdd, Nat.reduceMul, Nat.reduceSub, Nat.reduceLT, Nat.reduceLeDiff, Nat.reduceEqDiff, Nat.add_zero, Nat.zero_add, Nat.le_refl, if_true, if_false, ite_true, ite_false, Bool.false_eq_true, List.length_nil, List.length_cons, Bool.not_true, Bool.not_false, Bool.or_false, Bool.or_true, fieldAddrP, fieldP, indexAddrP, loadP, storeP, boxP, allocP, cellsP, asVal, setSeg, outP, TyK.field, TyK.agg, zeroRow, List.getElem?_cons_zero, List.getElem?_cons_succ, List.take_succ_cons, List.take_zero, List.drop_succ_cons, List.drop_zero, List.set_cons_zero, List.set_cons_succ, List.nil_append, List.cons_append, List.append_nil, List.map_cons, List.map_nil, V.ren, V.renL, List.forall_mem_cons, List.not_mem_nil, List.mem_cons, forall_eq_or_imp, implies_true, false_implies, forall_const, and_self, true_or, minmaxP, lenP, lenOf, lenStr, V.asInt, Int.toNat_natCast, List.length_map, List.getElem?_map, Option.map_some, Int.ofNat_lt, Int.natCast_nonneg, decide_true, decide_false, Int.cast_ofNat_Int, nat_lt_zero, nat_one, nat_zero, dd_length, dd_get, dd_take, dd_drop, resGo_dd, undd_dd, take_len_map, take_marks, List.length_replicate, sliceP, boundP, makeSliceP, convertP, appendP, rowsOfP, ontoP, sizeFits, V.rowSize, TyK.src, resV, resV.go, resV.gol, retP, retOne, retAll, resTo, objsAre, ty2, ty3, ty4, ty34, ty37, ty57, ty59, ty70, ty72, take_len_map, take_marks, lend_mv, lend_n1, beq_self_eq_true, bne_self_eq_false, decide_true, Int.reduceNeg, Int.reduceLT, C.ren, V.ren, renLL_dd, objsP, List.length_map, List.length_range, List.getD_cons_zero, gt_iff_lt, hneg]
       try (refine hk _ _ _ _ ?_; clear hk k))
    | (with_reducible apply regW_skip
       · simp only [dstOk, Nat.reduceLT]
       · rfl
       · simp only [putSt, lk, Res.s.injEq, Res.r.injEq, reduceCtorEq, Nat.reduceEqDiff, if_true, if_false]; done)
    | (with_reducible apply regW_yesN
       · simp only [dstOk, Nat.reduceLT]
       · rfl
       · simp only [putSt, lk, Res.s.injEq, Res.r.injEq, reduceCtorEq, Nat.reduceEqDiff, if_true, if_false]; done)
    | (with_reducible apply regW_no
       · simp only [dstOk, Nat.reduceLT]
       · rfl
       · simp only [putSt, lk, Res.s.injEq, Res.r.injEq, reduceCtorEq, Nat.reduceEqDiff, if_true, if_false, Bool.not_true, Bool.not_false]; done)
    | (with_reducible apply regW_guardN
       · simp only [dstOk, Nat.reduceLT]
       · rfl
       · simp only [putSt, lk, Res.s.injEq, Res.r.injEq, reduceCtorEq, Nat.reduceEqDiff, if_true, if_false]; rfl
       intro hb
       rotate_left
       intro hb)
    | (with_reducible apply aw_cond
       · simp only [putSt, lk, Res.s.injEq, Res.r.injEq, reduceCtorEq, Nat.reduceEqDiff, if_true, if_false]; rfl
       all_goals (intro hc; try (cases hc; done))))

  all_goals (try (simp_all))
  all_goals (try rfl)
  all_goals (try (rw [Bool.eq_iff_iff]; simp; done))
  all_goals (try (rw [Bool.eq_iff_iff]; simp; omega))
  all_goals (try (intros; omega))
  all_goals (try grind)

theorem law_small (l : List Mv) (sp : Int) (h : l.length ≤ 9223372036854775807) (h2 : l.length ≤ 1048576) : Con Try.prog 9 [bRows 3 Mv.cells l, V.int sp] [] (V.bool true) [] := by
  have hpos : ¬ (1048576 : Int) < l.length := by omega
  have hpos2 : ¬ (1048576 : Int) - l.length < 0 := by omega
  have hml := seqAns_len l sp

  refine con_of_aw Try.func9 rfl Try.call9 (by simp [Try.ntmps9]) (by simp [V.inNs, V.inN]) (by simp [C.inN, V.inNss, V.inNs, V.inN, inNss_dd]) (by simp [V.inNs, V.inN]) (by simp [C.inN, V.inNss, V.inNs, V.inN, inNss_dd]) rfl ?_
  rw [Try.ntmps9, Try.results9]
  simp only [entryS, entryO, Nat.reduceAdd, List.length_nil, List.length_cons]
  repeat' (first
    | with_reducible refine aw_seq ?_
    | with_reducible refine aw_reg ?_
    | with_reducible refine aw_ret ?_
    | with_reducible refine aw_skip ?_
    | with_reducible refine aw_block ?_
    | with_reducible refine aw_exit ?_
    | with_reducible refine seqQ_normal ?_
    | with_reducible refine seqQ_ret ?_
    | with_reducible refine seqQ_exit ?_
    | with_reducible refine blockQ_normal ?_
    | with_reducible refine blockQ_ret ?_
    | with_reducible refine blockQ_this ?_
    | with_reducible refine blockQ_other (by decide) ?_
    | with_reducible refine regW_nil ?_
    | with_reducible refine aw_draw mixed ?_
    | (with_reducible refine regD_nil ?_
       refine ⟨by kernel_rfl, ?_⟩)
    | with_reducible refine retQ_ret ?_
    | with_reducible refine retQ_normal ?_
    | (first
        | ((with_reducible refine gh_ret ?_); simp only [RetW])
        | (with_reducible refine call_data (c_laws_szMovS l 1048576 (by omega) (by omega) h) rfl ?_)
        | (with_reducible refine call_data (c_laws_szMovS _ _ (by first | assumption | omega) (by first | assumption | omega) (by first | assumption | omega)) rfl ?_)
        | ((with_reducible apply call_auto (f := 18))
           · simp only [lendAL, lendA, Option.bind_some, Option.map_some, undd_dd, dd_length, dd_take, dd_drop, List.length_map, List.length_range, Nat.zero_add, Nat.add_zero, Nat.le_refl, true_and, and_true, and_self, take_len_map, take_marks, List.drop_zero, C.o.injEq, V.d.injEq, putSt, lk, Res.s.injEq, Res.r.injEq, reduceCtorEq, Nat.reduceEqDiff, if_true, if_false, lend_mv, lend_n1, take_len_map, take_marks, lend_mv, lend_n1, beq_self_eq_true, bne_self_eq_false, decide_true, Int.reduceNeg, Int.reduceLT, C.ren, V.ren, renLL_dd, objsP, List.length_map, List.length_range, List.getD_cons_zero, gt_iff_lt, hpos, hpos2]; rfl
           · with_reducible exact c_laws_szMovS _ _ (by first | assumption | omega) (by first | assumption | omega) (by first | assumption | omega)
           · first | rfl | exact nb_rows (fun _ => rfl) _ _
           simp only [V.namesOf, V.namesOfL, List.foldl_cons, List.foldl_nil, List.nil_append, List.append_nil, List.cons_append])
        | (with_reducible refine call_data (c_laws_toMovS _ (by first | assumption | omega)) rfl ?_)
        | ((with_reducible apply call_auto (f := 20))
           · simp only [lendAL, lendA, Option.bind_some, Option.map_some, undd_dd, dd_length, dd_take, dd_drop, List.length_map, List.length_range, Nat.zero_add, Nat.add_zero, Nat.le_refl, true_and, and_true, and_self, take_len_map, take_marks, List.drop_zero, C.o.injEq, V.d.injEq, putSt, lk, Res.s.injEq, Res.r.injEq, reduceCtorEq, Nat.reduceEqDiff, if_true, if_false, lend_mv, lend_n1, take_len_map, take_marks, lend_mv, lend_n1, beq_self_eq_true, bne_self_eq_false, decide_true, Int.reduceNeg, Int.reduceLT, C.ren, V.ren, renLL_dd, objsP, List.length_map, List.length_range, List.getD_cons_zero, gt_iff_lt, hpos, hpos2]; rfl
           · with_reducible exact c_laws_toMovS _ (by first | assumption | omega)
           · first | rfl | exact nb_rows (fun _ => rfl) _ _
           simp only [V.namesOf, V.namesOfL, List.foldl_cons, List.foldl_nil, List.nil_append, List.append_nil, List.cons_append])
        | (with_reducible refine call_data (c_laws_eqMovS _ _ (by first | assumption | omega)) rfl ?_)
        | ((with_reducible apply call_auto (f := 22))
           · simp only [lendAL, lendA, Option.bind_some, Option.map_some, undd_dd, dd_length, dd_take, dd_drop, List.length_map, List.length_range, Nat.zero_add, Nat.add_zero, Nat.le_refl, true_and, and_true, and_self, take_len_map, take_marks, List.drop_zero, C.o.injEq, V.d.injEq, putSt, lk, Res.s.injEq, Res.r.injEq, reduceCtorEq, Nat.reduceEqDiff, if_true, if_false, lend_mv, lend_n1, take_len_map, take_marks, lend_mv, lend_n1, beq_self_eq_true, bne_self_eq_false, decide_true, Int.reduceNeg, Int.reduceLT, C.ren, V.ren, renLL_dd, objsP, List.length_map, List.length_range, List.getD_cons_zero, gt_iff_lt, hpos, hpos2]; rfl
           · with_reducible exact c_laws_eqMovS _ _ (by first | assumption | omega)
           · first | rfl | exact nb_rows (fun _ => rfl) _ _
           simp only [V.namesOf, V.namesOfL, List.foldl_cons, List.foldl_nil, List.nil_append, List.append_nil, List.cons_append])
        | ((with_reducible apply call_own1 (f := 27))
           · simp only [putSt, lk, Res.s.injEq, Res.r.injEq, reduceCtorEq, Nat.reduceEqDiff, if_true, if_false]; rfl
           · with_reducible exact c_laws_markMovS1 _ (by first | assumption | omega)
           · rfl
           · simp only [C.ren, renLL_dd]
           · simp only [C.ren, renLL_dd])
        | ((with_reducible apply call_own1 (f := 27))
           · simp only [putSt, lk, Res.s.injEq, Res.r.injEq, reduceCtorEq, Nat.reduceEqDiff, if_true, if_false]; rfl
           · with_reducible exact c_laws_markMovS _ _ (by first | assumption | omega) (by first | assumption | omega)
           · rfl
           · simp only [C.ren, renLL_dd]
           · simp only [C.ren, renLL_dd])
        | (with_reducible refine call_data (c_spec_Sequence _ _ (by first | assumption | omega)) rfl ?_)
        | ((with_reducible apply call_auto (f := 34))
           · simp only [lendAL, lendA, Option.bind_some, Option.map_some, undd_dd, dd_length, dd_take, dd_drop, List.length_map, List.length_range, Nat.zero_add, Nat.add_zero, Nat.le_refl, true_and, and_true, and_self, take_len_map, take_marks, List.drop_zero, C.o.injEq, V.d.injEq, putSt, lk, Res.s.injEq, Res.r.injEq, reduceCtorEq, Nat.reduceEqDiff, if_true, if_false, lend_mv, lend_n1, take_len_map, take_marks, lend_mv, lend_n1, beq_self_eq_true, bne_self_eq_false, decide_true, Int.reduceNeg, Int.reduceLT, C.ren, V.ren, renLL_dd, objsP, List.length_map, List.length_range, List.getD_cons_zero, gt_iff_lt, hpos, hpos2]; rfl
           · with_reducible exact c_spec_Sequence _ _ (by first | assumption | omega)
           · first | rfl | exact nb_rows (fun _ => rfl) _ _
           simp only [V.namesOf, V.namesOfL, List.foldl_cons, List.foldl_nil, List.nil_append, List.append_nil, List.cons_append])
        | (with_reducible refine call_data (c_impl_Sequence _ _ (by first | assumption | omega)) rfl ?_)
        | ((with_reducible apply call_auto (f := 35))
           · simp only [lendAL, lendA, Option.bind_some, Option.map_some, undd_dd, dd_length, dd_take, dd_drop, List.length_map, List.length_range, Nat.zero_add, Nat.add_zero, Nat.le_refl, true_and, and_true, and_self, take_len_map, take_marks, List.drop_zero, C.o.injEq, V.d.injEq, putSt, lk, Res.s.injEq, Res.r.injEq, reduceCtorEq, Nat.reduceEqDiff, if_true, if_false, lend_mv, lend_n1, take_len_map, take_marks, lend_mv, lend_n1, beq_self_eq_true, bne_self_eq_false, decide_true, Int.reduceNeg, Int.reduceLT, C.ren, V.ren, renLL_dd, objsP, List.length_map, List.length_range, List.getD_cons_zero, gt_iff_lt, hpos, hpos2]; rfl
           · with_reducible exact c_impl_Sequence _ _ (by first | assumption | omega)
           · first | rfl | exact nb_rows (fun _ => rfl) _ _
           simp only [V.namesOf, V.namesOfL, List.foldl_cons, List.foldl_nil, List.nil_append, List.append_nil, List.cons_append])
        | (with_reducible refine call_data (c_laws_heldMovS1 _ (by first | assumption | omega)) rfl ?_)
        | ((with_reducible apply call_auto (f := 36))
           · simp only [lendAL, lendA, Option.bind_some, Option.map_some, undd_dd, dd_length, dd_take, dd_drop, List.length_map, List.length_range, Nat.zero_add, Nat.add_zero, Nat.le_refl, true_and, and_true, and_self, take_len_map, take_marks, List.drop_zero, C.o.injEq, V.d.injEq, putSt, lk, Res.s.injEq, Res.r.injEq, reduceCtorEq, Nat.reduceEqDiff, if_true, if_false, lend_mv, lend_n1, take_len_map, take_marks, lend_mv, lend_n1, beq_self_eq_true, bne_self_eq_false, decide_true, Int.reduceNeg, Int.reduceLT, C.ren, V.ren, renLL_dd, objsP, List.length_map, List.length_range, List.getD_cons_zero, gt_iff_lt, hpos, hpos2]; rfl
           · with_reducible exact c_laws_heldMovS1 _ (by first | assumption | omega)
           · first | rfl | exact nb_rows (fun _ => rfl) _ _
           simp only [V.namesOf, V.namesOfL, List.foldl_cons, List.foldl_nil, List.nil_append, List.append_nil, List.cons_append])
        | (with_reducible refine call_data (c_laws_heldMovS _ _ (by first | assumption | omega) (by first | assumption | omega)) rfl ?_)
        | ((with_reducible apply call_auto (f := 36))
           · simp only [lendAL, lendA, Option.bind_some, Option.map_some, undd_dd, dd_length, dd_take, dd_drop, List.length_map, List.length_range, Nat.zero_add, Nat.add_zero, Nat.le_refl, true_and, and_true, and_self, take_len_map, take_marks, List.drop_zero, C.o.injEq, V.d.injEq, putSt, lk, Res.s.injEq, Res.r.injEq, reduceCtorEq, Nat.reduceEqDiff, if_true, if_false, lend_mv, lend_n1, take_len_map, take_marks, lend_mv, lend_n1, beq_self_eq_true, bne_self_eq_false, decide_true, Int.reduceNeg, Int.reduceLT, C.ren, V.ren, renLL_dd, objsP, List.length_map, List.length_range, List.getD_cons_zero, gt_iff_lt, hpos, hpos2]; rfl
           · with_reducible exact c_laws_heldMovS _ _ (by first | assumption | omega) (by first | assumption | omega)
           · first | rfl | exact nb_rows (fun _ => rfl) _ _
           simp only [V.namesOf, V.namesOfL, List.foldl_cons, List.foldl_nil, List.nil_append, List.append_nil, List.cons_append])
        | (with_reducible apply regD_op
           · simp only [dstOk, Nat.reduceLT]
           · simp only [Nat.reduceAdd]; rfl
           intro k hk
           simp only [stepP])
        | (with_reducible apply regW_op
           · simp only [dstOk, Nat.reduceLT]
           · simp only [Nat.reduceAdd]; rfl
           intro k hk)
       try simp only [opC, opP, fetchN, fetchP, fetchAll, fetchO, Prog.bind, Prog.wp, Prog.wp_bind, lk, nameP, nameAll, Value.oneCell', putSt, stepP, putP, Res.s.injEq, Res.r.injEq, reduceCtorEq, V.lin, V.linL, D.lin, isNil, binP, unP, intBin, BinOp.isShift, Prog.ofO, true_and, and_true, Nat.reduceAdd, Nat.reduceMul, Nat.reduceSub, Nat.reduceLT, Nat.reduceLeDiff, Nat.reduceEqDiff, Nat.add_zero, Nat.zero_add, Nat.le_refl, if_true, if_false, ite_true, ite_false, Bool.false_eq_true, List.length_nil, List.length_cons, Bool.not_true, Bool.not_false, Bool.or_false, Bool.or_true, fieldAddrP, fieldP, indexAddrP, loadP, storeP, boxP, allocP, cellsP, asVal, setSeg, outP, TyK.field, TyK.agg, zeroRow, List.getElem?_cons_zero, List.getElem?_cons_succ, List.take_succ_cons, List.take_zero, List.drop_succ_cons, List.drop_zero, List.set_cons_zero, List.set_cons_succ, List.nil_append, List.cons_append, List.append_nil, List.map_cons, List.map_nil, V.ren, V.renL, List.forall_mem_cons, List.not_mem_nil, List.mem_cons, forall_eq_or_imp, implies_true, false_implies, forall_const, and_self, true_or, minmaxP, lenP, lenOf, lenStr, V.asInt, Int.toNat_natCast, List.length_map, List.getElem?_map, Option.map_some, Int.ofNat_lt, Int.natCast_nonneg, decide_true, decide_false, Int.cast_ofNat_Int, nat_lt_zero, nat_one, nat_zero, dd_length, dd_get, dd_take, dd_drop, resGo_dd, undd_dd, take_len_map, take_marks, List.length_replicate, sliceP, boundP, makeSliceP, convertP, appendP, rowsOfP, ontoP, sizeFits, V.rowSize, TyK.src, resV, resV.go, resV.gol, retP, retOne, retAll, resTo, objsAre, ty2, ty3, ty4, ty34, ty37, ty57, ty59, ty70, ty72, take_len_map, take_marks, lend_mv, lend_n1, beq_self_eq_true, bne_self_eq_false, decide_true, Int.reduceNeg, Int.reduceLT, C.ren, V.ren, renLL_dd, objsP, List.length_map, List.length_range, List.getD_cons_zero, gt_iff_lt, hpos, hpos2]
       try (refine hk _ _ _ _ ?_; clear hk k))
    | (with_reducible apply regW_skip
       · simp only [dstOk, Nat.reduceLT]
       · rfl
       · simp only [putSt, lk, Res.s.injEq, Res.r.injEq, reduceCtorEq, Nat.reduceEqDiff, if_true, if_false]; done)
    | (with_reducible apply regW_yesN
       · simp only [dstOk, Nat.reduceLT]
       · rfl
       · simp only [putSt, lk, Res.s.injEq, Res.r.injEq, reduceCtorEq, Nat.reduceEqDiff, if_true, if_false]; done)
    | (with_reducible apply regW_no
       · simp only [dstOk, Nat.reduceLT]
       · rfl
       · simp only [putSt, lk, Res.s.injEq, Res.r.injEq, reduceCtorEq, Nat.reduceEqDiff, if_true, if_false, Bool.not_true, Bool.not_false]; done)
    | (with_reducible apply regW_guardN
       · simp only [dstOk, Nat.reduceLT]
       · rfl
       · simp only [putSt, lk, Res.s.injEq, Res.r.injEq, reduceCtorEq, Nat.reduceEqDiff, if_true, if_false]; rfl
       intro hb
       rotate_left
       intro hb)
    | (with_reducible apply aw_cond
       · simp only [putSt, lk, Res.s.injEq, Res.r.injEq, reduceCtorEq, Nat.reduceEqDiff, if_true, if_false]; rfl
       all_goals (intro hc; try (cases hc; done))))

  all_goals (try (simp_all))
  all_goals (try rfl)
  all_goals (try (rw [Bool.eq_iff_iff]; simp; done))
  all_goals (try (rw [Bool.eq_iff_iff]; simp; omega))
  all_goals (try (intros; omega))
  all_goals (try grind)

theorem fnExactSequence_con (xs : List V) (hs : All2 (ShpV Try.prog 4) Try.f9.params.toList xs) : Con Try.prog 9 xs [] (V.bool true) [] := by
  rw [Try.params9] at hs
  cases hs with
  | cons h1 h => cases h with
    | cons h2 h =>
      cases h
      obtain ⟨l, rfl, hl, hok⟩ := shp_mvs h1
      obtain ⟨sp, rfl, hsp⟩ := shpV_i64 Try.underlying2 h2
      rcases Nat.lt_or_ge 1048576 l.length with hb | hb
      · exact law_big l sp hl hb
      · exact law_small l sp hl hb

theorem fnExactSequence_read : ∀ t ∈ Try.f9.params.toList, Try.prog.readableRec t = true ∧ t < Try.prog.types.size := by
  rw [Try.params9]
  intro t ht
  simp at ht
  rcases ht with rfl | rfl <;> exact ⟨by kernel_rfl, of_decide_eq_true (by kernel_rfl)⟩

theorem fnExactSequence_plain : ∀ t ∈ Try.f9.params.toList, plainT Try.prog 4 t = true := by
  rw [Try.params9]
  intro t ht
  simp at ht
  rcases ht with rfl | rfl <;> kernel_rfl

theorem fnExactSequence_lifted (os : Os) (started : os.Started) (H : Type) (enc : TypeId × Value → H) :
    ReturnsInHanded {} Try.checked os 9 .any (Rows.fnExactSequenceSpec.pre6 enc Try.prog Try.f9 Rows.fnExactSequenceRow.domain false) (Rows.fnExactSequenceSpec.post enc Try.prog Try.f9 false true false false) := by
  refine returnsInHanded_of_change (C := Try.checked) Try.own started (by kernel_rfl) Try.func9
    (ChangeSpec.witness6 (enc := enc) (C := Try.checked) false ⟨#[], #[.slice none 0 0, .int .i64 0], []⟩ 8 (by kernel_rfl) (by kernel_rfl) (by kernel_rfl) (by kernel_rfl)) ?_
  intro W base args ds gs before hval hW hcnd _
  obtain ⟨p, q, hA0, -⟩ := id hW
  have hB0 : DataW.TrodAll enc Try.prog W 0 (fun _ => true) true Try.f9.params.toList args.toList ds p := hA0
  rw [Try.params9] at hB0
  obtain ⟨v0, vs0, d0, ds0, pa0, pb0, -, rfl, -, -, hB1⟩ := trodAll_cons hB0
  obtain ⟨v1, vs1, d1, ds1, pa1, pb1, -, rfl, -, -, hB2⟩ := trodAll_cons hB1
  obtain ⟨-, rfl, -⟩ := trodAll_nil hB2
  exact row_contract Try.laidOut fnExactSequence_con fnExactSequence_plain fnExactSequence_read rfl rfl Try.underlying4 rfl hval hW

theorem fnExactSequence_holds : Rows.FnExactSequenceSaid :=
  OpenClaim.holds_of_wide 9 Try.f9 rfl rfl rfl rfl rfl rfl rfl ⟨rfl, rfl, rfl, rfl, rfl⟩ rfl rfl rfl rfl rfl (by kernel_rfl) Try.func9 (by kernel_rfl)
    (of_decide_eq_true (by kernel_rfl)) (by unfold Func.isWrapper; first | (rw [if_pos (by decide +kernel)]; kernel_rfl) | (rw [if_neg (by decide +kernel)]; exact ⟨rfl, rfl⟩))
    (fun os started H enc _ => fnExactSequence_lifted os started H enc)

end Go.Proofs.Ytdoboiiilcgbnaa
