/- WHAT IS PROVED: contracts of functions of the program, each by a walk of its code. Conditions: none. -/
import Derived.Test.YtdoboiiilcgbnaaQ11
namespace Go.Proofs.Ytdoboiiilcgbnaa
open Go.Proofs Go.Proofs.Ytdoboiiilcgbnaa.L
set_option maxHeartbeats 1000000
set_option linter.unusedSimpArgs false
set_option linter.unusedVariables false

open Go.ChangeShapes Go.WideShapes Go.RowKit
set_option maxRecDepth 100000

theorem law_big (l : List Mv) (h : l.length ≤ 9223372036854775807) (h2 : 1048576 < l.length) : Con Try.prog 8 [bRows 3 Mv.cells l] [] (V.bool true) [] := by
  have hneg : (1048576 : Int) < l.length := by omega

  refine con_of_aw Try.func8 rfl Try.call8 (by simp [Try.ntmps8]) (by simp [V.inNs, V.inN]) (by simp [C.inN, V.inNss, V.inNs, V.inN, inNss_dd]) (by simp [V.inNs, V.inN]) (by simp [C.inN, V.inNss, V.inNs, V.inN, inNss_dd]) rfl ?_
  rw [Try.ntmps8, Try.results8]
  simp only [entryS, entryO, Nat.reduceAdd, List.length_nil, List.length_cons]
  repeat' (first
    | with_reducible refine aw_seq ?_
    | with_reducible refine aw_reg ?_
    | with_reducible refine aw_ret ?_
    | with_reducible refine aw_skip ?_
    | with_reducible refine aw_block ?_
    | with_reducible refine aw_exit ?_
    | with_reducible refine seqQ_normal ?_
    | with_reducible refine seqQ_ret ?_
    | with_reducible refine seqQ_exit ?_
    | with_reducible refine blockQ_normal ?_
    | with_reducible refine blockQ_ret ?_
    | with_reducible refine blockQ_this ?_
    | with_reducible refine blockQ_other (by decide) ?_
    | with_reducible refine regW_nil ?_
    | with_reducible refine aw_draw mixed ?_
    | (with_reducible refine regD_nil ?_
       refine ⟨by kernel_rfl, ?_⟩)
    | with_reducible refine retQ_ret ?_
    | with_reducible refine retQ_normal ?_
    | (first
        | ((with_reducible refine gh_ret ?_); simp only [RetW])
        | (with_reducible refine call_data (c_laws_szMovS l 1048576 (by omega) (by omega) h) rfl ?_)
        | (with_reducible refine call_data (c_laws_szMovS _ _ (by first | assumption | omega) (by first | assumption | omega) (by first | assumption | omega)) rfl ?_)
        | ((with_reducible apply call_auto (f := 18))
           · simp only [lendAL, lendA, Option.bind_some, Option.map_some, undd_dd, dd_length, dd_take, dd_drop, List.length_map, List.length_range, Nat.zero_add, Nat.add_zero, Nat.le_refl, true_and, and_true, and_self, take_len_map, take_marks, List.drop_zero, C.o.injEq, V.d.injEq, putSt, lk, Res.s.injEq, Res.r.injEq, reduceCtorEq, Nat.reduceEqDiff, if_true, if_false, lend_mv, lend_n1, take_len_map, take_marks, lend_mv, lend_n1, beq_self_eq_true, bne_self_eq_false, decide_true, Int.reduceNeg, Int.reduceLT, C.ren, V.ren, renLL_dd, objsP, List.length_map, List.length_range, List.getD_cons_zero, gt_iff_lt, hneg]; rfl
           · with_reducible exact c_laws_szMovS _ _ (by first | assumption | omega) (by first | assumption | omega) (by first | assumption | omega)
           · first | rfl | exact nb_rows (fun _ => rfl) _ _
           simp only [V.namesOf, V.namesOfL, List.foldl_cons, List.foldl_nil, List.nil_append, List.append_nil, List.cons_append])
        | (with_reducible refine call_data (c_laws_toMovS _ (by first | assumption | omega)) rfl ?_)
        | ((with_reducible apply call_auto (f := 20))
           · simp only [lendAL, lendA, Option.bind_some, Option.map_some, undd_dd, dd_length, dd_take, dd_drop, List.length_map, List.length_range, Nat.zero_add, Nat.add_zero, Nat.le_refl, true_and, and_true, and_self, take_len_map, take_marks, List.drop_zero, C.o.injEq, V.d.injEq, putSt, lk, Res.s.injEq, Res.r.injEq, reduceCtorEq, Nat.reduceEqDiff, if_true, if_false, lend_mv, lend_n1, take_len_map, take_marks, lend_mv, lend_n1, beq_self_eq_true, bne_self_eq_false, decide_true, Int.reduceNeg, Int.reduceLT, C.ren, V.ren, renLL_dd, objsP, List.length_map, List.length_range, List.getD_cons_zero, gt_iff_lt, hneg]; rfl
           · with_reducible exact c_laws_toMovS _ (by first | assumption | omega)
           · first | rfl | exact nb_rows (fun _ => rfl) _ _
           simp only [V.namesOf, V.namesOfL, List.foldl_cons, List.foldl_nil, List.nil_append, List.append_nil, List.cons_append])
        | (with_reducible refine call_data (c_laws_eqMovS _ _ (by first | assumption | omega)) rfl ?_)
        | ((with_reducible apply call_auto (f := 22))
           · simp only [lendAL, lendA, Option.bind_some, Option.map_some, undd_dd, dd_length, dd_take, dd_drop, List.length_map, List.length_range, Nat.zero_add, Nat.add_zero, Nat.le_refl, true_and, and_true, and_self, take_len_map, take_marks, List.drop_zero, C.o.injEq, V.d.injEq, putSt, lk, Res.s.injEq, Res.r.injEq, reduceCtorEq, Nat.reduceEqDiff, if_true, if_false, lend_mv, lend_n1, take_len_map, take_marks, lend_mv, lend_n1, beq_self_eq_true, bne_self_eq_false, decide_true, Int.reduceNeg, Int.reduceLT, C.ren, V.ren, renLL_dd, objsP, List.length_map, List.length_range, List.getD_cons_zero, gt_iff_lt, hneg]; rfl
           · with_reducible exact c_laws_eqMovS _ _ (by first | assumption | omega)
           · first | rfl | exact nb_rows (fun _ => rfl) _ _
           simp only [V.namesOf, V.namesOfL, List.foldl_cons, List.foldl_nil, List.nil_append, List.append_nil, List.cons_append])
        | (with_reducible refine call_data (c_spec_Cycles _ (by first | assumption | omega)) rfl ?_)
        | ((with_reducible apply call_auto (f := 32))
           · simp only [lendAL, lendA, Option.bind_some, Option.map_some, undd_dd, dd_length, dd_take, dd_drop, List.length_map, List.length_range, Nat.zero_add, Nat.add_zero, Nat.le_refl, true_and, and_true, and_self, take_len_map, take_marks, List.drop_zero, C.o.injEq, V.d.injEq, putSt, lk, Res.s.injEq, Res.r.injEq, reduceCtorEq, Nat.reduceEqDiff, if_true, if_false, lend_mv, lend_n1, take_len_map, take_marks, lend_mv, lend_n1, beq_self_eq_true, bne_self_eq_false, decide_true, Int.reduceNeg, Int.reduceLT, C.ren, V.ren, renLL_dd, objsP, List.length_map, List.length_range, List.getD_cons_zero, gt_iff_lt, hneg]; rfl
           · with_reducible exact c_spec_Cycles _ (by first | assumption | omega)
           · first | rfl | exact nb_rows (fun _ => rfl) _ _
           simp only [V.namesOf, V.namesOfL, List.foldl_cons, List.foldl_nil, List.nil_append, List.append_nil, List.cons_append])
        | (with_reducible refine call_data (c_impl_Cycles _ (by first | assumption | omega)) rfl ?_)
        | ((with_reducible apply call_auto (f := 33))
           · simp only [lendAL, lendA, Option.bind_some, Option.map_some, undd_dd, dd_length, dd_take, dd_drop, List.length_map, List.length_range, Nat.zero_add, Nat.add_zero, Nat.le_refl, true_and, and_true, and_self, take_len_map, take_marks, List.drop_zero, C.o.injEq, V.d.injEq, putSt, lk, Res.s.injEq, Res.r.injEq, reduceCtorEq, Nat.reduceEqDiff, if_true, if_false, lend_mv, lend_n1, take_len_map, take_marks, lend_mv, lend_n1, beq_self_eq_true, bne_self_eq_false, decide_true, Int.reduceNeg, Int.reduceLT, C.ren, V.ren, renLL_dd, objsP, List.length_map, List.length_range, List.getD_cons_zero, gt_iff_lt, hneg]; rfl
           · with_reducible exact c_impl_Cycles _ (by first | assumption | omega)
           · first | rfl | exact nb_rows (fun _ => rfl) _ _
           simp only [V.namesOf, V.namesOfL, List.foldl_cons, List.foldl_nil, List.nil_append, List.append_nil, List.cons_append])
        | (with_reducible apply regD_op
           · simp only [dstOk, Nat.reduceLT]
           · simp only [Nat.reduceAdd]; rfl
           intro k hk
           simp only [stepP])
        | (with_reducible apply regW_op
           · simp only [dstOk, Nat.reduceLT]
           · simp only [Nat.reduceAdd]; rfl
           intro k hk)
       try simp only [opC, opP, fetchN, fetchP, fetchAll, fetchO, Prog.bind, Prog.wp, Prog.wp_bind, lk, nameP, nameAll, Value.oneCell', putSt, stepP, putP, Res.s.injEq, Res.r.injEq, reduceCtorEq, V.lin, V.linL, D.lin, isNil, binP, unP, intBin, BinOp.isShift, Prog.ofO, true_and, and_true, Nat.reduceAdd, Nat.reduceMul, Nat.reduceSub, Nat.reduceLT, Nat.reduceLeDiff, Nat.reduceEqDiff, Nat.add_zero, Nat.zero_add, Nat.le_refl, if_true, if_false, ite_true, ite_false, Bool.false_eq_true, List.length_nil, List.length_cons, Bool.not_true, Bool.not_false, Bool.or_false, Bool.or_true, fieldAddrP, fieldP, indexAddrP, loadP, storeP, boxP, allocP, cellsP, asVal, setSeg, outP, TyK.field, TyK.agg, zeroRow, List.getElem?_cons_zero, List.getElem?_cons_succ, List.take_succ_cons, List.take_zero, List.drop_succ_cons, List.drop_zero, List.set_cons_zero, List.set_cons_succ, List.nil_append, List.cons_append, List.append_nil, List.map_cons, List.map_nil, V.ren, V.renL, List.forall_mem_cons, List.not_mem_nil, List.mem_cons, forall_eq_or_imp, implies_true, false_implies, forall_const, and_self, true_or, minmaxP, lenP, lenOf, lenStr, V.asInt, Int.toNat_natCast, List.length_map, List.getElem?_map, Option.map_some, Int.ofNat_lt, Int.natCast_nonneg, decide_true, decide_false, Int.cast_ofNat_Int, nat_lt_zero, nat_one, nat_zero, dd_length, dd_get, dd_take, dd_drop, resGo_dd, undd_dd, take_len_map, take_marks, List.length_replicate, sliceP, boundP, makeSliceP, convertP, appendP, rowsOfP, ontoP, sizeFits, V.rowSize, TyK.src, resV, resV.go, resV.gol, retP, retOne, retAll, resTo, objsAre, ty2, ty3, ty4, ty34, ty37, ty57, ty59, ty70, ty72, take_len_map, take_marks, lend_mv, lend_n1, beq_self_eq_true, bne_self_eq_false, decide_true, Int.reduceNeg, Int.reduceLT, C.ren, V.ren, renLL_dd, objsP, List.length_map, List.length_range, List.getD_cons_zero, gt_iff_lt, hneg]
       try (refine hk _ _ _ _ ?_; clear hk k))
    | (with_reducible apply regW_skip
       · simp only [dstOk, Nat.reduceLT]
       · rfl
       · simp only [putSt, lk, Res.s.injEq, Res.r.injEq, reduceCtorEq, Nat.reduceEqDiff, if_true, if_false]; done)
    | (with_reducible apply regW_yesN
       · simp only [dstOk, Nat.reduceLT]
       · rfl
       · simp only [putSt, lk, Res.s.injEq, Res.r.injEq, reduceCtorEq, Nat.reduceEqDiff, if_true, if_false]; done)
    | (with_reducible apply regW_no
       · simp only [dstOk, Nat.reduceLT]
       · rfl
       · simp only [putSt, lk, Res.s.injEq, Res.r.injEq, reduceCtorEq, Nat.reduceEqDiff, if_true, if_false, Bool.not_true, Bool.not_false]; done)
    | (with_reducible apply regW_guardN
       · simp only [dstOk, Nat.reduceLT]
       · rfl
       · simp only [putSt, lk, Res.s.injEq, Res.r.injEq, reduceCtorEq, Nat.reduceEqDiff, if_true, if_false]; rfl
       intro hb
       rotate_left
       intro hb)
    | (with_reducible apply aw_cond
       · simp only [putSt, lk, Res.s.injEq, Res.r.injEq, reduceCtorEq, Nat.reduceEqDiff, if_true, if_false]; rfl
       all_goals (intro hc; try (cases hc; done))))

  all_goals (try (simp_all))
  all_goals (try rfl)
  all_goals (try (rw [Bool.eq_iff_iff]; simp; done))
  all_goals (try (rw [Bool.eq_iff_iff]; simp; omega))
  all_goals (try (intros; omega))
  all_goals (try grind)

theorem law_small (l : List Mv) (h : l.length ≤ 9223372036854775807) (h2 : l.length ≤ 1048576) : Con Try.prog 8 [bRows 3 Mv.cells l] [] (V.bool true) [] := by
  have hpos : ¬ (1048576 : Int) < l.length := by omega
  have hpos2 : ¬ (1048576 : Int) - l.length < 0 := by omega

  refine con_of_aw Try.func8 rfl Try.call8 (by simp [Try.ntmps8]) (by simp [V.inNs, V.inN]) (by simp [C.inN, V.inNss, V.inNs, V.inN, inNss_dd]) (by simp [V.inNs, V.inN]) (by simp [C.inN, V.inNss, V.inNs, V.inN, inNss_dd]) rfl ?_
  rw [Try.ntmps8, Try.results8]
  simp only [entryS, entryO, Nat.reduceAdd, List.length_nil, List.length_cons]
  repeat' (first
    | with_reducible refine aw_seq ?_
    | with_reducible refine aw_reg ?_
    | with_reducible refine aw_ret ?_
    | with_reducible refine aw_skip ?_
    | with_reducible refine aw_block ?_
    | with_reducible refine aw_exit ?_
    | with_reducible refine seqQ_normal ?_
    | with_reducible refine seqQ_ret ?_
    | with_reducible refine seqQ_exit ?_
    | with_reducible refine blockQ_normal ?_
    | with_reducible refine blockQ_ret ?_
    | with_reducible refine blockQ_this ?_
    | with_reducible refine blockQ_other (by decide) ?_
    | with_reducible refine regW_nil ?_
    | with_reducible refine aw_draw mixed ?_
    | (with_reducible refine regD_nil ?_
       refine ⟨by kernel_rfl, ?_⟩)
    | with_reducible refine retQ_ret ?_
    | with_reducible refine retQ_normal ?_
    | (first
        | ((with_reducible refine gh_ret ?_); simp only [RetW])
        | (with_reducible refine call_data (c_laws_szMovS l 1048576 (by omega) (by omega) h) rfl ?_)
        | (with_reducible refine call_data (c_laws_szMovS _ _ (by first | assumption | omega) (by first | assumption | omega) (by first | assumption | omega)) rfl ?_)
        | ((with_reducible apply call_auto (f := 18))
           · simp only [lendAL, lendA, Option.bind_some, Option.map_some, undd_dd, dd_length, dd_take, dd_drop, List.length_map, List.length_range, Nat.zero_add, Nat.add_zero, Nat.le_refl, true_and, and_true, and_self, take_len_map, take_marks, List.drop_zero, C.o.injEq, V.d.injEq, putSt, lk, Res.s.injEq, Res.r.injEq, reduceCtorEq, Nat.reduceEqDiff, if_true, if_false, lend_mv, lend_n1, take_len_map, take_marks, lend_mv, lend_n1, beq_self_eq_true, bne_self_eq_false, decide_true, Int.reduceNeg, Int.reduceLT, C.ren, V.ren, renLL_dd, objsP, List.length_map, List.length_range, List.getD_cons_zero, gt_iff_lt, hpos, hpos2]; rfl
           · with_reducible exact c_laws_szMovS _ _ (by first | assumption | omega) (by first | assumption | omega) (by first | assumption | omega)
           · first | rfl | exact nb_rows (fun _ => rfl) _ _
           simp only [V.namesOf, V.namesOfL, List.foldl_cons, List.foldl_nil, List.nil_append, List.append_nil, List.cons_append])
        | (with_reducible refine call_data (c_laws_toMovS _ (by first | assumption | omega)) rfl ?_)
        | ((with_reducible apply call_auto (f := 20))
           · simp only [lendAL, lendA, Option.bind_some, Option.map_some, undd_dd, dd_length, dd_take, dd_drop, List.length_map, List.length_range, Nat.zero_add, Nat.add_zero, Nat.le_refl, true_and, and_true, and_self, take_len_map, take_marks, List.drop_zero, C.o.injEq, V.d.injEq, putSt, lk, Res.s.injEq, Res.r.injEq, reduceCtorEq, Nat.reduceEqDiff, if_true, if_false, lend_mv, lend_n1, take_len_map, take_marks, lend_mv, lend_n1, beq_self_eq_true, bne_self_eq_false, decide_true, Int.reduceNeg, Int.reduceLT, C.ren, V.ren, renLL_dd, objsP, List.length_map, List.length_range, List.getD_cons_zero, gt_iff_lt, hpos, hpos2]; rfl
           · with_reducible exact c_laws_toMovS _ (by first | assumption | omega)
           · first | rfl | exact nb_rows (fun _ => rfl) _ _
           simp only [V.namesOf, V.namesOfL, List.foldl_cons, List.foldl_nil, List.nil_append, List.append_nil, List.cons_append])
        | (with_reducible refine call_data (c_laws_eqMovS _ _ (by first | assumption | omega)) rfl ?_)
        | ((with_reducible apply call_auto (f := 22))
           · simp only [lendAL, lendA, Option.bind_some, Option.map_some, undd_dd, dd_length, dd_take, dd_drop, List.length_map, List.length_range, Nat.zero_add, Nat.add_zero, Nat.le_refl, true_and, and_true, and_self, take_len_map, take_marks, List.drop_zero, C.o.injEq, V.d.injEq, putSt, lk, Res.s.injEq, Res.r.injEq, reduceCtorEq, Nat.reduceEqDiff, if_true, if_false, lend_mv, lend_n1, take_len_map, take_marks, lend_mv, lend_n1, beq_self_eq_true, bne_self_eq_false, decide_true, Int.reduceNeg, Int.reduceLT, C.ren, V.ren, renLL_dd, objsP, List.length_map, List.length_range, List.getD_cons_zero, gt_iff_lt, hpos, hpos2]; rfl
           · with_reducible exact c_laws_eqMovS _ _ (by first | assumption | omega)
           · first | rfl | exact nb_rows (fun _ => rfl) _ _
           simp only [V.namesOf, V.namesOfL, List.foldl_cons, List.foldl_nil, List.nil_append, List.append_nil, List.cons_append])
        | (with_reducible refine call_data (c_spec_Cycles _ (by first | assumption | omega)) rfl ?_)
        | ((with_reducible apply call_auto (f := 32))
           · simp only [lendAL, lendA, Option.bind_some, Option.map_some, undd_dd, dd_length, dd_take, dd_drop, List.length_map, List.length_range, Nat.zero_add, Nat.add_zero, Nat.le_refl, true_and, and_true, and_self, take_len_map, take_marks, List.drop_zero, C.o.injEq, V.d.injEq, putSt, lk, Res.s.injEq, Res.r.injEq, reduceCtorEq, Nat.reduceEqDiff, if_true, if_false, lend_mv, lend_n1, take_len_map, take_marks, lend_mv, lend_n1, beq_self_eq_true, bne_self_eq_false, decide_true, Int.reduceNeg, Int.reduceLT, C.ren, V.ren, renLL_dd, objsP, List.length_map, List.length_range, List.getD_cons_zero, gt_iff_lt, hpos, hpos2]; rfl
           · with_reducible exact c_spec_Cycles _ (by first | assumption | omega)
           · first | rfl | exact nb_rows (fun _ => rfl) _ _
           simp only [V.namesOf, V.namesOfL, List.foldl_cons, List.foldl_nil, List.nil_append, List.append_nil, List.cons_append])
        | (with_reducible refine call_data (c_impl_Cycles _ (by first | assumption | omega)) rfl ?_)
        | ((with_reducible apply call_auto (f := 33))
           · simp only [lendAL, lendA, Option.bind_some, Option.map_some, undd_dd, dd_length, dd_take, dd_drop, List.length_map, List.length_range, Nat.zero_add, Nat.add_zero, Nat.le_refl, true_and, and_true, and_self, take_len_map, take_marks, List.drop_zero, C.o.injEq, V.d.injEq, putSt, lk, Res.s.injEq, Res.r.injEq, reduceCtorEq, Nat.reduceEqDiff, if_true, if_false, lend_mv, lend_n1, take_len_map, take_marks, lend_mv, lend_n1, beq_self_eq_true, bne_self_eq_false, decide_true, Int.reduceNeg, Int.reduceLT, C.ren, V.ren, renLL_dd, objsP, List.length_map, List.length_range, List.getD_cons_zero, gt_iff_lt, hpos, hpos2]; rfl
           · with_reducible exact c_impl_Cycles _ (by first | assumption | omega)
           · first | rfl | exact nb_rows (fun _ => rfl) _ _
           simp only [V.namesOf, V.namesOfL, List.foldl_cons, List.foldl_nil, List.nil_append, List.append_nil, List.cons_append])
        | (with_reducible apply regD_op
           · simp only [dstOk, Nat.reduceLT]
           · simp only [Nat.reduceAdd]; rfl
           intro k hk
           simp only [stepP])
        | (with_reducible apply regW_op
           · simp only [dstOk, Nat.reduceLT]
           · simp only [Nat.reduceAdd]; rfl
           intro k hk)
       try simp only [opC, opP, fetchN, fetchP, fetchAll, fetchO, Prog.bind, Prog.wp, Prog.wp_bind, lk, nameP, nameAll, Value.oneCell', putSt, stepP, putP, Res.s.injEq, Res.r.injEq, reduceCtorEq, V.lin, V.linL, D.lin, isNil, binP, unP, intBin, BinOp.isShift, Prog.ofO, true_and, and_true, Nat.reduceAdd, Nat.reduceMul, Nat.reduceSub, Nat.reduceLT, Nat.reduceLeDiff, Nat.reduceEqDiff, Nat.add_zero, Nat.zero_add, Nat.le_refl, if_true, if_false, ite_true, ite_false, Bool.false_eq_true, List.length_nil, List.length_cons, Bool.not_true, Bool.not_false, Bool.or_false, Bool.or_true, fieldAddrP, fieldP, indexAddrP, loadP, storeP, boxP, allocP, cellsP, asVal, setSeg, outP, TyK.field, TyK.agg, zeroRow, List.getElem?_cons_zero, List.getElem?_cons_succ, List.take_succ_cons, List.take_zero, List.drop_succ_cons, List.drop_zero, List.set_cons_zero, List.set_cons_succ, List.nil_append, List.cons_append, List.append_nil, List.map_cons, List.map_nil, V.ren, V.renL, List.forall_mem_cons, List.not_mem_nil, List.mem_cons, forall_eq_or_imp, implies_true, false_implies, forall_const, and_self, true_or, minmaxP, lenP, lenOf, lenStr, V.asInt, Int.toNat_natCast, List.length_map, List.getElem?_map, Option.map_some, Int.ofNat_lt, Int.natCast_nonneg, decide_true, decide_false, Int.cast_ofNat_Int, nat_lt_zero, nat_one, nat_zero, dd_length, dd_get, dd_take, dd_drop, resGo_dd, undd_dd, take_len_map, take_marks, List.length_replicate, sliceP, boundP, makeSliceP, convertP, appendP, rowsOfP, ontoP, sizeFits, V.rowSize, TyK.src, resV, resV.go, resV.gol, retP, retOne, retAll, resTo, objsAre, ty2, ty3, ty4, ty34, ty37, ty57, ty59, ty70, ty72, take_len_map, take_marks, lend_mv, lend_n1, beq_self_eq_true, bne_self_eq_false, decide_true, Int.reduceNeg, Int.reduceLT, C.ren, V.ren, renLL_dd, objsP, List.length_map, List.length_range, List.getD_cons_zero, gt_iff_lt, hpos, hpos2]
       try (refine hk _ _ _ _ ?_; clear hk k))
    | (with_reducible apply regW_skip
       · simp only [dstOk, Nat.reduceLT]
       · rfl
       · simp only [putSt, lk, Res.s.injEq, Res.r.injEq, reduceCtorEq, Nat.reduceEqDiff, if_true, if_false]; done)
    | (with_reducible apply regW_yesN
       · simp only [dstOk, Nat.reduceLT]
       · rfl
       · simp only [putSt, lk, Res.s.injEq, Res.r.injEq, reduceCtorEq, Nat.reduceEqDiff, if_true, if_false]; done)
    | (with_reducible apply regW_no
       · simp only [dstOk, Nat.reduceLT]
       · rfl
       · simp only [putSt, lk, Res.s.injEq, Res.r.injEq, reduceCtorEq, Nat.reduceEqDiff, if_true, if_false, Bool.not_true, Bool.not_false]; done)
    | (with_reducible apply regW_guardN
       · simp only [dstOk, Nat.reduceLT]
       · rfl
       · simp only [putSt, lk, Res.s.injEq, Res.r.injEq, reduceCtorEq, Nat.reduceEqDiff, if_true, if_false]; rfl
       intro hb
       rotate_left
       intro hb)
    | (with_reducible apply aw_cond
       · simp only [putSt, lk, Res.s.injEq, Res.r.injEq, reduceCtorEq, Nat.reduceEqDiff, if_true, if_false]; rfl
       all_goals (intro hc; try (cases hc; done))))

  all_goals (try (simp_all))
  all_goals (try rfl)
  all_goals (try (rw [Bool.eq_iff_iff]; simp; done))
  all_goals (try (rw [Bool.eq_iff_iff]; simp; omega))
  all_goals (try (intros; omega))
  all_goals (try grind)

theorem fnExactCycles_con (xs : List V) (hs : All2 (ShpV Try.prog 4) Try.f8.params.toList xs) : Con Try.prog 8 xs [] (V.bool true) [] := by
  rw [Try.params8] at hs
  cases hs with
  | cons h1 h =>
    cases h
    obtain ⟨l, rfl, hl, hok⟩ := shp_mvs h1
    rcases Nat.lt_or_ge 1048576 l.length with hb | hb
    · exact law_big l hl hb
    · exact law_small l hl hb

theorem fnExactCycles_read : ∀ t ∈ Try.f8.params.toList, Try.prog.readableRec t = true ∧ t < Try.prog.types.size := by
  rw [Try.params8]
  intro t ht
  simp at ht
  rcases ht with rfl <;> exact ⟨by kernel_rfl, of_decide_eq_true (by kernel_rfl)⟩

theorem fnExactCycles_plain : ∀ t ∈ Try.f8.params.toList, plainT Try.prog 4 t = true := by
  rw [Try.params8]
  intro t ht
  simp at ht
  rcases ht with rfl <;> kernel_rfl

theorem fnExactCycles_lifted (os : Os) (started : os.Started) (H : Type) (enc : TypeId × Value → H) :
    ReturnsInHanded {} Try.checked os 8 .any (Rows.fnExactCyclesSpec.pre6 enc Try.prog Try.f8 Rows.fnExactCyclesRow.domain false) (Rows.fnExactCyclesSpec.post enc Try.prog Try.f8 false true false false) := by
  refine returnsInHanded_of_change (C := Try.checked) Try.own started (by kernel_rfl) Try.func8
    (ChangeSpec.witness6 (enc := enc) (C := Try.checked) false ⟨#[], #[.slice none 0 0], []⟩ 8 (by kernel_rfl) (by kernel_rfl) (by kernel_rfl) (by kernel_rfl)) ?_
  intro W base args ds gs before hval hW hcnd _
  obtain ⟨p, q, hA0, -⟩ := id hW
  have hB0 : DataW.TrodAll enc Try.prog W 0 (fun _ => true) true Try.f8.params.toList args.toList ds p := hA0
  rw [Try.params8] at hB0
  obtain ⟨v0, vs0, d0, ds0, pa0, pb0, -, rfl, -, -, hB1⟩ := trodAll_cons hB0
  obtain ⟨-, rfl, -⟩ := trodAll_nil hB1
  exact row_contract Try.laidOut fnExactCycles_con fnExactCycles_plain fnExactCycles_read rfl rfl Try.underlying4 rfl hval hW

theorem fnExactCycles_holds : Rows.FnExactCyclesSaid :=
  OpenClaim.holds_of_wide 8 Try.f8 rfl rfl rfl rfl rfl rfl rfl ⟨rfl, rfl, rfl, rfl, rfl⟩ rfl rfl rfl rfl rfl (by kernel_rfl) Try.func8 (by kernel_rfl)
    (of_decide_eq_true (by kernel_rfl)) (by unfold Func.isWrapper; first | (rw [if_pos (by decide +kernel)]; kernel_rfl) | (rw [if_neg (by decide +kernel)]; exact ⟨rfl, rfl⟩))
    (fun os started H enc _ => fnExactCycles_lifted os started H enc)

end Go.Proofs.Ytdoboiiilcgbnaa
