/- WHAT IS PROVED: contracts of functions of the program, each by a walk of its code. Conditions: none. -/
import Derived.Test.YtdoboiiilcgbnaaD2
namespace Go.Proofs.Ytdoboiiilcgbnaa
open Go.Proofs Go.Proofs.Ytdoboiiilcgbnaa.L
set_option maxHeartbeats 1000000
set_option linter.unusedSimpArgs false
set_option linter.unusedVariables false

theorem good_num {s : Src} (h : s.good) : (numS s).good := by
  unfold numS
  simp only
  repeat' split
  all_goals exact good_n (good_n h)
def anyV (s : Src) : Vl :=
  let s1 := nS s 4
  if nV s 4 = 0 then ⟨2, nV s1 5 - 1⟩ else if nV s 4 = 1 then ⟨nV s1 4 - 1 + nV (nS s1 4) 2, nV (nS (nS s1 4) 2) 3⟩ else ⟨1, nV s1 23⟩
def anyS (s : Src) : Src :=
  let s1 := nS s 4
  if nV s 4 = 0 then nS s1 5 else if nV s 4 = 1 then nS (nS (nS s1 4) 2) 3 else nS s1 23
theorem good_any {s : Src} (h : s.good) : (anyS s).good := by
  unfold anyS
  simp only
  repeat' split
  · exact good_n (good_n h)
  · exact good_n (good_n (good_n (good_n h)))
  · exact good_n (good_n h)

set_option maxRecDepth 100000 in
theorem c_spec_l01Src_l02Num (s : Src) (h : s.good) : Con Try.prog 77 [.mp 0 4 0 0] [.o 4 [(s).cellsV]] (V.int (numV s)) [.o 4 [(numS s).cellsV]] := by
  have h9 := nV_range (nS s 5) (m := 9) (by omega) (by omega)
  have h40 := nV_range (nS s 5) (m := 1099511627776) (by omega) (by omega)
  have hw9 : IntKind.i64.wrap (nV (nS s 5) 9 - 4) = nV (nS s 5) 9 - 4 := wrapIn (by omega) (by omega)
  have hw40 : IntKind.i64.wrap (nV (nS s 5) 1099511627776 - 549755813888) = nV (nS s 5) 1099511627776 - 549755813888 := wrapIn (by omega) (by omega)
  have hr0 := (nV_range (nS s 5) (m := 10) (by omega) (by omega)).1
  have hr1 := (nV_range (nS s 5) (m := 10) (by omega) (by omega)).2
  have hrow : ([[V.int 127], [V.int 128], [V.int (-128)], [V.int (-129)], [V.int 32767], [V.int 32768], [V.int 65535], [V.int 4294967295], [V.int 4294967296], [V.int (-2147483649)]] : List (List V))[(nV (nS s 5) 10).toNat]? = some [V.int (e10.getD (nV (nS s 5) 10).toNat 0)] := row_at e10 _ hr0 hr1

  refine con_of_aw Try.func77 rfl Try.call77 (by simp [Try.ntmps77]) (by simp [V.inNs, V.inN]) (by simp [C.inN, V.inNss, V.inNs, V.inN, inNss_dd, Src.cellsV]) (by simp [V.inNs, V.inN]) (by simp [C.inN, V.inNss, V.inNs, V.inN, inNss_dd, Src.cellsV]) rfl ?_
  rw [Try.ntmps77, Try.results77]
  simp only [entryS, entryO, Nat.reduceAdd, List.length_nil, List.length_cons]
  repeat' (first
    | with_reducible refine aw_seq ?_
    | with_reducible refine aw_reg ?_
    | with_reducible refine aw_ret ?_
    | with_reducible refine aw_skip ?_
    | with_reducible refine aw_block ?_
    | with_reducible refine aw_exit ?_
    | with_reducible refine seqQ_normal ?_
    | with_reducible refine seqQ_ret ?_
    | with_reducible refine seqQ_exit ?_
    | with_reducible refine blockQ_normal ?_
    | with_reducible refine blockQ_ret ?_
    | with_reducible refine blockQ_this ?_
    | with_reducible refine blockQ_other (by decide) ?_
    | with_reducible refine regW_nil ?_
    | with_reducible refine aw_draw mixed ?_
    | (with_reducible refine regD_nil ?_
       refine ⟨by kernel_rfl, ?_⟩)
    | with_reducible refine retQ_ret ?_
    | with_reducible refine retQ_normal ?_
    | (first
        | ((with_reducible refine gh_ret ?_); simp only [RetW])
        | ((with_reducible apply call_ownp (f := 63))
           · simp only [putSt, lk, Res.s.injEq, Res.r.injEq, reduceCtorEq, Nat.reduceEqDiff, if_true, if_false]; rfl
           · with_reducible exact c_n _ _ (by repeat' (first | assumption | apply good_n | apply good_num)) (by first | assumption | omega)
           · rfl
           · first | rfl | simp only [C.ren, renLL_dd]
           · first | rfl | simp only [C.ren, renLL_dd])
        | ((with_reducible apply call_ownp (f := 82))
           · simp only [putSt, lk, Res.s.injEq, Res.r.injEq, reduceCtorEq, Nat.reduceEqDiff, if_true, if_false]; rfl
           · with_reducible exact c_spec_l01Src_edge _ (by repeat' (first | assumption | apply good_n))
           · rfl
           · first | rfl | simp only [C.ren, renLL_dd]
           · first | rfl | simp only [C.ren, renLL_dd])
        | (with_reducible apply regD_op
           · simp only [dstOk, Nat.reduceLT]
           · simp only [Nat.reduceAdd]; rfl
           intro k hk
           simp only [stepP])
        | (with_reducible apply regW_op
           · simp only [dstOk, Nat.reduceLT]
           · simp only [Nat.reduceAdd]; rfl
           intro k hk)
       try simp only [opC, opP, fetchN, fetchP, fetchAll, fetchO, Prog.bind, Prog.wp, Prog.wp_bind, lk, nameP, nameAll, Value.oneCell', putSt, stepP, putP, Res.s.injEq, Res.r.injEq, reduceCtorEq, V.lin, V.linL, D.lin, isNil, binP, unP, intBin, BinOp.isShift, Prog.ofO, true_and, and_true, Nat.reduceAdd, Nat.reduceMul, Nat.reduceSub, Nat.reduceLT, Nat.reduceLeDiff, Nat.reduceEqDiff, Nat.add_zero, Nat.zero_add, Nat.le_refl, if_true, if_false, ite_true, ite_false, Bool.false_eq_true, List.length_nil, List.length_cons, Bool.not_true, Bool.not_false, Bool.or_false, Bool.or_true, fieldAddrP, fieldP, indexAddrP, loadP, storeP, boxP, allocP, cellsP, asVal, setSeg, outP, TyK.field, TyK.agg, zeroRow, List.getElem?_cons_zero, List.getElem?_cons_succ, List.take_succ_cons, List.take_zero, List.drop_succ_cons, List.drop_zero, List.set_cons_zero, List.set_cons_succ, List.nil_append, List.cons_append, List.append_nil, List.map_cons, List.map_nil, V.ren, V.renL, List.forall_mem_cons, List.not_mem_nil, List.mem_cons, forall_eq_or_imp, implies_true, false_implies, forall_const, and_self, true_or, minmaxP, lenP, lenOf, lenStr, V.asInt, Int.toNat_natCast, List.length_map, List.getElem?_map, Option.map_some, Int.ofNat_lt, Int.natCast_nonneg, decide_true, decide_false, Int.cast_ofNat_Int, nat_lt_zero, nat_one, nat_zero, dd_length, dd_get, dd_take, dd_drop, resGo_dd, undd_dd, take_len_map, take_marks, List.length_replicate, sliceP, boundP, makeSliceP, convertP, appendP, rowsOfP, ontoP, sizeFits, V.rowSize, TyK.src, resV, resV.go, resV.gol, retP, retOne, retAll, resTo, objsAre, ty2, ty3, ty4, ty5, ty41, ty51, ty78, ty92, ty94, buildSliceP, putParts, structPlaces, chunks, List.replicate, List.flatten_cons, List.flatten_nil, Nat.reduceMul, Nat.reduceLeDiff, List.length_singleton, hr0, hr1, hrow, hw9, hw40]
       try (refine hk _ _ _ _ ?_; clear hk k))
    | (with_reducible apply regW_skip
       · simp only [dstOk, Nat.reduceLT]
       · rfl
       · simp only [putSt, lk, Res.s.injEq, Res.r.injEq, reduceCtorEq, Nat.reduceEqDiff, if_true, if_false]; done)
    | (with_reducible apply regW_yesN
       · simp only [dstOk, Nat.reduceLT]
       · rfl
       · simp only [putSt, lk, Res.s.injEq, Res.r.injEq, reduceCtorEq, Nat.reduceEqDiff, if_true, if_false]; done)
    | (with_reducible apply regW_no
       · simp only [dstOk, Nat.reduceLT]
       · rfl
       · simp only [putSt, lk, Res.s.injEq, Res.r.injEq, reduceCtorEq, Nat.reduceEqDiff, if_true, if_false, Bool.not_true, Bool.not_false]; done)
    | (with_reducible apply regW_guardN
       · simp only [dstOk, Nat.reduceLT]
       · rfl
       · simp only [putSt, lk, Res.s.injEq, Res.r.injEq, reduceCtorEq, Nat.reduceEqDiff, if_true, if_false]; rfl
       intro hb
       rotate_left
       intro hb)
    | (with_reducible apply aw_cond
       · simp only [putSt, lk, Res.s.injEq, Res.r.injEq, reduceCtorEq, Nat.reduceEqDiff, if_true, if_false]; rfl
       all_goals (intro hc; try (cases hc; done))))

  all_goals (try (simp at *; simp_all [numV, numS]))
  all_goals (try rfl)
  all_goals (try (rw [Bool.eq_iff_iff]; simp; done))
  all_goals (try (rw [Bool.eq_iff_iff]; simp; omega))
  all_goals (try (intros; omega))
  all_goals (try grind)

theorem c_spec_l01Src_l10AnyVal (s : Src) (h : s.good) : Con Try.prog 78 [.mp 0 4 0 0] [.o 4 [(s).cellsV]] (.agg [V.int (anyV s).kind, V.int (anyV s).n]) [.o 4 [(anyS s).cellsV]] := by
  have h5 := nV_range (nS s 4) (m := 5) (by omega) (by omega)
  have h4 := nV_range (nS s 4) (m := 4) (by omega) (by omega)
  have h2 := nV_range (nS (nS s 4) 4) (m := 2) (by omega) (by omega)
  have hw1 : IntKind.i64.wrap (nV (nS s 4) 5 - 1) = nV (nS s 4) 5 - 1 := wrapIn (by omega) (by omega)
  have hw2 : IntKind.i64.wrap (nV (nS s 4) 4 - 1) = nV (nS s 4) 4 - 1 := wrapIn (by omega) (by omega)
  have hw3 : IntKind.i64.wrap (nV (nS s 4) 4 - 1 + nV (nS (nS s 4) 4) 2) = nV (nS s 4) 4 - 1 + nV (nS (nS s 4) 4) 2 := wrapIn (by omega) (by omega)

  refine con_of_aw Try.func78 rfl Try.call78 (by simp [Try.ntmps78]) (by simp [V.inNs, V.inN]) (by simp [C.inN, V.inNss, V.inNs, V.inN, inNss_dd, Src.cellsV]) (by simp [V.inNs, V.inN]) (by simp [C.inN, V.inNss, V.inNs, V.inN, inNss_dd, Src.cellsV]) rfl ?_
  rw [Try.ntmps78, Try.results78]
  simp only [entryS, entryO, Nat.reduceAdd, List.length_nil, List.length_cons]
  repeat' (first
    | with_reducible refine aw_seq ?_
    | with_reducible refine aw_reg ?_
    | with_reducible refine aw_ret ?_
    | with_reducible refine aw_skip ?_
    | with_reducible refine aw_block ?_
    | with_reducible refine aw_exit ?_
    | with_reducible refine seqQ_normal ?_
    | with_reducible refine seqQ_ret ?_
    | with_reducible refine seqQ_exit ?_
    | with_reducible refine blockQ_normal ?_
    | with_reducible refine blockQ_ret ?_
    | with_reducible refine blockQ_this ?_
    | with_reducible refine blockQ_other (by decide) ?_
    | with_reducible refine regW_nil ?_
    | with_reducible refine aw_draw mixed ?_
    | (with_reducible refine regD_nil ?_
       refine ⟨by kernel_rfl, ?_⟩)
    | with_reducible refine retQ_ret ?_
    | with_reducible refine retQ_normal ?_
    | (first
        | ((with_reducible refine gh_ret ?_); simp only [RetW])
        | ((with_reducible apply call_ownp (f := 63))
           · simp only [putSt, lk, Res.s.injEq, Res.r.injEq, reduceCtorEq, Nat.reduceEqDiff, if_true, if_false]; rfl
           · with_reducible exact c_n _ _ (by repeat' (first | assumption | apply good_n | apply good_num)) (by first | assumption | omega)
           · rfl
           · first | rfl | simp only [C.ren, renLL_dd]
           · first | rfl | simp only [C.ren, renLL_dd])
        | (with_reducible apply regD_op
           · simp only [dstOk, Nat.reduceLT]
           · simp only [Nat.reduceAdd]; rfl
           intro k hk
           simp only [stepP])
        | (with_reducible apply regW_op
           · simp only [dstOk, Nat.reduceLT]
           · simp only [Nat.reduceAdd]; rfl
           intro k hk)
       try simp only [opC, opP, fetchN, fetchP, fetchAll, fetchO, Prog.bind, Prog.wp, Prog.wp_bind, lk, nameP, nameAll, Value.oneCell', putSt, stepP, putP, Res.s.injEq, Res.r.injEq, reduceCtorEq, V.lin, V.linL, D.lin, isNil, binP, unP, intBin, BinOp.isShift, Prog.ofO, true_and, and_true, Nat.reduceAdd, Nat.reduceMul, Nat.reduceSub, Nat.reduceLT, Nat.reduceLeDiff, Nat.reduceEqDiff, Nat.add_zero, Nat.zero_add, Nat.le_refl, if_true, if_false, ite_true, ite_false, Bool.false_eq_true, List.length_nil, List.length_cons, Bool.not_true, Bool.not_false, Bool.or_false, Bool.or_true, fieldAddrP, fieldP, indexAddrP, loadP, storeP, boxP, allocP, cellsP, asVal, setSeg, outP, TyK.field, TyK.agg, zeroRow, List.getElem?_cons_zero, List.getElem?_cons_succ, List.take_succ_cons, List.take_zero, List.drop_succ_cons, List.drop_zero, List.set_cons_zero, List.set_cons_succ, List.nil_append, List.cons_append, List.append_nil, List.map_cons, List.map_nil, V.ren, V.renL, List.forall_mem_cons, List.not_mem_nil, List.mem_cons, forall_eq_or_imp, implies_true, false_implies, forall_const, and_self, true_or, minmaxP, lenP, lenOf, lenStr, V.asInt, Int.toNat_natCast, List.length_map, List.getElem?_map, Option.map_some, Int.ofNat_lt, Int.natCast_nonneg, decide_true, decide_false, Int.cast_ofNat_Int, nat_lt_zero, nat_one, nat_zero, dd_length, dd_get, dd_take, dd_drop, resGo_dd, undd_dd, take_len_map, take_marks, List.length_replicate, sliceP, boundP, makeSliceP, convertP, appendP, rowsOfP, ontoP, sizeFits, V.rowSize, TyK.src, resV, resV.go, resV.gol, retP, retOne, retAll, resTo, objsAre, ty2, ty3, ty4, ty5, ty51, ty57, ty78, ty92, ty94, hw1, hw2, hw3, buildP, putParts, structPlaces, setSeg, binP, cellsEq, cellEq, Option.bind_some, Option.map_some, Option.bind_eq_bind]
       try (refine hk _ _ _ _ ?_; clear hk k))
    | (with_reducible apply regW_skip
       · simp only [dstOk, Nat.reduceLT]
       · rfl
       · simp only [putSt, lk, Res.s.injEq, Res.r.injEq, reduceCtorEq, Nat.reduceEqDiff, if_true, if_false]; done)
    | (with_reducible apply regW_yesN
       · simp only [dstOk, Nat.reduceLT]
       · rfl
       · simp only [putSt, lk, Res.s.injEq, Res.r.injEq, reduceCtorEq, Nat.reduceEqDiff, if_true, if_false]; done)
    | (with_reducible apply regW_no
       · simp only [dstOk, Nat.reduceLT]
       · rfl
       · simp only [putSt, lk, Res.s.injEq, Res.r.injEq, reduceCtorEq, Nat.reduceEqDiff, if_true, if_false, Bool.not_true, Bool.not_false]; done)
    | (with_reducible apply regW_guardN
       · simp only [dstOk, Nat.reduceLT]
       · rfl
       · simp only [putSt, lk, Res.s.injEq, Res.r.injEq, reduceCtorEq, Nat.reduceEqDiff, if_true, if_false]; rfl
       intro hb
       rotate_left
       intro hb)
    | (with_reducible apply aw_cond
       · simp only [putSt, lk, Res.s.injEq, Res.r.injEq, reduceCtorEq, Nat.reduceEqDiff, if_true, if_false]; rfl
       all_goals (intro hc; try (cases hc; done))))

  all_goals (try (simp at *; simp_all [anyV, anyS]))
  all_goals (try rfl)
  all_goals (try (rw [Bool.eq_iff_iff]; simp; done))
  all_goals (try (rw [Bool.eq_iff_iff]; simp; omega))
  all_goals (try (intros; omega))
  all_goals (try grind)

end Go.Proofs.Ytdoboiiilcgbnaa
