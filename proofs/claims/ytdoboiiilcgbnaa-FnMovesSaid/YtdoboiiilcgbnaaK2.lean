/- WHAT IS PROVED: contracts of functions of the program, each by a walk of its code. Conditions: none. -/
import Derived.Test.YtdoboiiilcgbnaaK1
namespace Go.Proofs.Ytdoboiiilcgbnaa
open Go.Proofs Go.Proofs.Ytdoboiiilcgbnaa.L
set_option maxHeartbeats 1000000
set_option linter.unusedSimpArgs false
set_option linter.unusedVariables false

theorem c_laws_toMovS (l : List Mv) (h : l.length ≤ 1048576) : Con Try.prog 20 [bRows 3 Mv.cells l] [] (oRows 3 Mv.cells l) [] := by
  have h_m : DUM = 0 := rfl
  have hw_m : DUM = 0 := rfl
  have hlt_m : DUM = 0 := rfl
  have hf : DUM = 0 := rfl
  have hfl : DUM = 0 := rfl
  have hfs : DUM = 0 := rfl
  have hmk : (l.length : Int) * 24 ≤ 35184372088832 := by omega
  have hmk2 : (l.length : Int) ≤ 35184372088832 := by omega

  refine con_of_aw Try.func20 rfl Try.call20 (by simp [Try.ntmps20]) (by simp [V.inNs, V.inN]) (by simp [C.inN, V.inNss, V.inNs, V.inN, inNss_dd]) (by simp [V.inNs, V.inN]) (by simp [C.inN, V.inNss, V.inNs, V.inN, inNss_dd]) rfl ?_
  rw [Try.ntmps20, Try.results20]
  simp only [entryS, entryO, Nat.reduceAdd, List.length_nil, List.length_cons]
  repeat' (first
    | with_reducible refine aw_seq ?_
    | with_reducible refine aw_reg ?_
    | with_reducible refine aw_ret ?_
    | with_reducible refine aw_skip ?_
    | with_reducible refine aw_block ?_
    | with_reducible refine aw_exit ?_
    | with_reducible refine seqQ_normal ?_
    | with_reducible refine seqQ_ret ?_
    | with_reducible refine seqQ_exit ?_
    | with_reducible refine blockQ_normal ?_
    | with_reducible refine blockQ_ret ?_
    | with_reducible refine blockQ_this ?_
    | with_reducible refine blockQ_other (by decide) ?_
    | with_reducible refine regW_nil ?_
    | with_reducible refine aw_draw mixed ?_
    | (with_reducible refine regD_nil ?_
       refine ⟨by kernel_rfl, ?_⟩)
    | with_reducible refine retQ_ret ?_
    | with_reducible refine retQ_normal ?_
    | ((with_reducible refine aw_loopA _ (Nat.le_refl _) (fun x : Nat => [(.s 4, some (.v (V.int (x : Nat)))), (.s 0, some (.v (bRows 3 Mv.cells l))), (.s 3, some (.v (.sl 256 3 0 l.length))), (.r 256, some (.o 3 (dd (fill (l.map Mv.cells) [D.p (.int .i64 0), D.p (.int .i64 0), D.p (.int .i64 0)] x))))]) (fun x => (l.length) - x) (fun x => x ≤ l.length) (0) (by simp [slNL, C.inN, V.inN, V.inNs, V.inNss, inNss_dd, inNs_map_d]) (gh_to ?_) ?_ ?_)
       · simp only [SubL, putSt, lk, Res.s.injEq, Res.r.injEq, reduceCtorEq, Nat.reduceEqDiff, if_true, if_false, fill_zero, List.length_map, dd_set]; repeat' (first | apply And.intro | rfl | trivial)
       · simp_all; try omega
       intro x hJ
       have hb_m : x < 4611686018427387904 := by omega
       have hw_m := wrapS hb_m
       rcases Nat.lt_or_ge x (l.length) with hlt_m | hge_m
       obtain ⟨m, h_m⟩ := list_get hlt_m
       have hd_m := drop_cons h_m
       rotate_left
       have hd_m := drop_nil hge_m
       have hlt_m := Nat.not_lt.2 hge_m
       rotate_left
       have hf := fill_get (z := [D.p (.int .i64 0), D.p (.int .i64 0), D.p (.int .i64 0)]) (by simpa using hlt_m : x < (l.map Mv.cells).length)
       have hfl := fill_length (z := [D.p (.int .i64 0), D.p (.int .i64 0), D.p (.int .i64 0)]) (by simpa using hJ : x ≤ (l.map Mv.cells).length)
       have hfs := dd_fill_set (f := Mv.cells) (z := [D.p (.int .i64 0), D.p (.int .i64 0), D.p (.int .i64 0)]) h_m
       simp only [Mv.cells, List.map_cons, List.map_nil] at hfs
       rotate_left
       have hfl := fill_all (z := [D.p (.int .i64 0), D.p (.int .i64 0), D.p (.int .i64 0)]) (by simpa using hge_m : (l.map Mv.cells).length ≤ x)
       rotate_left
)
    | ((with_reducible refine next_to (x + 1) (Nat.le_refl _) (by simp [slNL, C.inN, V.inN, V.inNs, V.inNss, inNss_dd, inNs_map_d]) ?_ ?_ ?_)
       · simp only [SubL, putSt, lk, Res.s.injEq, Res.r.injEq, reduceCtorEq, Nat.reduceEqDiff, if_true, if_false, fill_zero, List.length_map, dd_set]; repeat' (first | apply And.intro | rfl | trivial)
       · simp_all; try omega
       · simp_all; try omega)
    | (first
        | ((with_reducible refine gh_ret ?_); simp only [RetW])
        | (with_reducible refine call_data (c_laws_toMov _ _ _) rfl ?_)
        | ((with_reducible apply call_auto (f := 47))
           · simp only [lendAL, lendA, Option.bind_some, Option.map_some, undd_dd, dd_length, dd_take, dd_drop, List.length_map, List.length_range, Nat.zero_add, Nat.add_zero, Nat.le_refl, true_and, and_true, and_self, take_len_map, take_marks, List.drop_zero, C.o.injEq, V.d.injEq, putSt, lk, Res.s.injEq, Res.r.injEq, reduceCtorEq, Nat.reduceEqDiff, if_true, if_false, fill_zero, take_len_map, List.take_length, List.drop_zero, List.length_replicate, Int.le_refl, Int.cast_ofNat_Int, hmk, hmk2, Mv.cells]; rfl
           · with_reducible exact c_laws_toMov _ _ _
           · first | rfl | exact nb_rows (fun _ => rfl) _ _
           simp only [V.namesOf, V.namesOfL, List.foldl_cons, List.foldl_nil, List.nil_append, List.append_nil, List.cons_append])
        | (with_reducible apply regD_op
           · simp only [dstOk, Nat.reduceLT]
           · simp only [Nat.reduceAdd]; rfl
           intro k hk
           simp only [stepP])
        | (with_reducible apply regW_op
           · simp only [dstOk, Nat.reduceLT]
           · simp only [Nat.reduceAdd]; rfl
           intro k hk)
       try simp only [opC, opP, fetchN, fetchP, fetchAll, fetchO, Prog.bind, Prog.wp, Prog.wp_bind, lk, nameP, nameAll, Value.oneCell', putSt, stepP, putP, Res.s.injEq, Res.r.injEq, reduceCtorEq, V.lin, V.linL, D.lin, isNil, binP, unP, intBin, BinOp.isShift, Prog.ofO, true_and, and_true, Nat.reduceAdd, Nat.reduceMul, Nat.reduceSub, Nat.reduceLT, Nat.reduceLeDiff, Nat.reduceEqDiff, Nat.add_zero, Nat.zero_add, Nat.le_refl, if_true, if_false, ite_true, ite_false, Bool.false_eq_true, List.length_nil, List.length_cons, Bool.not_true, Bool.not_false, Bool.or_false, Bool.or_true, fieldAddrP, fieldP, indexAddrP, loadP, storeP, boxP, allocP, cellsP, asVal, setSeg, outP, TyK.field, TyK.agg, zeroRow, List.getElem?_cons_zero, List.getElem?_cons_succ, List.take_succ_cons, List.take_zero, List.drop_succ_cons, List.drop_zero, List.set_cons_zero, List.set_cons_succ, List.nil_append, List.cons_append, List.append_nil, List.map_cons, List.map_nil, V.ren, V.renL, List.forall_mem_cons, List.not_mem_nil, List.mem_cons, forall_eq_or_imp, implies_true, false_implies, forall_const, and_self, true_or, minmaxP, lenP, lenOf, lenStr, V.asInt, Int.toNat_natCast, List.length_map, List.getElem?_map, Option.map_some, Int.ofNat_lt, Int.natCast_nonneg, decide_true, decide_false, Int.cast_ofNat_Int, nat_lt_zero, nat_one, nat_zero, dd_length, dd_get, dd_take, dd_drop, resGo_dd, undd_dd, take_len_map, take_marks, List.length_replicate, sliceP, boundP, makeSliceP, convertP, appendP, rowsOfP, ontoP, sizeFits, V.rowSize, TyK.src, resV, resV.go, resV.gol, retP, retOne, retAll, resTo, objsAre, ty2, ty3, ty4, ty34, ty37, ty57, ty59, ty70, ty72, fill_zero, take_len_map, List.take_length, List.drop_zero, List.length_replicate, Int.le_refl, Int.cast_ofNat_Int, hmk, hmk2, Mv.cells, h_m, hw_m, hlt_m, hf, hfl, hfs]
       try (refine hk _ _ _ _ ?_; clear hk k))
    | (with_reducible apply regW_skip
       · simp only [dstOk, Nat.reduceLT]
       · rfl
       · simp only [putSt, lk, Res.s.injEq, Res.r.injEq, reduceCtorEq, Nat.reduceEqDiff, if_true, if_false]; done)
    | (with_reducible apply regW_yesN
       · simp only [dstOk, Nat.reduceLT]
       · rfl
       · simp only [putSt, lk, Res.s.injEq, Res.r.injEq, reduceCtorEq, Nat.reduceEqDiff, if_true, if_false]; done)
    | (with_reducible apply regW_no
       · simp only [dstOk, Nat.reduceLT]
       · rfl
       · simp only [putSt, lk, Res.s.injEq, Res.r.injEq, reduceCtorEq, Nat.reduceEqDiff, if_true, if_false, Bool.not_true, Bool.not_false]; done)
    | (with_reducible apply regW_guardN
       · simp only [dstOk, Nat.reduceLT]
       · rfl
       · simp only [putSt, lk, Res.s.injEq, Res.r.injEq, reduceCtorEq, Nat.reduceEqDiff, if_true, if_false]; rfl
       intro hb
       rotate_left
       intro hb)
    | (with_reducible apply aw_cond
       · simp only [putSt, lk, Res.s.injEq, Res.r.injEq, reduceCtorEq, Nat.reduceEqDiff, if_true, if_false]; rfl
       all_goals (intro hc; try (cases hc; done))))

  all_goals (try (simp_all))
  all_goals (try rfl)
  all_goals (try (rw [Bool.eq_iff_iff]; simp; done))
  all_goals (try (rw [Bool.eq_iff_iff]; simp; omega))
  all_goals (try (intros; omega))
  all_goals (try grind)

end Go.Proofs.Ytdoboiiilcgbnaa
