/- WHAT IS PROVED: contracts of functions of the program, each by a walk of its code. Conditions: none. -/
import Derived.Test.YtdoboiiilcgbnaaK5
namespace Go.Proofs.Ytdoboiiilcgbnaa
open Go.Proofs Go.Proofs.Ytdoboiiilcgbnaa.L
set_option maxHeartbeats 1000000
set_option linter.unusedSimpArgs false
set_option linter.unusedVariables false

theorem ceq (a b : Nat) : ((a : Int) == b) = (a == b) := by rw [Bool.eq_iff_iff]; simp; omega

theorem c_spec_MovesDone (l : List Mv) (locs : List Int) (h : l.length ≤ 1048576) (h2 : locs.length ≤ 1048576) : Con Try.prog 23 [bRows 3 Mv.cells l, bRows 1 N1 locs] [] (oRows 1 N1 (mdone l locs)) [] := by
  have h_m : DUM = 0 := rfl
  have hw_m : DUM = 0 := rfl
  have hlt_m : DUM = 0 := rfl
  have hto0 : DUM = 0 := rfl
  have hto1 : DUM = 0 := rfl
  have hold : DUM = 0 := rfl

  refine con_of_aw Try.func23 rfl Try.call23 (by simp [Try.ntmps23]) (by simp [V.inNs, V.inN]) (by simp [C.inN, V.inNss, V.inNs, V.inN, inNss_dd]) (by simp [V.inNs, V.inN]) (by simp [C.inN, V.inNss, V.inNs, V.inN, inNss_dd]) rfl ?_
  rw [Try.ntmps23, Try.results23]
  simp only [entryS, entryO, Nat.reduceAdd, List.length_nil, List.length_cons]
  repeat' (first
    | with_reducible refine aw_seq ?_
    | with_reducible refine aw_reg ?_
    | with_reducible refine aw_ret ?_
    | with_reducible refine aw_skip ?_
    | with_reducible refine aw_block ?_
    | with_reducible refine aw_exit ?_
    | with_reducible refine seqQ_normal ?_
    | with_reducible refine seqQ_ret ?_
    | with_reducible refine seqQ_exit ?_
    | with_reducible refine blockQ_normal ?_
    | with_reducible refine blockQ_ret ?_
    | with_reducible refine blockQ_this ?_
    | with_reducible refine blockQ_other (by decide) ?_
    | with_reducible refine regW_nil ?_
    | with_reducible refine aw_draw mixed ?_
    | (with_reducible refine regD_nil ?_
       refine ⟨by kernel_rfl, ?_⟩)
    | with_reducible refine retQ_ret ?_
    | with_reducible refine retQ_normal ?_
    | ((with_reducible refine aw_loopA _ (Nat.le_refl _) (fun x : Nat × List Int => [(.s 6, some (.v (V.int (x.1 : Nat)))), (.s 0, some (.v (bRows 3 Mv.cells l))), (.s 5, some (.v (.sl 1280 1 0 x.2.length))), (.r 1280, some (.o 1 (dd (x.2.map N1))))]) (fun x => (l.length) - x.1) (fun x => x.1 ≤ l.length ∧ l.all movOk = true ∧ x.2.length = 22 ∧ l.length ≤ 40 ∧ locs.length = 22 ∧ runM l locs = runM (l.drop x.1) x.2) ((0, locs)) (by simp [slNL, C.inN, V.inN, V.inNs, V.inNss, inNss_dd, inNs_map_d]) (gh_to ?_) ?_ ?_)
       · simp only [SubL, putSt, lk, Res.s.injEq, Res.r.injEq, reduceCtorEq, Nat.reduceEqDiff, if_true, if_false, dd_set1, List.length_set]; repeat' (first | apply And.intro | rfl | trivial)
       · simp_all; try omega
       intro x hJ
       have hb_m : x.1 < 4611686018427387904 := by omega
       have hw_m := wrapS hb_m
       rcases Nat.lt_or_ge x.1 (l.length) with hlt_m | hge_m
       obtain ⟨m, h_m⟩ := list_get hlt_m
       have hd_m := drop_cons h_m
       rotate_left
       have hd_m := drop_nil hge_m
       have hlt_m := Nat.not_lt.2 hge_m
       rotate_left
       have hmm : m ∈ l := List.mem_of_getElem? h_m
       have hok := List.all_eq_true.1 hJ.2.1 m hmm
       obtain ⟨hto0, hto1', hrd'⟩ := movOk_facts hok
       have hto1 : m.to < x.2.length := by rw [hJ.2.2.1]; exact hto1'
       have hrd : m.src.kind = 1 → 0 ≤ m.src.n ∧ m.src.n < x.2.length := by rw [hJ.2.2.1]; exact hrd'
       have htn : m.to.toNat < x.2.length := by rw [hJ.2.2.1]; omega
       obtain ⟨old, hold⟩ := list_get htn
       have hlen := hJ.2.2.1
       rotate_left
       rotate_left
)
    | ((with_reducible refine next_to ((x.1 + 1, x.2.set m.to.toNat (rd m.src x.2))) (Nat.le_refl _) (by simp [slNL, C.inN, V.inN, V.inNs, V.inNss, inNss_dd, inNs_map_d]) ?_ ?_ ?_)
       · simp only [SubL, putSt, lk, Res.s.injEq, Res.r.injEq, reduceCtorEq, Nat.reduceEqDiff, if_true, if_false, dd_set1, List.length_set]; repeat' (first | apply And.intro | rfl | trivial)
       · simp_all [runM]; try omega
       · simp_all [runM]; try omega)
    | (first
        | ((with_reducible refine gh_ret ?_); simp only [RetW])
        | (with_reducible refine call_data (c_spec_l06Nums locs h2) rfl ?_)
        | (with_reducible refine call_data (c_spec_MovesRight _) rfl ?_)
        | ((with_reducible apply call_auto (f := 19))
           · simp only [lendAL, lendA, Option.bind_some, Option.map_some, undd_dd, dd_length, dd_take, dd_drop, List.length_map, List.length_range, Nat.zero_add, Nat.add_zero, Nat.le_refl, true_and, and_true, and_self, take_len_map, take_marks, List.drop_zero, C.o.injEq, V.d.injEq, putSt, lk, Res.s.injEq, Res.r.injEq, reduceCtorEq, Nat.reduceEqDiff, if_true, if_false, lend_mv, lend_n1, Mv.cells, N1, Vl.eta, Mv.eta, buildSliceP, putParts, structPlaces, chunks, List.replicate, List.flatten_nil, lend_n1, dd_set1, Nat.zero_add]; rfl
           · with_reducible exact c_spec_MovesRight _
           · first | rfl | exact nb_rows (fun _ => rfl) _ _
           simp only [V.namesOf, V.namesOfL, List.foldl_cons, List.foldl_nil, List.nil_append, List.append_nil, List.cons_append])
        | (with_reducible refine call_data (c_spec_l06Nums _ (by first | assumption | omega)) rfl ?_)
        | ((with_reducible apply call_auto (f := 50))
           · simp only [lendAL, lendA, Option.bind_some, Option.map_some, undd_dd, dd_length, dd_take, dd_drop, List.length_map, List.length_range, Nat.zero_add, Nat.add_zero, Nat.le_refl, true_and, and_true, and_self, take_len_map, take_marks, List.drop_zero, C.o.injEq, V.d.injEq, putSt, lk, Res.s.injEq, Res.r.injEq, reduceCtorEq, Nat.reduceEqDiff, if_true, if_false, lend_mv, lend_n1, Mv.cells, N1, Vl.eta, Mv.eta, buildSliceP, putParts, structPlaces, chunks, List.replicate, List.flatten_nil, lend_n1, dd_set1, Nat.zero_add]; rfl
           · with_reducible exact c_spec_l06Nums _ (by first | assumption | omega)
           · first | rfl | exact nb_rows (fun _ => rfl) _ _
           simp only [V.namesOf, V.namesOfL, List.foldl_cons, List.foldl_nil, List.nil_append, List.append_nil, List.cons_append])
        | (with_reducible refine call_data (c_spec_l11Read _ _ _ (by first | assumption | omega)) rfl ?_)
        | ((with_reducible apply call_auto (f := 51))
           · simp only [lendAL, lendA, Option.bind_some, Option.map_some, undd_dd, dd_length, dd_take, dd_drop, List.length_map, List.length_range, Nat.zero_add, Nat.add_zero, Nat.le_refl, true_and, and_true, and_self, take_len_map, take_marks, List.drop_zero, C.o.injEq, V.d.injEq, putSt, lk, Res.s.injEq, Res.r.injEq, reduceCtorEq, Nat.reduceEqDiff, if_true, if_false, lend_mv, lend_n1, Mv.cells, N1, Vl.eta, Mv.eta, buildSliceP, putParts, structPlaces, chunks, List.replicate, List.flatten_nil, lend_n1, dd_set1, Nat.zero_add]; rfl
           · with_reducible exact c_spec_l11Read _ _ _ (by first | assumption | omega)
           · first | rfl | exact nb_rows (fun _ => rfl) _ _
           simp only [V.namesOf, V.namesOfL, List.foldl_cons, List.foldl_nil, List.nil_append, List.append_nil, List.cons_append])
        | (with_reducible apply regD_op
           · simp only [dstOk, Nat.reduceLT]
           · simp only [Nat.reduceAdd]; rfl
           intro k hk
           simp only [stepP])
        | (with_reducible apply regW_op
           · simp only [dstOk, Nat.reduceLT]
           · simp only [Nat.reduceAdd]; rfl
           intro k hk)
       try simp only [opC, opP, fetchN, fetchP, fetchAll, fetchO, Prog.bind, Prog.wp, Prog.wp_bind, lk, nameP, nameAll, Value.oneCell', putSt, stepP, putP, Res.s.injEq, Res.r.injEq, reduceCtorEq, V.lin, V.linL, D.lin, isNil, binP, unP, intBin, BinOp.isShift, Prog.ofO, true_and, and_true, Nat.reduceAdd, Nat.reduceMul, Nat.reduceSub, Nat.reduceLT, Nat.reduceLeDiff, Nat.reduceEqDiff, Nat.add_zero, Nat.zero_add, Nat.le_refl, if_true, if_false, ite_true, ite_false, Bool.false_eq_true, List.length_nil, List.length_cons, Bool.not_true, Bool.not_false, Bool.or_false, Bool.or_true, fieldAddrP, fieldP, indexAddrP, loadP, storeP, boxP, allocP, cellsP, asVal, setSeg, outP, TyK.field, TyK.agg, zeroRow, List.getElem?_cons_zero, List.getElem?_cons_succ, List.take_succ_cons, List.take_zero, List.drop_succ_cons, List.drop_zero, List.set_cons_zero, List.set_cons_succ, List.nil_append, List.cons_append, List.append_nil, List.map_cons, List.map_nil, V.ren, V.renL, List.forall_mem_cons, List.not_mem_nil, List.mem_cons, forall_eq_or_imp, implies_true, false_implies, forall_const, and_self, true_or, minmaxP, lenP, lenOf, lenStr, V.asInt, Int.toNat_natCast, List.length_map, List.getElem?_map, Option.map_some, Int.ofNat_lt, Int.natCast_nonneg, decide_true, decide_false, Int.cast_ofNat_Int, nat_lt_zero, nat_one, nat_zero, dd_length, dd_get, dd_take, dd_drop, resGo_dd, undd_dd, take_len_map, take_marks, List.length_replicate, sliceP, boundP, makeSliceP, convertP, appendP, rowsOfP, ontoP, sizeFits, V.rowSize, TyK.src, resV, resV.go, resV.gol, retP, retOne, retAll, resTo, objsAre, ty2, ty3, ty4, ty37, ty41, ty57, ty59, Mv.cells, N1, Vl.eta, Mv.eta, buildSliceP, putParts, structPlaces, chunks, List.replicate, List.flatten_nil, lend_n1, dd_set1, Nat.zero_add, h_m, hw_m, hlt_m, hto0, hto1, hold]
       try (refine hk _ _ _ _ ?_; clear hk k))
    | (with_reducible apply regW_skip
       · simp only [dstOk, Nat.reduceLT]
       · rfl
       · simp only [putSt, lk, Res.s.injEq, Res.r.injEq, reduceCtorEq, Nat.reduceEqDiff, if_true, if_false]; done)
    | (with_reducible apply regW_yesN
       · simp only [dstOk, Nat.reduceLT]
       · rfl
       · simp only [putSt, lk, Res.s.injEq, Res.r.injEq, reduceCtorEq, Nat.reduceEqDiff, if_true, if_false]; done)
    | (with_reducible apply regW_no
       · simp only [dstOk, Nat.reduceLT]
       · rfl
       · simp only [putSt, lk, Res.s.injEq, Res.r.injEq, reduceCtorEq, Nat.reduceEqDiff, if_true, if_false, Bool.not_true, Bool.not_false]; done)
    | (with_reducible apply regW_guardN
       · simp only [dstOk, Nat.reduceLT]
       · rfl
       · simp only [putSt, lk, Res.s.injEq, Res.r.injEq, reduceCtorEq, Nat.reduceEqDiff, if_true, if_false]; rfl
       intro hb
       rotate_left
       intro hb)
    | (with_reducible apply aw_cond
       · simp only [putSt, lk, Res.s.injEq, Res.r.injEq, reduceCtorEq, Nat.reduceEqDiff, if_true, if_false]; rfl
       all_goals (intro hc; try (cases hc; done))))

  all_goals (try (first | (simp_all [mdone, runM]; done) | (unfold mdone; rw [if_neg (by intro hh; simp at hh hb hc; omega)]; rfl) | (unfold mdone; rw [if_neg (by intro hh; simp_all; omega)]; rfl) | (unfold mdone; rw [if_neg (by intro hh; simp_all)]; rfl)))
  all_goals (try rfl)
  all_goals (try (rw [Bool.eq_iff_iff]; simp; done))
  all_goals (try (rw [Bool.eq_iff_iff]; simp; omega))
  all_goals (try (intros; omega))
  all_goals (try grind)

end Go.Proofs.Ytdoboiiilcgbnaa
