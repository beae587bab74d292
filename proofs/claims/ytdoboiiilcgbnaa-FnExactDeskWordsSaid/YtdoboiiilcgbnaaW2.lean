/- WHAT IS PROVED: contracts of functions of the program, each by a walk of its code. Conditions: none. -/
import Derived.Test.YtdoboiiilcgbnaaW1
namespace Go.Proofs.Ytdoboiiilcgbnaa
open Go.Proofs Go.Proofs.Ytdoboiiilcgbnaa.L
set_option maxHeartbeats 1000000
set_option linter.unusedSimpArgs false
set_option linter.unusedVariables false

theorem ty61 : tyOf Try.prog 61 = some ⟨.slice 9, 1, 24, [Value.slice none 0 0]⟩ := by kernel_rfl

theorem sink_step {l : List ByteArray} {j : Nat} {x y : ByteArray} (h1 : l[j + 1]? = some x) (h2 : l[j]? = some y) (h : lessB x y = true) : sink l (j + 1) = sink ((l.set (j + 1) y).set j x) j := by
  rw [sink, h1, h2]; simp [h]
theorem sink_stop {l : List ByteArray} {j : Nat} {x y : ByteArray} (h1 : l[j + 1]? = some x) (h2 : l[j]? = some y) (h : lessB x y = false) : sink l (j + 1) = l := by
  rw [sink, h1, h2]; simp [h]
theorem ins_step {l : List ByteArray} {i n : Nat} (h : i < n) : insFrom l i (n - i) = insFrom (sink l i) (i + 1) (n - (i + 1)) := by
  rw [show n - i = (n - (i + 1)) + 1 by omega, insFrom]
theorem ins_end {l : List ByteArray} {i n : Nat} (h : n ≤ i) : insFrom l i (n - i) = l := by
  rw [show n - i = 0 by omega, insFrom]

theorem c_slices_insertionSortOrdered_string (l : List ByteArray) (h : l.length ≤ 1048576) : Con Try.prog 83 [.sl 0 1 0 l.length, V.int 0, V.int l.length] [.o 1 (dd (l.map S1))] (.tup []) [.o 1 (dd ((insFrom l 1 (l.length - 1)).map S1))] := by
  have h_o : DUM = 0 := rfl
  have hw_o : DUM = 0 := rfl
  have hlt_o : DUM = 0 := rfl
  have hw1 : DUM = 0 := rfl
  have ha : DUM = 0 := rfl
  have hb2 : DUM = 0 := rfl
  have hj1 : DUM = 0 := rfl
  have hj2 : DUM = 0 := rfl
  have hws : DUM = 0 := rfl
  have hj0 : DUM = 0 := rfl
  have hlj : DUM = 0 := rfl
  have hlj2 : DUM = 0 := rfl
  have hls : DUM = 0 := rfl
  have hw1 : IntKind.i64.wrap 1 = 1 := by rw [wrapIn] <;> omega

  refine con_of_aw Try.func83 rfl Try.call83 (by simp [Try.ntmps83]) (by simp [V.inNs, V.inN]) (by simp [C.inN, V.inNss, V.inNs, V.inN, inNss_dd]) (by simp [V.inNs, V.inN]) (by simp [C.inN, V.inNss, V.inNs, V.inN, inNss_dd]) rfl ?_
  rw [Try.ntmps83, Try.results83]
  simp only [entryS, entryO, Nat.reduceAdd, List.length_nil, List.length_cons]
  repeat' (first
    | with_reducible refine aw_seq ?_
    | with_reducible refine aw_reg ?_
    | with_reducible refine aw_ret ?_
    | with_reducible refine aw_skip ?_
    | with_reducible refine aw_block ?_
    | with_reducible refine aw_exit ?_
    | with_reducible refine seqQ_normal ?_
    | with_reducible refine seqQ_ret ?_
    | with_reducible refine seqQ_exit ?_
    | with_reducible refine blockQ_normal ?_
    | with_reducible refine blockQ_ret ?_
    | with_reducible refine blockQ_this ?_
    | with_reducible refine blockQ_other (by decide) ?_
    | with_reducible refine regW_nil ?_
    | with_reducible refine aw_draw mixed ?_
    | (with_reducible refine regD_nil ?_
       refine ⟨by kernel_rfl, ?_⟩)
    | with_reducible refine retQ_ret ?_
    | with_reducible refine retQ_normal ?_
    | ((with_reducible refine aw_loopA _ (Nat.le_refl _) (fun x : Nat × List ByteArray => [(.s 6, some (.v (V.int (x.1 : Nat)))), (.s 0, some (.v (.sl 0 1 0 l.length))), (.s 1, some (.v (V.int 0))), (.s 2, some (.v (V.int l.length))), (.r 0, some (.o 1 (dd (x.2.map S1))))]) (fun x => (l.length) - x.1) (fun x => 1 ≤ x.1 ∧ x.2.length = l.length ∧ x.1 ≤ 1048577 ∧ insFrom x.2 x.1 (l.length - x.1) = insFrom l 1 (l.length - 1)) ((1, l)) (by simp [slNL, C.inN, V.inN, V.inNs, V.inNss, inNss_dd, inNs_map_d]) (gh_to ?_) ?_ ?_)
       · simp only [SubL, putSt, lk, Res.s.injEq, Res.r.injEq, reduceCtorEq, Nat.reduceEqDiff, if_true, if_false]; repeat' (first | apply And.intro | rfl | trivial)
       · simp
       intro x hJ
       have hb_o : x.1 < 4611686018427387904 := by omega
       have hw_o := wrapS hb_o
       rcases Nat.lt_or_ge x.1 (l.length) with hlt_o | hge_o
       rotate_left
       have hlt_o := Nat.not_lt.2 hge_o
       rotate_left
)
    | ((with_reducible refine aw_loopA _ (Nat.le_refl _) (fun y : Nat × List ByteArray => [(.s 7, some (.v (V.int (y.1 : Nat)))), (.s 6, some (.v (V.int (x.1 : Nat)))), (.s 0, some (.v (.sl 0 1 0 l.length))), (.s 1, some (.v (V.int 0))), (.s 2, some (.v (V.int l.length))), (.r 0, some (.o 1 (dd (y.2.map S1))))]) (fun y => y.1) (fun y => y.1 ≤ x.1 ∧ y.2.length = l.length ∧ sink y.2 y.1 = sink x.2 x.1) ((x.1, x.2)) (by simp [slNL, C.inN, V.inN, V.inNs, V.inNss, inNss_dd, inNs_map_d]) (gh_to ?_) ?_ ?_)
       · simp only [SubL, putSt, lk, Res.s.injEq, Res.r.injEq, reduceCtorEq, Nat.reduceEqDiff, if_true, if_false, dd_setS, List.length_set]; repeat' (first | apply And.intro | rfl | trivial)
       · exact ⟨Nat.le_refl _, hJ.2.1, rfl⟩
       intro y hI
       obtain ⟨jj, cur⟩ := y
       rcases jj with _ | j
       rotate_left
       have hlj : j + 1 < l.length := by have := hI.1; simp only at this; omega
       have hlj2 : j < l.length := by omega
       have hcl : cur.length = l.length := hI.2.1
       obtain ⟨a, ha⟩ := list_get (l := cur) (k := j + 1) (by omega)
       obtain ⟨b, hb2⟩ := list_get (l := cur) (k := j) (by omega)
       have hls : (cur.set (j + 1) b)[j]? = some b := by rw [List.getElem?_set_ne (by omega)]; exact hb2
       have hj0 : (0 : Int) < ((j + 1 : Nat) : Int) := by omega
       have hws : IntKind.i64.wrap (((j + 1 : Nat) : Int) - 1) = ((j : Nat) : Int) := by rw [wrapIn] <;> omega
       rotate_left
)
    | ((with_reducible refine next_to ((x.1 + 1, cur)) (Nat.le_refl _) (by simp [slNL, C.inN, V.inN, V.inNs, V.inNss, inNss_dd, inNs_map_d]) ?_ ?_ ?_)
       · simp only [SubL, putSt, lk, Res.s.injEq, Res.r.injEq, reduceCtorEq, Nat.reduceEqDiff, if_true, if_false]; repeat' (first | apply And.intro | rfl | trivial)
       · first | omega | exact ⟨by omega, hI.2.1, by omega, by rw [← hJ.2.2.2, ins_step hlt_o, ← hI.2.2]; first | rfl | rw [sink_stop ha hb2 (by simpa using hc)]⟩
       · first | omega | exact ⟨by omega, hI.2.1, by omega, by rw [← hJ.2.2.2, ins_step hlt_o, ← hI.2.2]; first | rfl | rw [sink_stop ha hb2 (by simpa using hc)]⟩)
    | ((with_reducible refine next_to ((j, (cur.set (j + 1) b).set j a)) (Nat.le_refl _) (by simp [slNL, C.inN, V.inN, V.inNs, V.inNss, inNss_dd, inNs_map_d]) ?_ ?_ ?_)
       · simp only [SubL, putSt, lk, Res.s.injEq, Res.r.injEq, reduceCtorEq, Nat.reduceEqDiff, if_true, if_false, dd_setS, List.length_set]; repeat' (first | apply And.intro | rfl | trivial)
       · first | omega | exact ⟨by have := hI.1; simp only at this; omega, by simpa using hI.2.1, by rw [← sink_step ha hb2 (by simpa using hc)]; exact hI.2.2⟩
       · first | omega | exact ⟨by have := hI.1; simp only at this; omega, by simpa using hI.2.1, by rw [← sink_step ha hb2 (by simpa using hc)]; exact hI.2.2⟩)
    | ((with_reducible refine wp_ite ?_ ?_)
       all_goals (intro hg; try simp only [Bool.not_eq_true, Bool.not_eq_false] at hg; simp only [hg]))
    | with_reducible refine aw_cond_false ?_
    | with_reducible refine aw_cond_true ?_
    | (first
        | ((with_reducible refine gh_ret ?_); simp only [RetW])
        | (with_reducible refine call_data (c_cmp_Less_string _ _) rfl ?_)
        | ((with_reducible apply call_auto (f := 89))
           · simp only [lendAL, lendA, Option.bind_some, Option.map_some, undd_dd, dd_length, dd_take, dd_drop, List.length_map, List.length_range, Nat.zero_add, Nat.add_zero, Nat.le_refl, true_and, and_true, and_self, take_len_map, take_marks, List.drop_zero, C.o.injEq, V.d.injEq, putSt, lk, Res.s.injEq, Res.r.injEq, reduceCtorEq, Nat.reduceEqDiff, if_true, if_false, lend_mv, lend_n1, lend_s1, S1, dd_setS, gt_iff_lt, Int.lt_irrefl, Int.zero_add, Int.reduceAdd, hw1, List.getElem?_toArray, Option.bind_some, List.length_set, ByteArray.size]; rfl
           · with_reducible exact c_cmp_Less_string _ _
           · first | rfl | exact nb_rows (fun _ => rfl) _ _
           simp only [V.namesOf, V.namesOfL, List.foldl_cons, List.foldl_nil, List.nil_append, List.append_nil, List.cons_append])
        | (with_reducible apply regD_op
           · simp only [dstOk, Nat.reduceLT]
           · simp only [Nat.reduceAdd]; rfl
           intro k hk
           simp only [stepP])
        | (with_reducible apply regW_op
           · simp only [dstOk, Nat.reduceLT]
           · simp only [Nat.reduceAdd]; rfl
           intro k hk)
       try simp only [opC, opP, fetchN, fetchP, fetchAll, fetchO, Prog.bind, Prog.wp, Prog.wp_bind, lk, nameP, nameAll, Value.oneCell', putSt, stepP, putP, Res.s.injEq, Res.r.injEq, reduceCtorEq, V.lin, V.linL, D.lin, isNil, binP, unP, intBin, BinOp.isShift, Prog.ofO, true_and, and_true, Nat.reduceAdd, Nat.reduceMul, Nat.reduceSub, Nat.reduceLT, Nat.reduceLeDiff, Nat.reduceEqDiff, Nat.add_zero, Nat.zero_add, Nat.le_refl, if_true, if_false, ite_true, ite_false, Bool.false_eq_true, List.length_nil, List.length_cons, Bool.not_true, Bool.not_false, Bool.or_false, Bool.or_true, fieldAddrP, fieldP, indexAddrP, loadP, storeP, boxP, allocP, cellsP, asVal, setSeg, outP, TyK.field, TyK.agg, zeroRow, List.getElem?_cons_zero, List.getElem?_cons_succ, List.take_succ_cons, List.take_zero, List.drop_succ_cons, List.drop_zero, List.set_cons_zero, List.set_cons_succ, List.nil_append, List.cons_append, List.append_nil, List.map_cons, List.map_nil, V.ren, V.renL, List.forall_mem_cons, List.not_mem_nil, List.mem_cons, forall_eq_or_imp, implies_true, false_implies, forall_const, and_self, true_or, minmaxP, lenP, lenOf, lenStr, V.asInt, Int.toNat_natCast, List.length_map, List.getElem?_map, Option.map_some, Int.ofNat_lt, Int.natCast_nonneg, decide_true, decide_false, Int.cast_ofNat_Int, nat_lt_zero, nat_one, nat_zero, dd_length, dd_get, dd_take, dd_drop, resGo_dd, undd_dd, take_len_map, take_marks, List.length_replicate, sliceP, boundP, makeSliceP, convertP, appendP, rowsOfP, ontoP, sizeFits, V.rowSize, TyK.src, resV, resV.go, resV.gol, retP, retOne, retAll, resTo, objsAre, ty3, ty4, ty9, ty61, S1, dd_setS, gt_iff_lt, Int.lt_irrefl, Int.zero_add, Int.reduceAdd, hw1, List.getElem?_toArray, Option.bind_some, List.length_set, ByteArray.size, h_o, hw_o, hlt_o, hw1, ha, hb2, hj1, hj2, hws, hj0, hlj, hlj2, hls]
       try (refine hk _ _ _ _ ?_; clear hk k))
    | (with_reducible apply regW_skip
       · simp only [dstOk, Nat.reduceLT]
       · rfl
       · simp only [putSt, lk, Res.s.injEq, Res.r.injEq, reduceCtorEq, Nat.reduceEqDiff, if_true, if_false]; done)
    | (with_reducible apply regW_yesN
       · simp only [dstOk, Nat.reduceLT]
       · rfl
       · simp only [putSt, lk, Res.s.injEq, Res.r.injEq, reduceCtorEq, Nat.reduceEqDiff, if_true, if_false]; done)
    | (with_reducible apply regW_no
       · simp only [dstOk, Nat.reduceLT]
       · rfl
       · simp only [putSt, lk, Res.s.injEq, Res.r.injEq, reduceCtorEq, Nat.reduceEqDiff, if_true, if_false, Bool.not_true, Bool.not_false]; done)
    | (with_reducible apply regW_guardN
       · simp only [dstOk, Nat.reduceLT]
       · rfl
       · simp only [putSt, lk, Res.s.injEq, Res.r.injEq, reduceCtorEq, Nat.reduceEqDiff, if_true, if_false]; rfl
       intro hb
       rotate_left
       intro hb)
    | (with_reducible apply aw_cond
       · simp only [putSt, lk, Res.s.injEq, Res.r.injEq, reduceCtorEq, Nat.reduceEqDiff, if_true, if_false]; rfl
       all_goals (intro hc; try (cases hc; done))))

  all_goals (try (first | (rw [← hJ.2.2.2, ins_end hge_o]; done) | simp_all))
  all_goals (try rfl)
  all_goals (try (rw [Bool.eq_iff_iff]; simp; done))
  all_goals (try (rw [Bool.eq_iff_iff]; simp; omega))
  all_goals (try (intros; omega))
  all_goals (try grind)

end Go.Proofs.Ytdoboiiilcgbnaa
