/- WHAT IS PROVED: contracts of functions of the program, each by a walk of its code. Conditions: none. -/
import Derived.Test.YtdoboiiilcgbnaaQ2
namespace Go.Proofs.Ytdoboiiilcgbnaa
open Go.Proofs Go.Proofs.Ytdoboiiilcgbnaa.L
set_option maxHeartbeats 1000000
set_option linter.unusedSimpArgs false
set_option linter.unusedVariables false

theorem fk57 : flatK Try.prog 57 = some [0, 0] := by kernel_rfl
def waits (m n : Mv) : Bool := decide (n.to ≠ m.to) && decide (n.src = ⟨1, m.to⟩)
def blk (l : List Mv) (m : Mv) : Bool := l.any (waits m)
theorem src_eq (k n t : Int) : ((k == 1) && ((n == t) && true)) = decide ((⟨k, n⟩ : Vl) = ⟨1, t⟩) := by
  rw [Bool.eq_iff_iff]; simp
theorem src_eq2 (v : Vl) (t : Int) : ((v.kind == 1) && ((v.n == t) && true)) = decide (v = ⟨1, t⟩) := src_eq v.kind v.n t
theorem to_ne {l : List Mv} {i k : Nat} {m n : Mv} (hn : (l.map Mv.to).Nodup) (h1 : l[i]? = some m) (h2 : l[k]? = some n) (hne : k ≠ i) : n.to ≠ m.to := by
  intro e
  obtain ⟨hi, e1⟩ := List.getElem?_eq_some_iff.1 h1
  obtain ⟨hk, e2⟩ := List.getElem?_eq_some_iff.1 h2
  have hp := List.pairwise_iff_getElem.1 hn
  rcases Nat.lt_or_gt_of_ne hne with h | h
  · exact hp k i (by simpa using hk) (by simpa using hi) h (by simp [e1, e2, e])
  · exact hp i k (by simpa using hi) (by simpa using hk) h (by simp [e1, e2, e])

theorem c_impl_loc (n : Int) : Con Try.prog 59 [V.int n] [] (.agg [V.int 1, V.int n]) [] := by

  refine con_of_aw Try.func59 rfl Try.call59 (by simp [Try.ntmps59]) (by simp [V.inNs, V.inN]) (by simp [C.inN, V.inNss, V.inNs, V.inN, inNss_dd]) (by simp [V.inNs, V.inN]) (by simp [C.inN, V.inNss, V.inNs, V.inN, inNss_dd]) rfl ?_
  rw [Try.ntmps59, Try.results59]
  simp only [entryS, entryO, Nat.reduceAdd, List.length_nil, List.length_cons]
  repeat' (first
    | with_reducible refine aw_seq ?_
    | with_reducible refine aw_reg ?_
    | with_reducible refine aw_ret ?_
    | with_reducible refine aw_skip ?_
    | with_reducible refine aw_block ?_
    | with_reducible refine aw_exit ?_
    | with_reducible refine seqQ_normal ?_
    | with_reducible refine seqQ_ret ?_
    | with_reducible refine seqQ_exit ?_
    | with_reducible refine blockQ_normal ?_
    | with_reducible refine blockQ_ret ?_
    | with_reducible refine blockQ_this ?_
    | with_reducible refine blockQ_other (by decide) ?_
    | with_reducible refine regW_nil ?_
    | with_reducible refine aw_draw mixed ?_
    | (with_reducible refine regD_nil ?_
       refine ⟨by kernel_rfl, ?_⟩)
    | with_reducible refine retQ_ret ?_
    | with_reducible refine retQ_normal ?_
    | (first
        | ((with_reducible refine gh_ret ?_); simp only [RetW])
        | (with_reducible apply regD_op
           · simp only [dstOk, Nat.reduceLT]
           · simp only [Nat.reduceAdd]; rfl
           intro k hk
           simp only [stepP])
        | (with_reducible apply regW_op
           · simp only [dstOk, Nat.reduceLT]
           · simp only [Nat.reduceAdd]; rfl
           intro k hk)
       try simp only [opC, opP, fetchN, fetchP, fetchAll, fetchO, Prog.bind, Prog.wp, Prog.wp_bind, lk, nameP, nameAll, Value.oneCell', putSt, stepP, putP, Res.s.injEq, Res.r.injEq, reduceCtorEq, V.lin, V.linL, D.lin, isNil, binP, unP, intBin, BinOp.isShift, Prog.ofO, true_and, and_true, Nat.reduceAdd, Nat.reduceMul, Nat.reduceSub, Nat.reduceLT, Nat.reduceLeDiff, Nat.reduceEqDiff, Nat.add_zero, Nat.zero_add, Nat.le_refl, if_true, if_false, ite_true, ite_false, Bool.false_eq_true, List.length_nil, List.length_cons, Bool.not_true, Bool.not_false, Bool.or_false, Bool.or_true, fieldAddrP, fieldP, indexAddrP, loadP, storeP, boxP, allocP, cellsP, asVal, setSeg, outP, TyK.field, TyK.agg, zeroRow, List.getElem?_cons_zero, List.getElem?_cons_succ, List.take_succ_cons, List.take_zero, List.drop_succ_cons, List.drop_zero, List.set_cons_zero, List.set_cons_succ, List.nil_append, List.cons_append, List.append_nil, List.map_cons, List.map_nil, V.ren, V.renL, List.forall_mem_cons, List.not_mem_nil, List.mem_cons, forall_eq_or_imp, implies_true, false_implies, forall_const, and_self, true_or, minmaxP, lenP, lenOf, lenStr, V.asInt, Int.toNat_natCast, List.length_map, List.getElem?_map, Option.map_some, Int.ofNat_lt, Int.natCast_nonneg, decide_true, decide_false, Int.cast_ofNat_Int, nat_lt_zero, nat_one, nat_zero, dd_length, dd_get, dd_take, dd_drop, resGo_dd, undd_dd, take_len_map, take_marks, List.length_replicate, sliceP, boundP, makeSliceP, convertP, appendP, rowsOfP, ontoP, sizeFits, V.rowSize, TyK.src, resV, resV.go, resV.gol, retP, retOne, retAll, resTo, objsAre, ty2, ty57, buildP, putParts, structPlaces, setSeg, binP, cellsEq, cellEq, Option.bind_some, Option.map_some, Option.bind_eq_bind]
       try (refine hk _ _ _ _ ?_; clear hk k))
    | (with_reducible apply regW_skip
       · simp only [dstOk, Nat.reduceLT]
       · rfl
       · simp only [putSt, lk, Res.s.injEq, Res.r.injEq, reduceCtorEq, Nat.reduceEqDiff, if_true, if_false]; done)
    | (with_reducible apply regW_yesN
       · simp only [dstOk, Nat.reduceLT]
       · rfl
       · simp only [putSt, lk, Res.s.injEq, Res.r.injEq, reduceCtorEq, Nat.reduceEqDiff, if_true, if_false]; done)
    | (with_reducible apply regW_no
       · simp only [dstOk, Nat.reduceLT]
       · rfl
       · simp only [putSt, lk, Res.s.injEq, Res.r.injEq, reduceCtorEq, Nat.reduceEqDiff, if_true, if_false, Bool.not_true, Bool.not_false]; done)
    | (with_reducible apply regW_guardN
       · simp only [dstOk, Nat.reduceLT]
       · rfl
       · simp only [putSt, lk, Res.s.injEq, Res.r.injEq, reduceCtorEq, Nat.reduceEqDiff, if_true, if_false]; rfl
       intro hb
       rotate_left
       intro hb)
    | (with_reducible apply aw_cond
       · simp only [putSt, lk, Res.s.injEq, Res.r.injEq, reduceCtorEq, Nat.reduceEqDiff, if_true, if_false]; rfl
       all_goals (intro hc; try (cases hc; done))))

  all_goals (try (simp_all))
  all_goals (try rfl)
  all_goals (try (rw [Bool.eq_iff_iff]; simp; done))
  all_goals (try (rw [Bool.eq_iff_iff]; simp; omega))
  all_goals (try (intros; omega))
  all_goals (try grind)

theorem c_spec_l16Blocked (l : List Mv) (i : Nat) (m : Mv) (h : l.length ≤ 1048576) (hm : l[i]? = some m) (hn : (l.map Mv.to).Nodup) : Con Try.prog 71 [bRows 3 Mv.cells l, V.int i] [] (V.bool (blk l m)) [] := by
  have h_q : DUM = 0 := rfl
  have hw_q : DUM = 0 := rfl
  have hlt_q : DUM = 0 := rfl
  have hwt : DUM = 0 := rfl
  have hil : i < l.length := (List.getElem?_eq_some_iff.1 hm).1
  have hne : DUM = 0 := rfl

  refine con_of_aw Try.func71 rfl Try.call71 (by simp [Try.ntmps71]) (by simp [V.inNs, V.inN]) (by simp [C.inN, V.inNss, V.inNs, V.inN, inNss_dd]) (by simp [V.inNs, V.inN]) (by simp [C.inN, V.inNss, V.inNs, V.inN, inNss_dd]) rfl ?_
  rw [Try.ntmps71, Try.results71]
  simp only [entryS, entryO, Nat.reduceAdd, List.length_nil, List.length_cons]
  repeat' (first
    | with_reducible refine aw_seq ?_
    | with_reducible refine aw_reg ?_
    | with_reducible refine aw_ret ?_
    | with_reducible refine aw_skip ?_
    | with_reducible refine aw_block ?_
    | with_reducible refine aw_exit ?_
    | with_reducible refine seqQ_normal ?_
    | with_reducible refine seqQ_ret ?_
    | with_reducible refine seqQ_exit ?_
    | with_reducible refine blockQ_normal ?_
    | with_reducible refine blockQ_ret ?_
    | with_reducible refine blockQ_this ?_
    | with_reducible refine blockQ_other (by decide) ?_
    | with_reducible refine regW_nil ?_
    | with_reducible refine aw_draw mixed ?_
    | (with_reducible refine regD_nil ?_
       refine ⟨by kernel_rfl, ?_⟩)
    | with_reducible refine retQ_ret ?_
    | with_reducible refine retQ_normal ?_
    | ((with_reducible refine aw_loopA _ (Nat.le_refl _) (fun x : Nat => [(.s 5, some (.v (V.int (x : Nat)))), (.s 0, some (.v (bRows 3 Mv.cells l))), (.s 1, some (.v (V.int (i : Nat))))]) (fun x => (l.length) - x) (fun x => x ≤ l.length ∧ blk l m = (l.drop x).any (waits m)) (0) (by simp [slNL, C.inN, V.inN, V.inNs, V.inNss, inNss_dd, inNs_map_d]) (gh_to ?_) ?_ ?_)
       · simp only [SubL, putSt, lk, Res.s.injEq, Res.r.injEq, reduceCtorEq, Nat.reduceEqDiff, if_true, if_false]; repeat' (first | apply And.intro | rfl | trivial)
       · exact ⟨Nat.zero_le _, rfl⟩
       intro x hJ
       have hb_q : x < 4611686018427387904 := by omega
       have hw_q := wrapS hb_q
       rcases Nat.lt_or_ge x (l.length) with hlt_q | hge_q
       obtain ⟨q, h_q⟩ := list_get hlt_q
       have hd_q := drop_cons h_q
       rotate_left
       have hd_q := drop_nil hge_q
       have hlt_q := Nat.not_lt.2 hge_q
       rotate_left
       rcases Nat.decEq x i with hxi | hxi
       have hne : ((x : Int) != (i : Int)) = true := by simp; omega
       have hto := to_ne hn hm h_q hxi
       have hwt : waits m q = decide (q.src = ⟨1, m.to⟩) := by simp [waits, hto]
       rotate_left
       have hne : ((x : Int) != (i : Int)) = false := by simp; omega
       have hqm : q = m := by rw [hxi] at h_q; rw [hm] at h_q; exact (Option.some.inj h_q).symm
       have hwt : waits m q = false := by simp [waits, hqm]
       rotate_left
)
    | ((with_reducible refine next_to (x + 1) (Nat.le_refl _) (by simp [slNL, C.inN, V.inN, V.inNs, V.inNss, inNss_dd, inNs_map_d]) ?_ ?_ ?_)
       · simp only [SubL, putSt, lk, Res.s.injEq, Res.r.injEq, reduceCtorEq, Nat.reduceEqDiff, if_true, if_false]; repeat' (first | apply And.intro | rfl | trivial)
       · simp_all; try omega
       · simp_all; try omega)
    | (first
        | ((with_reducible refine gh_ret ?_); simp only [RetW])
        | (with_reducible apply regD_op
           · simp only [dstOk, Nat.reduceLT]
           · simp only [Nat.reduceAdd]; rfl
           intro k hk
           simp only [stepP])
        | (with_reducible apply regW_op
           · simp only [dstOk, Nat.reduceLT]
           · simp only [Nat.reduceAdd]; rfl
           intro k hk)
       try simp only [opC, opP, fetchN, fetchP, fetchAll, fetchO, Prog.bind, Prog.wp, Prog.wp_bind, lk, nameP, nameAll, Value.oneCell', putSt, stepP, putP, Res.s.injEq, Res.r.injEq, reduceCtorEq, V.lin, V.linL, D.lin, isNil, binP, unP, intBin, BinOp.isShift, Prog.ofO, true_and, and_true, Nat.reduceAdd, Nat.reduceMul, Nat.reduceSub, Nat.reduceLT, Nat.reduceLeDiff, Nat.reduceEqDiff, Nat.add_zero, Nat.zero_add, Nat.le_refl, if_true, if_false, ite_true, ite_false, Bool.false_eq_true, List.length_nil, List.length_cons, Bool.not_true, Bool.not_false, Bool.or_false, Bool.or_true, fieldAddrP, fieldP, indexAddrP, loadP, storeP, boxP, allocP, cellsP, asVal, setSeg, outP, TyK.field, TyK.agg, zeroRow, List.getElem?_cons_zero, List.getElem?_cons_succ, List.take_succ_cons, List.take_zero, List.drop_succ_cons, List.drop_zero, List.set_cons_zero, List.set_cons_succ, List.nil_append, List.cons_append, List.append_nil, List.map_cons, List.map_nil, V.ren, V.renL, List.forall_mem_cons, List.not_mem_nil, List.mem_cons, forall_eq_or_imp, implies_true, false_implies, forall_const, and_self, true_or, minmaxP, lenP, lenOf, lenStr, V.asInt, Int.toNat_natCast, List.length_map, List.getElem?_map, Option.map_some, Int.ofNat_lt, Int.natCast_nonneg, decide_true, decide_false, Int.cast_ofNat_Int, nat_lt_zero, nat_one, nat_zero, dd_length, dd_get, dd_take, dd_drop, resGo_dd, undd_dd, take_len_map, take_marks, List.length_replicate, sliceP, boundP, makeSliceP, convertP, appendP, rowsOfP, ontoP, sizeFits, V.rowSize, TyK.src, resV, resV.go, resV.gol, retP, retOne, retAll, resTo, objsAre, ty2, ty3, ty4, ty37, ty57, ty59, Mv.cells, hm, hil, hne, List.getElem?_toArray, Option.bind_some, src_eq2, buildP, putParts, structPlaces, setSeg, binP, fk57, cellsEq, cellEq, Option.bind_some, Option.map_some, Option.bind_eq_bind, h_q, hw_q, hlt_q, hwt]
       try (refine hk _ _ _ _ ?_; clear hk k))
    | (with_reducible apply regW_skip
       · simp only [dstOk, Nat.reduceLT]
       · rfl
       · simp only [putSt, lk, Res.s.injEq, Res.r.injEq, reduceCtorEq, Nat.reduceEqDiff, if_true, if_false]; done)
    | (with_reducible apply regW_yesN
       · simp only [dstOk, Nat.reduceLT]
       · rfl
       · simp only [putSt, lk, Res.s.injEq, Res.r.injEq, reduceCtorEq, Nat.reduceEqDiff, if_true, if_false]; done)
    | (with_reducible apply regW_no
       · simp only [dstOk, Nat.reduceLT]
       · rfl
       · simp only [putSt, lk, Res.s.injEq, Res.r.injEq, reduceCtorEq, Nat.reduceEqDiff, if_true, if_false, Bool.not_true, Bool.not_false]; done)
    | (with_reducible apply regW_guardN
       · simp only [dstOk, Nat.reduceLT]
       · rfl
       · simp only [putSt, lk, Res.s.injEq, Res.r.injEq, reduceCtorEq, Nat.reduceEqDiff, if_true, if_false]; rfl
       intro hb
       rotate_left
       intro hb)
    | (with_reducible apply aw_cond
       · simp only [putSt, lk, Res.s.injEq, Res.r.injEq, reduceCtorEq, Nat.reduceEqDiff, if_true, if_false]; rfl
       all_goals (intro hc; try (cases hc; done))))

  all_goals trace_state
  all_goals (try (simp_all))
  all_goals (try rfl)
  all_goals (try (rw [Bool.eq_iff_iff]; simp; done))
  all_goals (try (rw [Bool.eq_iff_iff]; simp; omega))
  all_goals (try (intros; omega))
  all_goals (try grind)

end Go.Proofs.Ytdoboiiilcgbnaa
