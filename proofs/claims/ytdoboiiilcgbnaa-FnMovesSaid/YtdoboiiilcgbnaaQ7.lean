/- WHAT IS PROVED: contracts of functions of the program, each by a walk of its code. Conditions: none. -/
import Derived.Test.YtdoboiiilcgbnaaQ6
namespace Go.Proofs.Ytdoboiiilcgbnaa
open Go.Proofs Go.Proofs.Ytdoboiiilcgbnaa.L
set_option maxHeartbeats 1000000
set_option linter.unusedSimpArgs false
set_option linter.unusedVariables false

def idxI (p : Mv → Bool) (l : List Mv) : Int := if l.any p then ((l.findIdx p : Nat) : Int) else -1
theorem idx_found {p : Mv → Bool} {l : List Mv} {x : Nat} {m : Mv} (h : l[x]? = some m) (hp : p m = true) (ha : ∀ n ∈ l.take x, p n = false) : idxI p l = (x : Int) := by
  obtain ⟨hk, e⟩ := List.getElem?_eq_some_iff.1 h
  have h1 : l.any p = true := List.any_eq_true.2 ⟨m, List.mem_of_getElem? h, hp⟩
  have h2 : l.findIdx p = x := by
    rw [List.findIdx_eq hk]
    exact ⟨by rw [e]; exact hp, fun j hj => ha _ (List.mem_take_iff_getElem.2 ⟨j, by omega, rfl⟩)⟩
  simp [idxI, h1, h2]
theorem idx_none {p : Mv → Bool} {l : List Mv} {x : Nat} (h : l.length ≤ x) (ha : ∀ n ∈ l.take x, p n = false) : idxI p l = -1 := by
  rw [List.take_of_length_le h] at ha
  have h1 : l.any p = false := List.any_eq_false.2 fun n hn => by rw [ha n hn]; simp
  simp [idxI, h1]
theorem idx_ge (p : Mv → Bool) (l : List Mv) : decide (0 ≤ idxI p l) = l.any p := by
  unfold idxI
  split <;> simp_all
theorem take_next {l : List Mv} {y : Nat} {q : Mv} {P : Mv → Prop} (hq : l[y]? = some q) (h : ∀ n ∈ l.take y, P n) (h2 : P q) : ∀ n ∈ l.take (y + 1), P n := by
  rw [← take_blk hq]
  exact take_all h h2

theorem c_clo75 (m : Mv) (t k n : Int) : Con Try.prog 75 [.agg [V.int t, V.int k, V.int n], .mp 0 3 0 0] [(.o 3 [[V.int m.to, V.int m.src.kind, V.int m.src.n]])] (V.bool (waits m ⟨t, ⟨k, n⟩⟩)) [(.o 3 [[V.int m.to, V.int m.src.kind, V.int m.src.n]])] := by
  have hne : DUM = 0 := rfl
  rcases Bool.eq_false_or_eq_true (t != m.to) with hne | hne
  all_goals (
  refine con_of_aw Try.func75 rfl Try.call75 (by simp [Try.ntmps75]) (by simp [V.inNs, V.inN]) (by simp [C.inN, V.inNss, V.inNs, V.inN, inNss_dd]) (by simp [V.inNs, V.inN]) (by simp [C.inN, V.inNss, V.inNs, V.inN, inNss_dd]) rfl ?_
  rw [Try.ntmps75, Try.results75]
  simp only [entryS, entryO, Nat.reduceAdd, List.length_nil, List.length_cons]
  repeat' (first
    | with_reducible refine aw_seq ?_
    | with_reducible refine aw_reg ?_
    | with_reducible refine aw_ret ?_
    | with_reducible refine aw_skip ?_
    | with_reducible refine aw_block ?_
    | with_reducible refine aw_exit ?_
    | with_reducible refine seqQ_normal ?_
    | with_reducible refine seqQ_ret ?_
    | with_reducible refine seqQ_exit ?_
    | with_reducible refine blockQ_normal ?_
    | with_reducible refine blockQ_ret ?_
    | with_reducible refine blockQ_this ?_
    | with_reducible refine blockQ_other (by decide) ?_
    | with_reducible refine regW_nil ?_
    | with_reducible refine aw_draw mixed ?_
    | (with_reducible refine regD_nil ?_
       refine ⟨by kernel_rfl, ?_⟩)
    | with_reducible refine retQ_ret ?_
    | with_reducible refine retQ_normal ?_
    | (first
        | ((with_reducible refine gh_ret ?_); simp only [RetW])
        | (with_reducible refine call_data (c_impl_loc _) rfl ?_)
        | ((with_reducible apply call_auto (f := 59))
           · simp only [lendAL, lendA, Option.bind_some, Option.map_some, undd_dd, dd_length, dd_take, dd_drop, List.length_map, List.length_range, Nat.zero_add, Nat.add_zero, Nat.le_refl, true_and, and_true, and_self, take_len_map, take_marks, List.drop_zero, C.o.injEq, V.d.injEq, putSt, lk, Res.s.injEq, Res.r.injEq, reduceCtorEq, Nat.reduceEqDiff, if_true, if_false, lend_mv, lend_n1, hne, src_eq, List.getElem?_toArray, Option.bind_some, buildP, putParts, structPlaces, setSeg, binP, fk57, cellsEq, cellEq, Option.bind_some, Option.map_some, Option.bind_eq_bind]; rfl
           · with_reducible exact c_impl_loc _
           · first | rfl | exact nb_rows (fun _ => rfl) _ _
           simp only [V.namesOf, V.namesOfL, List.foldl_cons, List.foldl_nil, List.nil_append, List.append_nil, List.cons_append])
        | (with_reducible apply regD_op
           · simp only [dstOk, Nat.reduceLT]
           · simp only [Nat.reduceAdd]; rfl
           intro k hk
           simp only [stepP])
        | (with_reducible apply regW_op
           · simp only [dstOk, Nat.reduceLT]
           · simp only [Nat.reduceAdd]; rfl
           intro k hk)
       try simp only [opC, opP, fetchN, fetchP, fetchAll, fetchO, Prog.bind, Prog.wp, Prog.wp_bind, lk, nameP, nameAll, Value.oneCell', putSt, stepP, putP, Res.s.injEq, Res.r.injEq, reduceCtorEq, V.lin, V.linL, D.lin, isNil, binP, unP, intBin, BinOp.isShift, Prog.ofO, true_and, and_true, Nat.reduceAdd, Nat.reduceMul, Nat.reduceSub, Nat.reduceLT, Nat.reduceLeDiff, Nat.reduceEqDiff, Nat.add_zero, Nat.zero_add, Nat.le_refl, if_true, if_false, ite_true, ite_false, Bool.false_eq_true, List.length_nil, List.length_cons, Bool.not_true, Bool.not_false, Bool.or_false, Bool.or_true, fieldAddrP, fieldP, indexAddrP, loadP, storeP, boxP, allocP, cellsP, asVal, setSeg, outP, TyK.field, TyK.agg, zeroRow, List.getElem?_cons_zero, List.getElem?_cons_succ, List.take_succ_cons, List.take_zero, List.drop_succ_cons, List.drop_zero, List.set_cons_zero, List.set_cons_succ, List.nil_append, List.cons_append, List.append_nil, List.map_cons, List.map_nil, V.ren, V.renL, List.forall_mem_cons, List.not_mem_nil, List.mem_cons, forall_eq_or_imp, implies_true, false_implies, forall_const, and_self, true_or, minmaxP, lenP, lenOf, lenStr, V.asInt, Int.toNat_natCast, List.length_map, List.getElem?_map, Option.map_some, Int.ofNat_lt, Int.natCast_nonneg, decide_true, decide_false, Int.cast_ofNat_Int, nat_lt_zero, nat_one, nat_zero, dd_length, dd_get, dd_take, dd_drop, resGo_dd, undd_dd, take_len_map, take_marks, List.length_replicate, sliceP, boundP, makeSliceP, convertP, appendP, rowsOfP, ontoP, sizeFits, V.rowSize, TyK.src, resV, resV.go, resV.gol, retP, retOne, retAll, resTo, objsAre, ty2, ty4, ty57, ty59, hne, src_eq, List.getElem?_toArray, Option.bind_some, buildP, putParts, structPlaces, setSeg, binP, fk57, cellsEq, cellEq, Option.bind_some, Option.map_some, Option.bind_eq_bind]
       try (refine hk _ _ _ _ ?_; clear hk k))
    | (with_reducible apply regW_skip
       · simp only [dstOk, Nat.reduceLT]
       · rfl
       · simp only [putSt, lk, Res.s.injEq, Res.r.injEq, reduceCtorEq, Nat.reduceEqDiff, if_true, if_false]; done)
    | (with_reducible apply regW_yesN
       · simp only [dstOk, Nat.reduceLT]
       · rfl
       · simp only [putSt, lk, Res.s.injEq, Res.r.injEq, reduceCtorEq, Nat.reduceEqDiff, if_true, if_false]; done)
    | (with_reducible apply regW_no
       · simp only [dstOk, Nat.reduceLT]
       · rfl
       · simp only [putSt, lk, Res.s.injEq, Res.r.injEq, reduceCtorEq, Nat.reduceEqDiff, if_true, if_false, Bool.not_true, Bool.not_false]; done)
    | (with_reducible apply regW_guardN
       · simp only [dstOk, Nat.reduceLT]
       · rfl
       · simp only [putSt, lk, Res.s.injEq, Res.r.injEq, reduceCtorEq, Nat.reduceEqDiff, if_true, if_false]; rfl
       intro hb
       rotate_left
       intro hb)
    | (with_reducible apply aw_cond
       · simp only [putSt, lk, Res.s.injEq, Res.r.injEq, reduceCtorEq, Nat.reduceEqDiff, if_true, if_false]; rfl
       all_goals (intro hc; try (cases hc; done))))
)
  all_goals (try (simp_all [waits]))
  all_goals (try rfl)
  all_goals (try (rw [Bool.eq_iff_iff]; simp; done))
  all_goals (try (rw [Bool.eq_iff_iff]; simp; omega))
  all_goals (try (intros; omega))
  all_goals (try grind)

theorem c_idx75 (l : List Mv) (m : Mv) (h : l.length ≤ 1048576) : Con Try.prog 72 [.sl 0 3 0 l.length, .clo 75 [.mp 1 3 0 0]] [.o 3 (dd (l.map Mv.cells)), (.o 3 [[V.int m.to, V.int m.src.kind, V.int m.src.n]])] (V.int (idxI (waits m) l)) [.o 3 (dd (l.map Mv.cells)), (.o 3 [[V.int m.to, V.int m.src.kind, V.int m.src.n]])] := by
  have h_q : DUM = 0 := rfl
  have hw_q : DUM = 0 := rfl
  have hlt_q : DUM = 0 := rfl

  refine con_of_aw Try.func72 rfl Try.call72 (by simp [Try.ntmps72]) (by simp [V.inNs, V.inN]) (by simp [C.inN, V.inNss, V.inNs, V.inN, inNss_dd]) (by simp [V.inNs, V.inN]) (by simp [C.inN, V.inNss, V.inNs, V.inN, inNss_dd]) rfl ?_
  rw [Try.ntmps72, Try.results72]
  simp only [entryS, entryO, Nat.reduceAdd, List.length_nil, List.length_cons]
  repeat' (first
    | with_reducible refine aw_seq ?_
    | with_reducible refine aw_reg ?_
    | with_reducible refine aw_ret ?_
    | with_reducible refine aw_skip ?_
    | with_reducible refine aw_block ?_
    | with_reducible refine aw_exit ?_
    | with_reducible refine seqQ_normal ?_
    | with_reducible refine seqQ_ret ?_
    | with_reducible refine seqQ_exit ?_
    | with_reducible refine blockQ_normal ?_
    | with_reducible refine blockQ_ret ?_
    | with_reducible refine blockQ_this ?_
    | with_reducible refine blockQ_other (by decide) ?_
    | with_reducible refine regW_nil ?_
    | with_reducible refine aw_draw mixed ?_
    | (with_reducible refine regD_nil ?_
       refine ⟨by kernel_rfl, ?_⟩)
    | with_reducible refine retQ_ret ?_
    | with_reducible refine retQ_normal ?_
    | ((with_reducible refine aw_loopA 1000000 (by decide) (fun x : Nat => [(.s 8, some (.v (V.int (x : Nat)))), (.s 0, some (.v (.sl 0 3 0 l.length))), (.s 6, some (.v (.sl 0 3 0 l.length))), (.s 7, some (.v (V.int l.length))), (.s 1, some (.v (.clo 75 [.mp 1 3 0 0]))), (.r 0, some (.o 3 (dd (l.map Mv.cells)))), (.r 1, some (.o 3 [[V.int m.to, V.int m.src.kind, V.int m.src.n]]))]) (fun x => (l.length) - x) (fun x => x ≤ l.length ∧ ∀ n ∈ l.take x, waits m n = false) (0) (by simp [slNL, C.inN, V.inN, V.inNs, V.inNss, inNss_dd, inNs_map_d]) (gh_to ?_) ?_ ?_)
       · simp only [SubL, putSt, lk, Res.s.injEq, Res.r.injEq, reduceCtorEq, Nat.reduceEqDiff, if_true, if_false]; repeat' (first | apply And.intro | rfl | trivial)
       · simp
       intro x hJ
       have hb_q : x < 4611686018427387904 := by omega
       have hw_q := wrapS hb_q
       rcases Nat.lt_or_ge x (l.length) with hlt_q | hge_q
       obtain ⟨q, h_q⟩ := list_get hlt_q
       have hd_q := drop_cons h_q
       rotate_left
       have hd_q := drop_nil hge_q
       have hlt_q := Nat.not_lt.2 hge_q
       rotate_left
)
    | ((with_reducible refine next_to (x + 1) (by decide) (by simp [slNL, C.inN, V.inN, V.inNs, V.inNss, inNss_dd, inNs_map_d]) ?_ ?_ ?_)
       · simp only [SubL, putSt, lk, Res.s.injEq, Res.r.injEq, reduceCtorEq, Nat.reduceEqDiff, if_true, if_false]; repeat' (first | apply And.intro | rfl | trivial)
       · first | omega | exact ⟨by omega, take_next h_q hJ.2 (by simpa using hc)⟩
       · first | omega | exact ⟨by omega, take_next h_q hJ.2 (by simpa using hc)⟩)
    | (first
        | ((with_reducible refine gh_ret ?_); simp only [RetW])
        | ((with_reducible refine call_obj (f := 75) [1] (c_clo75 m q.to q.src.kind q.src.n) (by decide) ?_ ?_)
           · left; simp [V.namesOfL, V.namesOf]
           simp only [argsP, argP, V.namesOf, V.namesOfL, List.mem_append, List.append_nil, List.mem_cons, or_false, or_true, true_or, undd_dd, objsP, C.ren, V.ren, V.renL, renLL_dd, List.getD_cons_zero, List.getD_cons_succ, C.o.injEq, V.renLL, List.filter_nil, List.filter_cons, List.contains_cons, beq_self_eq_true, Bool.or_true, Bool.true_or, Bool.not_true])
        | (with_reducible apply regD_op
           · simp only [dstOk, Nat.reduceLT]
           · simp only [Nat.reduceAdd]; rfl
           intro k hk
           simp only [stepP])
        | (with_reducible apply regW_op
           · simp only [dstOk, Nat.reduceLT]
           · simp only [Nat.reduceAdd]; rfl
           intro k hk)
       try simp only [opC, opP, fetchN, fetchP, fetchAll, fetchO, Prog.bind, Prog.wp, Prog.wp_bind, lk, nameP, nameAll, Value.oneCell', putSt, stepP, putP, Res.s.injEq, Res.r.injEq, reduceCtorEq, V.lin, V.linL, D.lin, isNil, binP, unP, intBin, BinOp.isShift, Prog.ofO, true_and, and_true, Nat.reduceAdd, Nat.reduceMul, Nat.reduceSub, Nat.reduceLT, Nat.reduceLeDiff, Nat.reduceEqDiff, Nat.add_zero, Nat.zero_add, Nat.le_refl, if_true, if_false, ite_true, ite_false, Bool.false_eq_true, List.length_nil, List.length_cons, Bool.not_true, Bool.not_false, Bool.or_false, Bool.or_true, fieldAddrP, fieldP, indexAddrP, loadP, storeP, boxP, allocP, cellsP, asVal, setSeg, outP, TyK.field, TyK.agg, zeroRow, List.getElem?_cons_zero, List.getElem?_cons_succ, List.take_succ_cons, List.take_zero, List.drop_succ_cons, List.drop_zero, List.set_cons_zero, List.set_cons_succ, List.nil_append, List.cons_append, List.append_nil, List.map_cons, List.map_nil, V.ren, V.renL, List.forall_mem_cons, List.not_mem_nil, List.mem_cons, forall_eq_or_imp, implies_true, false_implies, forall_const, and_self, true_or, minmaxP, lenP, lenOf, lenStr, V.asInt, Int.toNat_natCast, List.length_map, List.getElem?_map, Option.map_some, Int.ofNat_lt, Int.natCast_nonneg, decide_true, decide_false, Int.cast_ofNat_Int, nat_lt_zero, nat_one, nat_zero, dd_length, dd_get, dd_take, dd_drop, resGo_dd, undd_dd, take_len_map, take_marks, List.length_replicate, sliceP, boundP, makeSliceP, convertP, appendP, rowsOfP, ontoP, sizeFits, V.rowSize, TyK.src, resV, resV.go, resV.gol, retP, retOne, retAll, resTo, objsAre, ty2, ty3, ty4, ty37, ty57, ty59, Mv.cells, List.getElem?_map, h_q, hw_q, hlt_q]
       try (refine hk _ _ _ _ ?_; clear hk k))
    | (with_reducible apply regW_skip
       · simp only [dstOk, Nat.reduceLT]
       · rfl
       · simp only [putSt, lk, Res.s.injEq, Res.r.injEq, reduceCtorEq, Nat.reduceEqDiff, if_true, if_false]; done)
    | (with_reducible apply regW_yesN
       · simp only [dstOk, Nat.reduceLT]
       · rfl
       · simp only [putSt, lk, Res.s.injEq, Res.r.injEq, reduceCtorEq, Nat.reduceEqDiff, if_true, if_false]; done)
    | (with_reducible apply regW_no
       · simp only [dstOk, Nat.reduceLT]
       · rfl
       · simp only [putSt, lk, Res.s.injEq, Res.r.injEq, reduceCtorEq, Nat.reduceEqDiff, if_true, if_false, Bool.not_true, Bool.not_false]; done)
    | (with_reducible apply regW_guardN
       · simp only [dstOk, Nat.reduceLT]
       · rfl
       · simp only [putSt, lk, Res.s.injEq, Res.r.injEq, reduceCtorEq, Nat.reduceEqDiff, if_true, if_false]; rfl
       intro hb
       rotate_left
       intro hb)
    | (with_reducible apply aw_cond
       · simp only [putSt, lk, Res.s.injEq, Res.r.injEq, reduceCtorEq, Nat.reduceEqDiff, if_true, if_false]; rfl
       all_goals (intro hc; try (cases hc; done))))

  all_goals trace_state
  all_goals (try (first | (rw [idx_found h_q (by simpa using hc) hJ.2]; done) | (rw [idx_none hge_q hJ.2]; done) | (constructor <;> first | rw [idx_found h_q (by simpa using hc) hJ.2] | rw [idx_none hge_q hJ.2] | trivial) | skip))
  all_goals (try rfl)
  all_goals (try (rw [Bool.eq_iff_iff]; simp; done))
  all_goals (try (rw [Bool.eq_iff_iff]; simp; omega))
  all_goals (try (intros; omega))
  all_goals (try grind)

end Go.Proofs.Ytdoboiiilcgbnaa
