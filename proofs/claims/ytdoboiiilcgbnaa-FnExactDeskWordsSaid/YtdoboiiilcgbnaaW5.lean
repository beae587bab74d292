/- WHAT IS PROVED: contracts of functions of the program, each by a walk of its code. Conditions: none. -/
import Derived.Test.YtdoboiiilcgbnaaW4
namespace Go.Proofs.Ytdoboiiilcgbnaa
open Go.Proofs Go.Proofs.Ytdoboiiilcgbnaa.L
set_option maxHeartbeats 1000000
set_option linter.unusedSimpArgs false
set_option linter.unusedVariables false

theorem c_laws_eqStringS (l r : List ByteArray) (h : l.length ≤ 1048576) : Con Try.prog 41 [bRows 1 S1 l, bRows 1 S1 r] [] (V.bool (decide (l = r))) [] := by
  have h_m : DUM = 0 := rfl
  have hw_m : DUM = 0 := rfl
  have hlt_m : DUM = 0 := rfl
  have hr : DUM = 0 := rfl
  have hrl : DUM = 0 := rfl

  refine con_of_aw Try.func41 rfl Try.call41 (by simp [Try.ntmps41]) (by simp [V.inNs, V.inN]) (by simp [C.inN, V.inNss, V.inNs, V.inN, inNss_dd]) (by simp [V.inNs, V.inN]) (by simp [C.inN, V.inNss, V.inNs, V.inN, inNss_dd]) rfl ?_
  rw [Try.ntmps41, Try.results41]
  simp only [entryS, entryO, Nat.reduceAdd, List.length_nil, List.length_cons]
  repeat' (first
    | with_reducible refine aw_seq ?_
    | with_reducible refine aw_reg ?_
    | with_reducible refine aw_ret ?_
    | with_reducible refine aw_skip ?_
    | with_reducible refine aw_block ?_
    | with_reducible refine aw_exit ?_
    | with_reducible refine seqQ_normal ?_
    | with_reducible refine seqQ_ret ?_
    | with_reducible refine seqQ_exit ?_
    | with_reducible refine blockQ_normal ?_
    | with_reducible refine blockQ_ret ?_
    | with_reducible refine blockQ_this ?_
    | with_reducible refine blockQ_other (by decide) ?_
    | with_reducible refine regW_nil ?_
    | with_reducible refine aw_draw mixed ?_
    | (with_reducible refine regD_nil ?_
       refine ⟨by kernel_rfl, ?_⟩)
    | with_reducible refine retQ_ret ?_
    | with_reducible refine retQ_normal ?_
    | ((with_reducible refine aw_loopA _ (Nat.le_refl _) (fun x : Nat => [(.s 5, some (.v (V.int (x : Nat)))), (.s 0, some (.v (bRows 1 S1 l))), (.s 1, some (.v (bRows 1 S1 r)))]) (fun x => (l.length) - x) (fun x => l.length = r.length ∧ x ≤ l.length ∧ decide (l = r) = decide (l.drop x = r.drop x)) (0) (by simp [slNL, C.inN, V.inN, V.inNs, V.inNss, inNss_dd, inNs_map_d]) (gh_to ?_) ?_ ?_)
       · simp only [SubL, putSt, lk, Res.s.injEq, Res.r.injEq, reduceCtorEq, Nat.reduceEqDiff, if_true, if_false]; repeat' (first | apply And.intro | rfl | trivial)
       · simp_all; try omega
       intro x hJ
       have hb_m : x < 4611686018427387904 := by omega
       have hw_m := wrapS hb_m
       rcases Nat.lt_or_ge x (l.length) with hlt_m | hge_m
       obtain ⟨m, h_m⟩ := list_get hlt_m
       have hd_m := drop_cons h_m
       rotate_left
       have hd_m := drop_nil hge_m
       have hlt_m := Nat.not_lt.2 hge_m
       rotate_left
       have hrl : x < r.length := by omega
       obtain ⟨m2, hr⟩ := list_get hrl
       have hd2 := drop_cons hr
       rotate_left
       have hd2 := drop_nil (l := r) (k := x) (by omega)
       rotate_left
)
    | ((with_reducible refine next_to (x + 1) (Nat.le_refl _) (by simp [slNL, C.inN, V.inN, V.inNs, V.inNss, inNss_dd, inNs_map_d]) ?_ ?_ ?_)
       · simp only [SubL, putSt, lk, Res.s.injEq, Res.r.injEq, reduceCtorEq, Nat.reduceEqDiff, if_true, if_false]; repeat' (first | apply And.intro | rfl | trivial)
       · simp_all; try omega
       · simp_all; try omega)
    | (first
        | ((with_reducible refine gh_ret ?_); simp only [RetW])
        | (with_reducible apply regD_op
           · simp only [dstOk, Nat.reduceLT]
           · simp only [Nat.reduceAdd]; rfl
           intro k hk
           simp only [stepP])
        | (with_reducible apply regW_op
           · simp only [dstOk, Nat.reduceLT]
           · simp only [Nat.reduceAdd]; rfl
           intro k hk)
       try simp only [opC, opP, fetchN, fetchP, fetchAll, fetchO, Prog.bind, Prog.wp, Prog.wp_bind, lk, nameP, nameAll, Value.oneCell', putSt, stepP, putP, Res.s.injEq, Res.r.injEq, reduceCtorEq, V.lin, V.linL, D.lin, isNil, binP, unP, intBin, BinOp.isShift, Prog.ofO, true_and, and_true, Nat.reduceAdd, Nat.reduceMul, Nat.reduceSub, Nat.reduceLT, Nat.reduceLeDiff, Nat.reduceEqDiff, Nat.add_zero, Nat.zero_add, Nat.le_refl, if_true, if_false, ite_true, ite_false, Bool.false_eq_true, List.length_nil, List.length_cons, Bool.not_true, Bool.not_false, Bool.or_false, Bool.or_true, fieldAddrP, fieldP, indexAddrP, loadP, storeP, boxP, allocP, cellsP, asVal, setSeg, outP, TyK.field, TyK.agg, zeroRow, List.getElem?_cons_zero, List.getElem?_cons_succ, List.take_succ_cons, List.take_zero, List.drop_succ_cons, List.drop_zero, List.set_cons_zero, List.set_cons_succ, List.nil_append, List.cons_append, List.append_nil, List.map_cons, List.map_nil, V.ren, V.renL, List.forall_mem_cons, List.not_mem_nil, List.mem_cons, forall_eq_or_imp, implies_true, false_implies, forall_const, and_self, true_or, minmaxP, lenP, lenOf, lenStr, V.asInt, Int.toNat_natCast, List.length_map, List.getElem?_map, Option.map_some, Int.ofNat_lt, Int.natCast_nonneg, decide_true, decide_false, Int.cast_ofNat_Int, nat_lt_zero, nat_one, nat_zero, dd_length, dd_get, dd_take, dd_drop, resGo_dd, undd_dd, take_len_map, take_marks, List.length_replicate, sliceP, boundP, makeSliceP, convertP, appendP, rowsOfP, ontoP, sizeFits, V.rowSize, TyK.src, resV, resV.go, resV.gol, retP, retOne, retAll, resTo, objsAre, ty3, ty4, ty9, ty61, S1, strBin, toList_beq, h_m, hw_m, hlt_m, hr, hrl]
       try (refine hk _ _ _ _ ?_; clear hk k))
    | (with_reducible apply regW_skip
       · simp only [dstOk, Nat.reduceLT]
       · rfl
       · simp only [putSt, lk, Res.s.injEq, Res.r.injEq, reduceCtorEq, Nat.reduceEqDiff, if_true, if_false]; done)
    | (with_reducible apply regW_yesN
       · simp only [dstOk, Nat.reduceLT]
       · rfl
       · simp only [putSt, lk, Res.s.injEq, Res.r.injEq, reduceCtorEq, Nat.reduceEqDiff, if_true, if_false]; done)
    | (with_reducible apply regW_no
       · simp only [dstOk, Nat.reduceLT]
       · rfl
       · simp only [putSt, lk, Res.s.injEq, Res.r.injEq, reduceCtorEq, Nat.reduceEqDiff, if_true, if_false, Bool.not_true, Bool.not_false]; done)
    | (with_reducible apply regW_guardN
       · simp only [dstOk, Nat.reduceLT]
       · rfl
       · simp only [putSt, lk, Res.s.injEq, Res.r.injEq, reduceCtorEq, Nat.reduceEqDiff, if_true, if_false]; rfl
       intro hb
       rotate_left
       intro hb)
    | (with_reducible apply aw_cond
       · simp only [putSt, lk, Res.s.injEq, Res.r.injEq, reduceCtorEq, Nat.reduceEqDiff, if_true, if_false]; rfl
       all_goals (intro hc; try (cases hc; done))))

  all_goals (try (simp_all))
  all_goals (try rfl)
  all_goals (try (rw [Bool.eq_iff_iff]; simp; done))
  all_goals (try (rw [Bool.eq_iff_iff]; simp; omega))
  all_goals (try (intros; omega))
  all_goals (try grind)

theorem mkT_row (n : Nat) : (S1 (mkT n)).map V.d = [V.d (D.p (.string (mkT n)))] := rfl
theorem mkT_set {l : List ByteArray} {k x : Nat} (h : x < l.length) : (dd ((upd' (fun j => mkT (k + 1 * j)) l x).map S1)).set x ((S1 (mkT (k + 1 * x))).map V.d) = dd ((upd' (fun j => mkT (k + 1 * j)) l (x + 1)).map S1) := dd_upd_set (g := fun j => mkT (k + 1 * j)) h

theorem c_laws_markStringS (l : List ByteArray) (k : Nat) (h : l.length ≤ 1048576) (hk : k ≤ 1099511627776) (hk1 : 1 ≤ k) : Con Try.prog 42 [.sl 0 1 0 l.length, V.int k] [.o 1 (dd (l.map S1))] (V.int (k + 1 * l.length : Nat)) [.o 1 (dd (((List.range l.length).map fun j => mkT (k + 1 * j)).map S1))] := by
  have h_m : DUM = 0 := rfl
  have hw_m : DUM = 0 := rfl
  have hlt_m : DUM = 0 := rfl
  have hset : DUM = 0 := rfl
  have hsg : DUM = 0 := rfl
  have hsu : DUM = 0 := rfl
  have hall : DUM = 0 := rfl
  have hw0 : DUM = 0 := rfl

  refine con_of_aw Try.func42 rfl Try.call42 (by simp [Try.ntmps42]) (by simp [V.inNs, V.inN]) (by simp [C.inN, V.inNss, V.inNs, V.inN, inNss_dd]) (by simp [V.inNs, V.inN]) (by simp [C.inN, V.inNss, V.inNs, V.inN, inNss_dd]) rfl ?_
  rw [Try.ntmps42, Try.results42]
  simp only [entryS, entryO, Nat.reduceAdd, List.length_nil, List.length_cons]
  repeat' (first
    | with_reducible refine aw_seq ?_
    | with_reducible refine aw_reg ?_
    | with_reducible refine aw_ret ?_
    | with_reducible refine aw_skip ?_
    | with_reducible refine aw_block ?_
    | with_reducible refine aw_exit ?_
    | with_reducible refine seqQ_normal ?_
    | with_reducible refine seqQ_ret ?_
    | with_reducible refine seqQ_exit ?_
    | with_reducible refine blockQ_normal ?_
    | with_reducible refine blockQ_ret ?_
    | with_reducible refine blockQ_this ?_
    | with_reducible refine blockQ_other (by decide) ?_
    | with_reducible refine regW_nil ?_
    | with_reducible refine aw_draw mixed ?_
    | (with_reducible refine regD_nil ?_
       refine ⟨by kernel_rfl, ?_⟩)
    | with_reducible refine retQ_ret ?_
    | with_reducible refine retQ_normal ?_
    | ((with_reducible refine aw_loopA _ (Nat.le_refl _) (fun x : Nat => [(.s 5, some (.v (V.int (x : Nat)))), (.s 0, some (.v (.sl 0 1 0 l.length))), (.s 1, some (.v (V.int (k + 1 * x : Nat)))), (.r 0, some (.o 1 (dd ((upd' (fun j => mkT (k + 1 * j)) l x).map S1))))]) (fun x => (l.length) - x) (fun x => x ≤ l.length) (0) (by simp [slNL, C.inN, V.inN, V.inNs, V.inNss, inNss_dd, inNs_map_d]) (gh_to ?_) ?_ ?_)
       · simp only [SubL, putSt, lk, Res.s.injEq, Res.r.injEq, reduceCtorEq, Nat.reduceEqDiff, if_true, if_false, upd_zero, Nat.mul_zero, Nat.add_zero, Nat.mul_add, Nat.add_assoc, Nat.mul_one, Nat.one_mul, Nat.reduceAdd]; repeat' (first | apply And.intro | rfl | trivial)
       · simp_all; try omega
       intro x hJ
       have hb_m : x < 4611686018427387904 := by omega
       have hw_m := wrapS hb_m
       rcases Nat.lt_or_ge x (l.length) with hlt_m | hge_m
       obtain ⟨m, h_m⟩ := list_get hlt_m
       have hd_m := drop_cons h_m
       rotate_left
       have hd_m := drop_nil hge_m
       have hlt_m := Nat.not_lt.2 hge_m
       rotate_left
       have hw0 := wrapS (show k + 1 * x + 0 < 4611686018427387904 by omega)
       have hsu := get_lt_iff hlt_m
       have hset := mkT_set (k := k) hlt_m
       have hsg : ∀ r : List V, ((dd ((upd' (fun j => mkT (k + 1 * j)) l x).map S1)).set x r)[x]? = some r := fun r => List.getElem?_set_self (by rw [dd_length, List.length_map, upd_length hJ]; exact hlt_m)
       try simp only [Nat.one_mul] at hsg
       simp only [mkT_row, Nat.add_assoc, Nat.one_mul, Nat.add_zero, Nat.zero_add, Nat.reduceAdd] at hset
       simp only [Nat.add_assoc, Nat.one_mul, Nat.add_zero, Nat.zero_add, Nat.reduceAdd] at hw0
       rotate_left
       have hall := upd_all (g := fun j => mkT (k + 1 * j)) hge_m hJ
       try simp only [Nat.one_mul] at hall
       have hxl : x = l.length := by omega
       subst hxl
       rotate_left
)
    | ((with_reducible refine next_to (x + 1) (Nat.le_refl _) (by simp [slNL, C.inN, V.inN, V.inNs, V.inNss, inNss_dd, inNs_map_d]) ?_ ?_ ?_)
       · simp only [SubL, putSt, lk, Res.s.injEq, Res.r.injEq, reduceCtorEq, Nat.reduceEqDiff, if_true, if_false, upd_zero, Nat.mul_zero, Nat.add_zero, Nat.mul_add, Nat.add_assoc, Nat.mul_one, Nat.one_mul, Nat.reduceAdd]; repeat' (first | apply And.intro | rfl | trivial)
       · simp_all; try omega
       · simp_all; try omega)
    | (first
        | ((with_reducible refine gh_ret ?_); simp only [RetW])
        | (with_reducible refine call_data (c_laws_markText _ (by omega) (by omega)) rfl ?_)
        | ((with_reducible apply call_auto (f := 66))
           · simp only [lendAL, lendA, Option.bind_some, Option.map_some, undd_dd, dd_length, dd_take, dd_drop, List.length_map, List.length_range, Nat.zero_add, Nat.add_zero, Nat.le_refl, true_and, and_true, and_self, take_len_map, take_marks, List.drop_zero, C.o.injEq, V.d.injEq, putSt, lk, Res.s.injEq, Res.r.injEq, reduceCtorEq, Nat.reduceEqDiff, if_true, if_false, lend_mv, lend_n1, lend_s1, S1, upd_zero, upd_get, upd_length, List.set_set, Nat.mul_zero, dd_get, Nat.one_mul, Nat.add_assoc, Nat.reduceAdd]; rfl
           · with_reducible exact c_laws_markText _ (by omega) (by omega)
           · first | rfl | exact nb_rows (fun _ => rfl) _ _
           simp only [V.namesOf, V.namesOfL, List.foldl_cons, List.foldl_nil, List.nil_append, List.append_nil, List.cons_append])
        | (with_reducible apply regD_op
           · simp only [dstOk, Nat.reduceLT]
           · simp only [Nat.reduceAdd]; rfl
           intro k hk
           simp only [stepP])
        | (with_reducible apply regW_op
           · simp only [dstOk, Nat.reduceLT]
           · simp only [Nat.reduceAdd]; rfl
           intro k hk)
       try simp only [opC, opP, fetchN, fetchP, fetchAll, fetchO, Prog.bind, Prog.wp, Prog.wp_bind, lk, nameP, nameAll, Value.oneCell', putSt, stepP, putP, Res.s.injEq, Res.r.injEq, reduceCtorEq, V.lin, V.linL, D.lin, isNil, binP, unP, intBin, BinOp.isShift, Prog.ofO, true_and, and_true, Nat.reduceAdd, Nat.reduceMul, Nat.reduceSub, Nat.reduceLT, Nat.reduceLeDiff, Nat.reduceEqDiff, Nat.add_zero, Nat.zero_add, Nat.le_refl, if_true, if_false, ite_true, ite_false, Bool.false_eq_true, List.length_nil, List.length_cons, Bool.not_true, Bool.not_false, Bool.or_false, Bool.or_true, fieldAddrP, fieldP, indexAddrP, loadP, storeP, boxP, allocP, cellsP, asVal, setSeg, outP, TyK.field, TyK.agg, zeroRow, List.getElem?_cons_zero, List.getElem?_cons_succ, List.take_succ_cons, List.take_zero, List.drop_succ_cons, List.drop_zero, List.set_cons_zero, List.set_cons_succ, List.nil_append, List.cons_append, List.append_nil, List.map_cons, List.map_nil, V.ren, V.renL, List.forall_mem_cons, List.not_mem_nil, List.mem_cons, forall_eq_or_imp, implies_true, false_implies, forall_const, and_self, true_or, minmaxP, lenP, lenOf, lenStr, V.asInt, Int.toNat_natCast, List.length_map, List.getElem?_map, Option.map_some, Int.ofNat_lt, Int.natCast_nonneg, decide_true, decide_false, Int.cast_ofNat_Int, nat_lt_zero, nat_one, nat_zero, dd_length, dd_get, dd_take, dd_drop, resGo_dd, undd_dd, take_len_map, take_marks, List.length_replicate, sliceP, boundP, makeSliceP, convertP, appendP, rowsOfP, ontoP, sizeFits, V.rowSize, TyK.src, resV, resV.go, resV.gol, retP, retOne, retAll, resTo, objsAre, ty3, ty4, ty9, ty61, S1, upd_zero, upd_get, upd_length, List.set_set, Nat.mul_zero, dd_get, Nat.one_mul, Nat.add_assoc, Nat.reduceAdd, h_m, hw_m, hlt_m, hset, hsg, hsu, hall, hw0]
       try (refine hk _ _ _ _ ?_; clear hk k))
    | (with_reducible apply regW_skip
       · simp only [dstOk, Nat.reduceLT]
       · rfl
       · simp only [putSt, lk, Res.s.injEq, Res.r.injEq, reduceCtorEq, Nat.reduceEqDiff, if_true, if_false]; done)
    | (with_reducible apply regW_yesN
       · simp only [dstOk, Nat.reduceLT]
       · rfl
       · simp only [putSt, lk, Res.s.injEq, Res.r.injEq, reduceCtorEq, Nat.reduceEqDiff, if_true, if_false]; done)
    | (with_reducible apply regW_no
       · simp only [dstOk, Nat.reduceLT]
       · rfl
       · simp only [putSt, lk, Res.s.injEq, Res.r.injEq, reduceCtorEq, Nat.reduceEqDiff, if_true, if_false, Bool.not_true, Bool.not_false]; done)
    | (with_reducible apply regW_guardN
       · simp only [dstOk, Nat.reduceLT]
       · rfl
       · simp only [putSt, lk, Res.s.injEq, Res.r.injEq, reduceCtorEq, Nat.reduceEqDiff, if_true, if_false]; rfl
       intro hb
       rotate_left
       intro hb)
    | (with_reducible apply aw_cond
       · simp only [putSt, lk, Res.s.injEq, Res.r.injEq, reduceCtorEq, Nat.reduceEqDiff, if_true, if_false]; rfl
       all_goals (intro hc; try (cases hc; done))))

  all_goals (try (simp_all))
  all_goals (try rfl)
  all_goals (try (rw [Bool.eq_iff_iff]; simp; done))
  all_goals (try (rw [Bool.eq_iff_iff]; simp; omega))
  all_goals (try (intros; omega))
  all_goals (try grind)

theorem c_laws_markStringS1 (l : List ByteArray) (h : l.length ≤ 1048576) : Con Try.prog 42 [.sl 0 1 0 l.length, V.int 1] [.o 1 (dd (l.map S1))] (V.int (1 + 1 * l.length : Nat)) [.o 1 (dd (((List.range l.length).map fun j => mkT (1 + 1 * j)).map S1))] :=
  c_laws_markStringS l 1 h (by omega) (by omega)

theorem c_laws_heldStringS (n k : Nat) (h : n ≤ 1048576) (hk : k ≤ 1099511627776) (hk1 : 1 ≤ k) : Con Try.prog 43 [bRows 1 S1 ((List.range n).map fun j => mkT (k + 1 * j)), V.int k] [] (V.int (k + 1 * n : Nat)) [] := by
  have h_m : DUM = 0 := rfl
  have hw_m : DUM = 0 := rfl
  have hlt_m : DUM = 0 := rfl
  have hrg : DUM = 0 := rfl
  have hn : DUM = 0 := rfl
  have hw0 : DUM = 0 := rfl

  refine con_of_aw Try.func43 rfl Try.call43 (by simp [Try.ntmps43]) (by simp [V.inNs, V.inN]) (by simp [C.inN, V.inNss, V.inNs, V.inN, inNss_dd]) (by simp [V.inNs, V.inN]) (by simp [C.inN, V.inNss, V.inNs, V.inN, inNss_dd]) rfl ?_
  rw [Try.ntmps43, Try.results43]
  simp only [entryS, entryO, Nat.reduceAdd, List.length_nil, List.length_cons]
  repeat' (first
    | with_reducible refine aw_seq ?_
    | with_reducible refine aw_reg ?_
    | with_reducible refine aw_ret ?_
    | with_reducible refine aw_skip ?_
    | with_reducible refine aw_block ?_
    | with_reducible refine aw_exit ?_
    | with_reducible refine seqQ_normal ?_
    | with_reducible refine seqQ_ret ?_
    | with_reducible refine seqQ_exit ?_
    | with_reducible refine blockQ_normal ?_
    | with_reducible refine blockQ_ret ?_
    | with_reducible refine blockQ_this ?_
    | with_reducible refine blockQ_other (by decide) ?_
    | with_reducible refine regW_nil ?_
    | with_reducible refine aw_draw mixed ?_
    | (with_reducible refine regD_nil ?_
       refine ⟨by kernel_rfl, ?_⟩)
    | with_reducible refine retQ_ret ?_
    | with_reducible refine retQ_normal ?_
    | ((with_reducible refine aw_loopA _ (Nat.le_refl _) (fun x : Nat => [(.s 5, some (.v (V.int (x : Nat)))), (.s 0, some (.v (bRows 1 S1 ((List.range n).map fun j => mkT (k + 1 * j))))), (.s 1, some (.v (V.int (k + 1 * x : Nat))))]) (fun x => n - x) (fun x => x ≤ n) (0) (by simp [slNL, C.inN, V.inN, V.inNs, V.inNss, inNss_dd, inNs_map_d]) (gh_to ?_) ?_ ?_)
       · simp only [SubL, putSt, lk, Res.s.injEq, Res.r.injEq, reduceCtorEq, Nat.reduceEqDiff, if_true, if_false, Nat.mul_zero, Nat.add_zero, Nat.mul_add, Nat.add_assoc, Nat.mul_one, Nat.one_mul, Nat.reduceAdd]; repeat' (first | apply And.intro | rfl | trivial)
       · simp_all; try omega
       intro x hJ
       have hb_m : x < 4611686018427387904 := by omega
       have hw_m := wrapS hb_m
       rcases Nat.lt_or_ge x (((List.range n).map fun j => mkT (k + 1 * j)).length) with hlt_m | hge_m
       obtain ⟨m, h_m⟩ := list_get hlt_m
       have hd_m := drop_cons h_m
       rotate_left
       have hd_m := drop_nil hge_m
       have hlt_m := Nat.not_lt.2 hge_m
       rotate_left
       have hw0 := wrapS (show k + 1 * x + 0 < 4611686018427387904 by omega)
       have hn : x < n := by simpa using hlt_m
       have hrg := List.getElem?_range hn
       simp only [Nat.add_assoc, Nat.one_mul, Nat.add_zero, Nat.zero_add, Nat.reduceAdd] at hw0
       rotate_left
       have hxn : n ≤ x := by simpa using hge_m
       have hn := Nat.not_lt.2 hxn
       have hxl : x = n := by omega
       subst hxl
       rotate_left
)
    | ((with_reducible refine next_to (x + 1) (Nat.le_refl _) (by simp [slNL, C.inN, V.inN, V.inNs, V.inNss, inNss_dd, inNs_map_d]) ?_ ?_ ?_)
       · simp only [SubL, putSt, lk, Res.s.injEq, Res.r.injEq, reduceCtorEq, Nat.reduceEqDiff, if_true, if_false, Nat.mul_zero, Nat.add_zero, Nat.mul_add, Nat.add_assoc, Nat.mul_one, Nat.one_mul, Nat.reduceAdd]; repeat' (first | apply And.intro | rfl | trivial)
       · simp_all; try omega
       · simp_all; try omega)
    | (first
        | ((with_reducible refine gh_ret ?_); simp only [RetW])
        | (with_reducible refine call_data (c_laws_markText _ (by omega) (by omega)) rfl ?_)
        | ((with_reducible apply call_auto (f := 66))
           · simp only [lendAL, lendA, Option.bind_some, Option.map_some, undd_dd, dd_length, dd_take, dd_drop, List.length_map, List.length_range, Nat.zero_add, Nat.add_zero, Nat.le_refl, true_and, and_true, and_self, take_len_map, take_marks, List.drop_zero, C.o.injEq, V.d.injEq, putSt, lk, Res.s.injEq, Res.r.injEq, reduceCtorEq, Nat.reduceEqDiff, if_true, if_false, lend_mv, lend_n1, lend_s1, S1, List.length_range, Nat.mul_zero, Nat.one_mul, Nat.add_assoc, Nat.reduceAdd, bne_self_eq_false, strBin, beq_self_eq_true]; rfl
           · with_reducible exact c_laws_markText _ (by omega) (by omega)
           · first | rfl | exact nb_rows (fun _ => rfl) _ _
           simp only [V.namesOf, V.namesOfL, List.foldl_cons, List.foldl_nil, List.nil_append, List.append_nil, List.cons_append])
        | (with_reducible apply regD_op
           · simp only [dstOk, Nat.reduceLT]
           · simp only [Nat.reduceAdd]; rfl
           intro k hk
           simp only [stepP])
        | (with_reducible apply regW_op
           · simp only [dstOk, Nat.reduceLT]
           · simp only [Nat.reduceAdd]; rfl
           intro k hk)
       try simp only [opC, opP, fetchN, fetchP, fetchAll, fetchO, Prog.bind, Prog.wp, Prog.wp_bind, lk, nameP, nameAll, Value.oneCell', putSt, stepP, putP, Res.s.injEq, Res.r.injEq, reduceCtorEq, V.lin, V.linL, D.lin, isNil, binP, unP, intBin, BinOp.isShift, Prog.ofO, true_and, and_true, Nat.reduceAdd, Nat.reduceMul, Nat.reduceSub, Nat.reduceLT, Nat.reduceLeDiff, Nat.reduceEqDiff, Nat.add_zero, Nat.zero_add, Nat.le_refl, if_true, if_false, ite_true, ite_false, Bool.false_eq_true, List.length_nil, List.length_cons, Bool.not_true, Bool.not_false, Bool.or_false, Bool.or_true, fieldAddrP, fieldP, indexAddrP, loadP, storeP, boxP, allocP, cellsP, asVal, setSeg, outP, TyK.field, TyK.agg, zeroRow, List.getElem?_cons_zero, List.getElem?_cons_succ, List.take_succ_cons, List.take_zero, List.drop_succ_cons, List.drop_zero, List.set_cons_zero, List.set_cons_succ, List.nil_append, List.cons_append, List.append_nil, List.map_cons, List.map_nil, V.ren, V.renL, List.forall_mem_cons, List.not_mem_nil, List.mem_cons, forall_eq_or_imp, implies_true, false_implies, forall_const, and_self, true_or, minmaxP, lenP, lenOf, lenStr, V.asInt, Int.toNat_natCast, List.length_map, List.getElem?_map, Option.map_some, Int.ofNat_lt, Int.natCast_nonneg, decide_true, decide_false, Int.cast_ofNat_Int, nat_lt_zero, nat_one, nat_zero, dd_length, dd_get, dd_take, dd_drop, resGo_dd, undd_dd, take_len_map, take_marks, List.length_replicate, sliceP, boundP, makeSliceP, convertP, appendP, rowsOfP, ontoP, sizeFits, V.rowSize, TyK.src, resV, resV.go, resV.gol, retP, retOne, retAll, resTo, objsAre, ty3, ty4, ty9, ty61, S1, List.length_range, Nat.mul_zero, Nat.one_mul, Nat.add_assoc, Nat.reduceAdd, bne_self_eq_false, strBin, beq_self_eq_true, h_m, hw_m, hlt_m, hrg, hn, hw0]
       try (refine hk _ _ _ _ ?_; clear hk k))
    | (with_reducible apply regW_skip
       · simp only [dstOk, Nat.reduceLT]
       · rfl
       · simp only [putSt, lk, Res.s.injEq, Res.r.injEq, reduceCtorEq, Nat.reduceEqDiff, if_true, if_false]; done)
    | (with_reducible apply regW_yesN
       · simp only [dstOk, Nat.reduceLT]
       · rfl
       · simp only [putSt, lk, Res.s.injEq, Res.r.injEq, reduceCtorEq, Nat.reduceEqDiff, if_true, if_false]; done)
    | (with_reducible apply regW_no
       · simp only [dstOk, Nat.reduceLT]
       · rfl
       · simp only [putSt, lk, Res.s.injEq, Res.r.injEq, reduceCtorEq, Nat.reduceEqDiff, if_true, if_false, Bool.not_true, Bool.not_false]; done)
    | (with_reducible apply regW_guardN
       · simp only [dstOk, Nat.reduceLT]
       · rfl
       · simp only [putSt, lk, Res.s.injEq, Res.r.injEq, reduceCtorEq, Nat.reduceEqDiff, if_true, if_false]; rfl
       intro hb
       rotate_left
       intro hb)
    | (with_reducible apply aw_cond
       · simp only [putSt, lk, Res.s.injEq, Res.r.injEq, reduceCtorEq, Nat.reduceEqDiff, if_true, if_false]; rfl
       all_goals (intro hc; try (cases hc; done))))

  all_goals (try (simp_all))
  all_goals (try rfl)
  all_goals (try (rw [Bool.eq_iff_iff]; simp; done))
  all_goals (try (rw [Bool.eq_iff_iff]; simp; omega))
  all_goals (try (intros; omega))
  all_goals (try grind)

theorem c_laws_heldStringS1 (n : Nat) (h : n ≤ 1048576) : Con Try.prog 43 [bRows 1 S1 ((List.range n).map fun j => mkT (1 + 1 * j)), V.int 1] [] (V.int (1 + 1 * n : Nat)) [] :=
  c_laws_heldStringS n 1 h (by omega) (by omega)

theorem c_spec_DeskWords  : Con Try.prog 39 [] [] (oRows 1 S1 deskS) [] := by

  refine con_of_aw Try.func39 rfl Try.call39 (by simp [Try.ntmps39]) (by simp [V.inNs, V.inN]) (by simp [C.inN, V.inNss, V.inNs, V.inN, inNss_dd]) (by simp [V.inNs, V.inN]) (by simp [C.inN, V.inNss, V.inNs, V.inN, inNss_dd]) rfl ?_
  rw [Try.ntmps39, Try.results39]
  simp only [entryS, entryO, Nat.reduceAdd, List.length_nil, List.length_cons]
  repeat' (first
    | with_reducible refine aw_seq ?_
    | with_reducible refine aw_reg ?_
    | with_reducible refine aw_ret ?_
    | with_reducible refine aw_skip ?_
    | with_reducible refine aw_block ?_
    | with_reducible refine aw_exit ?_
    | with_reducible refine seqQ_normal ?_
    | with_reducible refine seqQ_ret ?_
    | with_reducible refine seqQ_exit ?_
    | with_reducible refine blockQ_normal ?_
    | with_reducible refine blockQ_ret ?_
    | with_reducible refine blockQ_this ?_
    | with_reducible refine blockQ_other (by decide) ?_
    | with_reducible refine regW_nil ?_
    | with_reducible refine aw_draw mixed ?_
    | (with_reducible refine regD_nil ?_
       refine ⟨by kernel_rfl, ?_⟩)
    | with_reducible refine retQ_ret ?_
    | with_reducible refine retQ_normal ?_
    | (first
        | ((with_reducible refine gh_ret ?_); simp only [RetW])
        | (with_reducible apply regD_op
           · simp only [dstOk, Nat.reduceLT]
           · simp only [Nat.reduceAdd]; rfl
           intro k hk
           simp only [stepP])
        | (with_reducible apply regW_op
           · simp only [dstOk, Nat.reduceLT]
           · simp only [Nat.reduceAdd]; rfl
           intro k hk)
       try simp only [opC, opP, fetchN, fetchP, fetchAll, fetchO, Prog.bind, Prog.wp, Prog.wp_bind, lk, nameP, nameAll, Value.oneCell', putSt, stepP, putP, Res.s.injEq, Res.r.injEq, reduceCtorEq, V.lin, V.linL, D.lin, isNil, binP, unP, intBin, BinOp.isShift, Prog.ofO, true_and, and_true, Nat.reduceAdd, Nat.reduceMul, Nat.reduceSub, Nat.reduceLT, Nat.reduceLeDiff, Nat.reduceEqDiff, Nat.add_zero, Nat.zero_add, Nat.le_refl, if_true, if_false, ite_true, ite_false, Bool.false_eq_true, List.length_nil, List.length_cons, Bool.not_true, Bool.not_false, Bool.or_false, Bool.or_true, fieldAddrP, fieldP, indexAddrP, loadP, storeP, boxP, allocP, cellsP, asVal, setSeg, outP, TyK.field, TyK.agg, zeroRow, List.getElem?_cons_zero, List.getElem?_cons_succ, List.take_succ_cons, List.take_zero, List.drop_succ_cons, List.drop_zero, List.set_cons_zero, List.set_cons_succ, List.nil_append, List.cons_append, List.append_nil, List.map_cons, List.map_nil, V.ren, V.renL, List.forall_mem_cons, List.not_mem_nil, List.mem_cons, forall_eq_or_imp, implies_true, false_implies, forall_const, and_self, true_or, minmaxP, lenP, lenOf, lenStr, V.asInt, Int.toNat_natCast, List.length_map, List.getElem?_map, Option.map_some, Int.ofNat_lt, Int.natCast_nonneg, decide_true, decide_false, Int.cast_ofNat_Int, nat_lt_zero, nat_one, nat_zero, dd_length, dd_get, dd_take, dd_drop, resGo_dd, undd_dd, take_len_map, take_marks, List.length_replicate, sliceP, boundP, makeSliceP, convertP, appendP, rowsOfP, ontoP, sizeFits, V.rowSize, TyK.src, resV, resV.go, resV.gol, retP, retOne, retAll, resTo, objsAre, ty9, ty61, buildSliceP, putParts, structPlaces, chunks, List.replicate, List.flatten_cons, List.flatten_nil, Nat.reduceMul, Nat.reduceLeDiff, List.length_singleton, List.append_nil, deskS, deskW, S1]
       try (refine hk _ _ _ _ ?_; clear hk k))
    | (with_reducible apply regW_skip
       · simp only [dstOk, Nat.reduceLT]
       · rfl
       · simp only [putSt, lk, Res.s.injEq, Res.r.injEq, reduceCtorEq, Nat.reduceEqDiff, if_true, if_false]; done)
    | (with_reducible apply regW_yesN
       · simp only [dstOk, Nat.reduceLT]
       · rfl
       · simp only [putSt, lk, Res.s.injEq, Res.r.injEq, reduceCtorEq, Nat.reduceEqDiff, if_true, if_false]; done)
    | (with_reducible apply regW_no
       · simp only [dstOk, Nat.reduceLT]
       · rfl
       · simp only [putSt, lk, Res.s.injEq, Res.r.injEq, reduceCtorEq, Nat.reduceEqDiff, if_true, if_false, Bool.not_true, Bool.not_false]; done)
    | (with_reducible apply regW_guardN
       · simp only [dstOk, Nat.reduceLT]
       · rfl
       · simp only [putSt, lk, Res.s.injEq, Res.r.injEq, reduceCtorEq, Nat.reduceEqDiff, if_true, if_false]; rfl
       intro hb
       rotate_left
       intro hb)
    | (with_reducible apply aw_cond
       · simp only [putSt, lk, Res.s.injEq, Res.r.injEq, reduceCtorEq, Nat.reduceEqDiff, if_true, if_false]; rfl
       all_goals (intro hc; try (cases hc; done))))

  all_goals (try (rfl))
  all_goals (try rfl)
  all_goals (try (rw [Bool.eq_iff_iff]; simp; done))
  all_goals (try (rw [Bool.eq_iff_iff]; simp; omega))
  all_goals (try (intros; omega))
  all_goals (try grind)

set_option maxRecDepth 100000 in
theorem c_impl_DeskWords  : Con Try.prog 40 [] [] (oRows 1 S1 deskS) [] := by

  refine con_of_aw Try.func40 rfl Try.call40 (by simp [Try.ntmps40]) (by simp [V.inNs, V.inN]) (by simp [C.inN, V.inNss, V.inNs, V.inN, inNss_dd]) (by simp [V.inNs, V.inN]) (by simp [C.inN, V.inNss, V.inNs, V.inN, inNss_dd]) rfl ?_
  rw [Try.ntmps40, Try.results40]
  simp only [entryS, entryO, Nat.reduceAdd, List.length_nil, List.length_cons]
  repeat' (first
    | with_reducible refine aw_seq ?_
    | with_reducible refine aw_reg ?_
    | with_reducible refine aw_ret ?_
    | with_reducible refine aw_skip ?_
    | with_reducible refine aw_block ?_
    | with_reducible refine aw_exit ?_
    | with_reducible refine seqQ_normal ?_
    | with_reducible refine seqQ_ret ?_
    | with_reducible refine seqQ_exit ?_
    | with_reducible refine blockQ_normal ?_
    | with_reducible refine blockQ_ret ?_
    | with_reducible refine blockQ_this ?_
    | with_reducible refine blockQ_other (by decide) ?_
    | with_reducible refine regW_nil ?_
    | with_reducible refine aw_draw mixed ?_
    | (with_reducible refine regD_nil ?_
       refine ⟨by kernel_rfl, ?_⟩)
    | with_reducible refine retQ_ret ?_
    | with_reducible refine retQ_normal ?_
    | (first
        | ((with_reducible refine gh_ret ?_); simp only [RetW])
        | ((with_reducible apply call_own1 (f := 65))
           · simp only [putSt, lk, Res.s.injEq, Res.r.injEq, reduceCtorEq, Nat.reduceEqDiff, if_true, if_false]; rfl
           · exact c_slices_Sort_string_string deskW rfl
           · rfl
           · rfl
           · simp only [C.ren, renLL_dd]
           rw [desk_sorted])
        | ((with_reducible apply call_own1 (f := 65))
           · simp only [putSt, lk, Res.s.injEq, Res.r.injEq, reduceCtorEq, Nat.reduceEqDiff, if_true, if_false]; rfl
           · with_reducible exact c_slices_Sort_string_string _ (by first | assumption | omega)
           · rfl
           · simp only [C.ren, renLL_dd]
           · simp only [C.ren, renLL_dd])
        | (with_reducible apply regD_op
           · simp only [dstOk, Nat.reduceLT]
           · simp only [Nat.reduceAdd]; rfl
           intro k hk
           simp only [stepP])
        | (with_reducible apply regW_op
           · simp only [dstOk, Nat.reduceLT]
           · simp only [Nat.reduceAdd]; rfl
           intro k hk)
       try simp only [opC, opP, fetchN, fetchP, fetchAll, fetchO, Prog.bind, Prog.wp, Prog.wp_bind, lk, nameP, nameAll, Value.oneCell', putSt, stepP, putP, Res.s.injEq, Res.r.injEq, reduceCtorEq, V.lin, V.linL, D.lin, isNil, binP, unP, intBin, BinOp.isShift, Prog.ofO, true_and, and_true, Nat.reduceAdd, Nat.reduceMul, Nat.reduceSub, Nat.reduceLT, Nat.reduceLeDiff, Nat.reduceEqDiff, Nat.add_zero, Nat.zero_add, Nat.le_refl, if_true, if_false, ite_true, ite_false, Bool.false_eq_true, List.length_nil, List.length_cons, Bool.not_true, Bool.not_false, Bool.or_false, Bool.or_true, fieldAddrP, fieldP, indexAddrP, loadP, storeP, boxP, allocP, cellsP, asVal, setSeg, outP, TyK.field, TyK.agg, zeroRow, List.getElem?_cons_zero, List.getElem?_cons_succ, List.take_succ_cons, List.take_zero, List.drop_succ_cons, List.drop_zero, List.set_cons_zero, List.set_cons_succ, List.nil_append, List.cons_append, List.append_nil, List.map_cons, List.map_nil, V.ren, V.renL, List.forall_mem_cons, List.not_mem_nil, List.mem_cons, forall_eq_or_imp, implies_true, false_implies, forall_const, and_self, true_or, minmaxP, lenP, lenOf, lenStr, V.asInt, Int.toNat_natCast, List.length_map, List.getElem?_map, Option.map_some, Int.ofNat_lt, Int.natCast_nonneg, decide_true, decide_false, Int.cast_ofNat_Int, nat_lt_zero, nat_one, nat_zero, dd_length, dd_get, dd_take, dd_drop, resGo_dd, undd_dd, take_len_map, take_marks, List.length_replicate, sliceP, boundP, makeSliceP, convertP, appendP, rowsOfP, ontoP, sizeFits, V.rowSize, TyK.src, resV, resV.go, resV.gol, retP, retOne, retAll, resTo, objsAre, ty9, ty61, buildSliceP, putParts, structPlaces, chunks, List.replicate, List.flatten_cons, List.flatten_nil, Nat.reduceMul, Nat.reduceLeDiff, List.length_singleton, List.append_nil, deskS, deskW]
       try (refine hk _ _ _ _ ?_; clear hk k))
    | (with_reducible apply regW_skip
       · simp only [dstOk, Nat.reduceLT]
       · rfl
       · simp only [putSt, lk, Res.s.injEq, Res.r.injEq, reduceCtorEq, Nat.reduceEqDiff, if_true, if_false]; done)
    | (with_reducible apply regW_yesN
       · simp only [dstOk, Nat.reduceLT]
       · rfl
       · simp only [putSt, lk, Res.s.injEq, Res.r.injEq, reduceCtorEq, Nat.reduceEqDiff, if_true, if_false]; done)
    | (with_reducible apply regW_no
       · simp only [dstOk, Nat.reduceLT]
       · rfl
       · simp only [putSt, lk, Res.s.injEq, Res.r.injEq, reduceCtorEq, Nat.reduceEqDiff, if_true, if_false, Bool.not_true, Bool.not_false]; done)
    | (with_reducible apply regW_guardN
       · simp only [dstOk, Nat.reduceLT]
       · rfl
       · simp only [putSt, lk, Res.s.injEq, Res.r.injEq, reduceCtorEq, Nat.reduceEqDiff, if_true, if_false]; rfl
       intro hb
       rotate_left
       intro hb)
    | (with_reducible apply aw_cond
       · simp only [putSt, lk, Res.s.injEq, Res.r.injEq, reduceCtorEq, Nat.reduceEqDiff, if_true, if_false]; rfl
       all_goals (intro hc; try (cases hc; done))))

  all_goals (try (rfl))
  all_goals (try rfl)
  all_goals (try (rw [Bool.eq_iff_iff]; simp; done))
  all_goals (try (rw [Bool.eq_iff_iff]; simp; omega))
  all_goals (try (intros; omega))
  all_goals (try grind)

end Go.Proofs.Ytdoboiiilcgbnaa
