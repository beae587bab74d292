/- WHAT IS PROVED: contracts of functions of the program, each by a walk of its code. Conditions: none. -/
import Derived.Test.YtdoboiiilcgbnaaK3
namespace Go.Proofs.Ytdoboiiilcgbnaa
open Go.Proofs Go.Proofs.Ytdoboiiilcgbnaa.L
set_option maxHeartbeats 1000000
set_option linter.unusedSimpArgs false
set_option linter.unusedVariables false

theorem ty41 : tyOf Try.prog 41 = some ⟨.slice 2, 1, 24, [Value.slice none 0 0]⟩ := by kernel_rfl

def N1 (z : Int) : List D := [.p (.int .i64 z)]
theorem lend_n1 (l : List Int) : D.lendLL (l.map N1) = l.map N1 := lendLL_of _ _ (fun _ => rfl) l
theorem dd_set1 (l : List Int) (i : Nat) (v : Int) : (dd (l.map N1)).set i [V.d (D.p (.int .i64 v))] = dd ((l.set i v).map N1) := by
  rw [List.map_set, ← dd_set]; rfl
def mkN (k : Nat) : Int := k
def mkM (k : Nat) : Mv := ⟨(k : Nat), ⟨(k + 1 : Nat), (k + 2 : Nat)⟩⟩
theorem get_lt_iff {α : Type} {l : List α} {x : Nat} (h : x < l.length) : l[x]? = some l[x] := List.getElem?_eq_getElem h

theorem c_laws_toInt64S (l : List Int) (h : l.length ≤ 1048576) : Con Try.prog 24 [bRows 1 N1 l] [] (oRows 1 N1 l) [] := by
  have h_m : DUM = 0 := rfl
  have hw_m : DUM = 0 := rfl
  have hlt_m : DUM = 0 := rfl
  have hf : DUM = 0 := rfl
  have hfl : DUM = 0 := rfl
  have hfs : DUM = 0 := rfl
  have hmk : (l.length : Int) * 8 ≤ 35184372088832 := by omega
  have hmk2 : (l.length : Int) ≤ 35184372088832 := by omega

  refine con_of_aw Try.func24 rfl Try.call24 (by simp [Try.ntmps24]) (by simp [V.inNs, V.inN]) (by simp [C.inN, V.inNss, V.inNs, V.inN, inNss_dd]) (by simp [V.inNs, V.inN]) (by simp [C.inN, V.inNss, V.inNs, V.inN, inNss_dd]) rfl ?_
  rw [Try.ntmps24, Try.results24]
  simp only [entryS, entryO, Nat.reduceAdd, List.length_nil, List.length_cons]
  repeat' (first
    | with_reducible refine aw_seq ?_
    | with_reducible refine aw_reg ?_
    | with_reducible refine aw_ret ?_
    | with_reducible refine aw_skip ?_
    | with_reducible refine aw_block ?_
    | with_reducible refine aw_exit ?_
    | with_reducible refine seqQ_normal ?_
    | with_reducible refine seqQ_ret ?_
    | with_reducible refine seqQ_exit ?_
    | with_reducible refine blockQ_normal ?_
    | with_reducible refine blockQ_ret ?_
    | with_reducible refine blockQ_this ?_
    | with_reducible refine blockQ_other (by decide) ?_
    | with_reducible refine regW_nil ?_
    | with_reducible refine aw_draw mixed ?_
    | (with_reducible refine regD_nil ?_
       refine ⟨by kernel_rfl, ?_⟩)
    | with_reducible refine retQ_ret ?_
    | with_reducible refine retQ_normal ?_
    | ((with_reducible refine aw_loopA _ (Nat.le_refl _) (fun x : Nat => [(.s 4, some (.v (V.int (x : Nat)))), (.s 0, some (.v (bRows 1 N1 l))), (.s 3, some (.v (.sl 256 1 0 l.length))), (.r 256, some (.o 1 (dd (fill (l.map N1) [D.p (.int .i64 0)] x))))]) (fun x => (l.length) - x) (fun x => x ≤ l.length) (0) (by simp [slNL, C.inN, V.inN, V.inNs, V.inNss, inNss_dd, inNs_map_d]) (gh_to ?_) ?_ ?_)
       · simp only [SubL, putSt, lk, Res.s.injEq, Res.r.injEq, reduceCtorEq, Nat.reduceEqDiff, if_true, if_false, fill_zero, List.length_map, dd_set]; repeat' (first | apply And.intro | rfl | trivial)
       · simp_all; try omega
       intro x hJ
       have hb_m : x < 4611686018427387904 := by omega
       have hw_m := wrapS hb_m
       rcases Nat.lt_or_ge x (l.length) with hlt_m | hge_m
       obtain ⟨m, h_m⟩ := list_get hlt_m
       have hd_m := drop_cons h_m
       rotate_left
       have hd_m := drop_nil hge_m
       have hlt_m := Nat.not_lt.2 hge_m
       rotate_left
       have hf := fill_get (z := [D.p (.int .i64 0)]) (by simpa using hlt_m : x < (l.map N1).length)
       have hfl := fill_length (z := [D.p (.int .i64 0)]) (by simpa using hJ : x ≤ (l.map N1).length)
       have hfs := dd_fill_set (f := N1) (z := [D.p (.int .i64 0)]) h_m
       simp only [N1, List.map_cons, List.map_nil] at hfs
       rotate_left
       have hfl := fill_all (z := [D.p (.int .i64 0)]) (by simpa using hge_m : (l.map N1).length ≤ x)
       rotate_left
)
    | ((with_reducible refine next_to (x + 1) (Nat.le_refl _) (by simp [slNL, C.inN, V.inN, V.inNs, V.inNss, inNss_dd, inNs_map_d]) ?_ ?_ ?_)
       · simp only [SubL, putSt, lk, Res.s.injEq, Res.r.injEq, reduceCtorEq, Nat.reduceEqDiff, if_true, if_false, fill_zero, List.length_map, dd_set]; repeat' (first | apply And.intro | rfl | trivial)
       · simp_all; try omega
       · simp_all; try omega)
    | (first
        | ((with_reducible refine gh_ret ?_); simp only [RetW])
        | (with_reducible apply regD_op
           · simp only [dstOk, Nat.reduceLT]
           · simp only [Nat.reduceAdd]; rfl
           intro k hk
           simp only [stepP])
        | (with_reducible apply regW_op
           · simp only [dstOk, Nat.reduceLT]
           · simp only [Nat.reduceAdd]; rfl
           intro k hk)
       try simp only [opC, opP, fetchN, fetchP, fetchAll, fetchO, Prog.bind, Prog.wp, Prog.wp_bind, lk, nameP, nameAll, Value.oneCell', putSt, stepP, putP, Res.s.injEq, Res.r.injEq, reduceCtorEq, V.lin, V.linL, D.lin, isNil, binP, unP, intBin, BinOp.isShift, Prog.ofO, true_and, and_true, Nat.reduceAdd, Nat.reduceMul, Nat.reduceSub, Nat.reduceLT, Nat.reduceLeDiff, Nat.reduceEqDiff, Nat.add_zero, Nat.zero_add, Nat.le_refl, if_true, if_false, ite_true, ite_false, Bool.false_eq_true, List.length_nil, List.length_cons, Bool.not_true, Bool.not_false, Bool.or_false, Bool.or_true, fieldAddrP, fieldP, indexAddrP, loadP, storeP, boxP, allocP, cellsP, asVal, setSeg, outP, TyK.field, TyK.agg, zeroRow, List.getElem?_cons_zero, List.getElem?_cons_succ, List.take_succ_cons, List.take_zero, List.drop_succ_cons, List.drop_zero, List.set_cons_zero, List.set_cons_succ, List.nil_append, List.cons_append, List.append_nil, List.map_cons, List.map_nil, V.ren, V.renL, List.forall_mem_cons, List.not_mem_nil, List.mem_cons, forall_eq_or_imp, implies_true, false_implies, forall_const, and_self, true_or, minmaxP, lenP, lenOf, lenStr, V.asInt, Int.toNat_natCast, List.length_map, List.getElem?_map, Option.map_some, Int.ofNat_lt, Int.natCast_nonneg, decide_true, decide_false, Int.cast_ofNat_Int, nat_lt_zero, nat_one, nat_zero, dd_length, dd_get, dd_take, dd_drop, resGo_dd, undd_dd, take_len_map, take_marks, List.length_replicate, sliceP, boundP, makeSliceP, convertP, appendP, rowsOfP, ontoP, sizeFits, V.rowSize, TyK.src, resV, resV.go, resV.gol, retP, retOne, retAll, resTo, objsAre, ty2, ty3, ty4, ty41, fill_zero, take_len_map, List.take_length, List.drop_zero, List.length_replicate, Int.le_refl, Int.cast_ofNat_Int, hmk, hmk2, N1, h_m, hw_m, hlt_m, hf, hfl, hfs]
       try (refine hk _ _ _ _ ?_; clear hk k))
    | (with_reducible apply regW_skip
       · simp only [dstOk, Nat.reduceLT]
       · rfl
       · simp only [putSt, lk, Res.s.injEq, Res.r.injEq, reduceCtorEq, Nat.reduceEqDiff, if_true, if_false]; done)
    | (with_reducible apply regW_yesN
       · simp only [dstOk, Nat.reduceLT]
       · rfl
       · simp only [putSt, lk, Res.s.injEq, Res.r.injEq, reduceCtorEq, Nat.reduceEqDiff, if_true, if_false]; done)
    | (with_reducible apply regW_no
       · simp only [dstOk, Nat.reduceLT]
       · rfl
       · simp only [putSt, lk, Res.s.injEq, Res.r.injEq, reduceCtorEq, Nat.reduceEqDiff, if_true, if_false, Bool.not_true, Bool.not_false]; done)
    | (with_reducible apply regW_guardN
       · simp only [dstOk, Nat.reduceLT]
       · rfl
       · simp only [putSt, lk, Res.s.injEq, Res.r.injEq, reduceCtorEq, Nat.reduceEqDiff, if_true, if_false]; rfl
       intro hb
       rotate_left
       intro hb)
    | (with_reducible apply aw_cond
       · simp only [putSt, lk, Res.s.injEq, Res.r.injEq, reduceCtorEq, Nat.reduceEqDiff, if_true, if_false]; rfl
       all_goals (intro hc; try (cases hc; done))))

  all_goals (try (simp_all))
  all_goals (try rfl)
  all_goals (try (rw [Bool.eq_iff_iff]; simp; done))
  all_goals (try (rw [Bool.eq_iff_iff]; simp; omega))
  all_goals (try (intros; omega))
  all_goals (try grind)

theorem c_laws_eqInt64S (l r : List Int) (h : l.length ≤ 1048576) : Con Try.prog 26 [bRows 1 N1 l, bRows 1 N1 r] [] (V.bool (decide (l = r))) [] := by
  have h_m : DUM = 0 := rfl
  have hw_m : DUM = 0 := rfl
  have hlt_m : DUM = 0 := rfl
  have hr : DUM = 0 := rfl
  have hrl : DUM = 0 := rfl

  refine con_of_aw Try.func26 rfl Try.call26 (by simp [Try.ntmps26]) (by simp [V.inNs, V.inN]) (by simp [C.inN, V.inNss, V.inNs, V.inN, inNss_dd]) (by simp [V.inNs, V.inN]) (by simp [C.inN, V.inNss, V.inNs, V.inN, inNss_dd]) rfl ?_
  rw [Try.ntmps26, Try.results26]
  simp only [entryS, entryO, Nat.reduceAdd, List.length_nil, List.length_cons]
  repeat' (first
    | with_reducible refine aw_seq ?_
    | with_reducible refine aw_reg ?_
    | with_reducible refine aw_ret ?_
    | with_reducible refine aw_skip ?_
    | with_reducible refine aw_block ?_
    | with_reducible refine aw_exit ?_
    | with_reducible refine seqQ_normal ?_
    | with_reducible refine seqQ_ret ?_
    | with_reducible refine seqQ_exit ?_
    | with_reducible refine blockQ_normal ?_
    | with_reducible refine blockQ_ret ?_
    | with_reducible refine blockQ_this ?_
    | with_reducible refine blockQ_other (by decide) ?_
    | with_reducible refine regW_nil ?_
    | with_reducible refine aw_draw mixed ?_
    | (with_reducible refine regD_nil ?_
       refine ⟨by kernel_rfl, ?_⟩)
    | with_reducible refine retQ_ret ?_
    | with_reducible refine retQ_normal ?_
    | ((with_reducible refine aw_loopA _ (Nat.le_refl _) (fun x : Nat => [(.s 5, some (.v (V.int (x : Nat)))), (.s 0, some (.v (bRows 1 N1 l))), (.s 1, some (.v (bRows 1 N1 r)))]) (fun x => (l.length) - x) (fun x => l.length = r.length ∧ x ≤ l.length ∧ decide (l = r) = decide (l.drop x = r.drop x)) (0) (by simp [slNL, C.inN, V.inN, V.inNs, V.inNss, inNss_dd, inNs_map_d]) (gh_to ?_) ?_ ?_)
       · simp only [SubL, putSt, lk, Res.s.injEq, Res.r.injEq, reduceCtorEq, Nat.reduceEqDiff, if_true, if_false]; repeat' (first | apply And.intro | rfl | trivial)
       · simp_all; try omega
       intro x hJ
       have hb_m : x < 4611686018427387904 := by omega
       have hw_m := wrapS hb_m
       rcases Nat.lt_or_ge x (l.length) with hlt_m | hge_m
       obtain ⟨m, h_m⟩ := list_get hlt_m
       have hd_m := drop_cons h_m
       rotate_left
       have hd_m := drop_nil hge_m
       have hlt_m := Nat.not_lt.2 hge_m
       rotate_left
       have hrl : x < r.length := by omega
       obtain ⟨m2, hr⟩ := list_get hrl
       have hd2 := drop_cons hr
       rotate_left
       have hd2 := drop_nil (l := r) (k := x) (by omega)
       rotate_left
)
    | ((with_reducible refine next_to (x + 1) (Nat.le_refl _) (by simp [slNL, C.inN, V.inN, V.inNs, V.inNss, inNss_dd, inNs_map_d]) ?_ ?_ ?_)
       · simp only [SubL, putSt, lk, Res.s.injEq, Res.r.injEq, reduceCtorEq, Nat.reduceEqDiff, if_true, if_false]; repeat' (first | apply And.intro | rfl | trivial)
       · simp_all; try omega
       · simp_all; try omega)
    | (first
        | ((with_reducible refine gh_ret ?_); simp only [RetW])
        | (with_reducible apply regD_op
           · simp only [dstOk, Nat.reduceLT]
           · simp only [Nat.reduceAdd]; rfl
           intro k hk
           simp only [stepP])
        | (with_reducible apply regW_op
           · simp only [dstOk, Nat.reduceLT]
           · simp only [Nat.reduceAdd]; rfl
           intro k hk)
       try simp only [opC, opP, fetchN, fetchP, fetchAll, fetchO, Prog.bind, Prog.wp, Prog.wp_bind, lk, nameP, nameAll, Value.oneCell', putSt, stepP, putP, Res.s.injEq, Res.r.injEq, reduceCtorEq, V.lin, V.linL, D.lin, isNil, binP, unP, intBin, BinOp.isShift, Prog.ofO, true_and, and_true, Nat.reduceAdd, Nat.reduceMul, Nat.reduceSub, Nat.reduceLT, Nat.reduceLeDiff, Nat.reduceEqDiff, Nat.add_zero, Nat.zero_add, Nat.le_refl, if_true, if_false, ite_true, ite_false, Bool.false_eq_true, List.length_nil, List.length_cons, Bool.not_true, Bool.not_false, Bool.or_false, Bool.or_true, fieldAddrP, fieldP, indexAddrP, loadP, storeP, boxP, allocP, cellsP, asVal, setSeg, outP, TyK.field, TyK.agg, zeroRow, List.getElem?_cons_zero, List.getElem?_cons_succ, List.take_succ_cons, List.take_zero, List.drop_succ_cons, List.drop_zero, List.set_cons_zero, List.set_cons_succ, List.nil_append, List.cons_append, List.append_nil, List.map_cons, List.map_nil, V.ren, V.renL, List.forall_mem_cons, List.not_mem_nil, List.mem_cons, forall_eq_or_imp, implies_true, false_implies, forall_const, and_self, true_or, minmaxP, lenP, lenOf, lenStr, V.asInt, Int.toNat_natCast, List.length_map, List.getElem?_map, Option.map_some, Int.ofNat_lt, Int.natCast_nonneg, decide_true, decide_false, Int.cast_ofNat_Int, nat_lt_zero, nat_one, nat_zero, dd_length, dd_get, dd_take, dd_drop, resGo_dd, undd_dd, take_len_map, take_marks, List.length_replicate, sliceP, boundP, makeSliceP, convertP, appendP, rowsOfP, ontoP, sizeFits, V.rowSize, TyK.src, resV, resV.go, resV.gol, retP, retOne, retAll, resTo, objsAre, ty2, ty3, ty4, ty41, N1, h_m, hw_m, hlt_m, hr, hrl]
       try (refine hk _ _ _ _ ?_; clear hk k))
    | (with_reducible apply regW_skip
       · simp only [dstOk, Nat.reduceLT]
       · rfl
       · simp only [putSt, lk, Res.s.injEq, Res.r.injEq, reduceCtorEq, Nat.reduceEqDiff, if_true, if_false]; done)
    | (with_reducible apply regW_yesN
       · simp only [dstOk, Nat.reduceLT]
       · rfl
       · simp only [putSt, lk, Res.s.injEq, Res.r.injEq, reduceCtorEq, Nat.reduceEqDiff, if_true, if_false]; done)
    | (with_reducible apply regW_no
       · simp only [dstOk, Nat.reduceLT]
       · rfl
       · simp only [putSt, lk, Res.s.injEq, Res.r.injEq, reduceCtorEq, Nat.reduceEqDiff, if_true, if_false, Bool.not_true, Bool.not_false]; done)
    | (with_reducible apply regW_guardN
       · simp only [dstOk, Nat.reduceLT]
       · rfl
       · simp only [putSt, lk, Res.s.injEq, Res.r.injEq, reduceCtorEq, Nat.reduceEqDiff, if_true, if_false]; rfl
       intro hb
       rotate_left
       intro hb)
    | (with_reducible apply aw_cond
       · simp only [putSt, lk, Res.s.injEq, Res.r.injEq, reduceCtorEq, Nat.reduceEqDiff, if_true, if_false]; rfl
       all_goals (intro hc; try (cases hc; done))))

  all_goals (try (simp_all))
  all_goals (try rfl)
  all_goals (try (rw [Bool.eq_iff_iff]; simp; done))
  all_goals (try (rw [Bool.eq_iff_iff]; simp; omega))
  all_goals (try (intros; omega))
  all_goals (try grind)

theorem mkN_row (n : Nat) : (N1 (mkN n)).map V.d = [V.d (D.p (.int .i64 ((n : Nat) : Int)))] := rfl
theorem mkN_set {l : List Int} {k x : Nat} (h : x < l.length) : (dd ((upd' (fun j => mkN (k + 1 * j)) l x).map N1)).set x ((N1 (mkN (k + 1 * x))).map V.d) = dd ((upd' (fun j => mkN (k + 1 * j)) l (x + 1)).map N1) := dd_upd_set (g := fun j => mkN (k + 1 * j)) h

theorem c_laws_markInt64S (l : List Int) (k : Nat) (h : l.length ≤ 1048576) (hk : k ≤ 1099511627776) : Con Try.prog 28 [.sl 0 1 0 l.length, V.int k] [.o 1 (dd (l.map N1))] (V.int (k + 1 * l.length : Nat)) [.o 1 (dd (((List.range l.length).map fun j => mkN (k + 1 * j)).map N1))] := by
  have h_m : DUM = 0 := rfl
  have hw_m : DUM = 0 := rfl
  have hlt_m : DUM = 0 := rfl
  have hset : DUM = 0 := rfl
  have hsg : DUM = 0 := rfl
  have hsu : DUM = 0 := rfl
  have hall : DUM = 0 := rfl
  have hw0 : DUM = 0 := rfl

  refine con_of_aw Try.func28 rfl Try.call28 (by simp [Try.ntmps28]) (by simp [V.inNs, V.inN]) (by simp [C.inN, V.inNss, V.inNs, V.inN, inNss_dd]) (by simp [V.inNs, V.inN]) (by simp [C.inN, V.inNss, V.inNs, V.inN, inNss_dd]) rfl ?_
  rw [Try.ntmps28, Try.results28]
  simp only [entryS, entryO, Nat.reduceAdd, List.length_nil, List.length_cons]
  repeat' (first
    | with_reducible refine aw_seq ?_
    | with_reducible refine aw_reg ?_
    | with_reducible refine aw_ret ?_
    | with_reducible refine aw_skip ?_
    | with_reducible refine aw_block ?_
    | with_reducible refine aw_exit ?_
    | with_reducible refine seqQ_normal ?_
    | with_reducible refine seqQ_ret ?_
    | with_reducible refine seqQ_exit ?_
    | with_reducible refine blockQ_normal ?_
    | with_reducible refine blockQ_ret ?_
    | with_reducible refine blockQ_this ?_
    | with_reducible refine blockQ_other (by decide) ?_
    | with_reducible refine regW_nil ?_
    | with_reducible refine aw_draw mixed ?_
    | (with_reducible refine regD_nil ?_
       refine ⟨by kernel_rfl, ?_⟩)
    | with_reducible refine retQ_ret ?_
    | with_reducible refine retQ_normal ?_
    | ((with_reducible refine aw_loopA _ (Nat.le_refl _) (fun x : Nat => [(.s 5, some (.v (V.int (x : Nat)))), (.s 0, some (.v (.sl 0 1 0 l.length))), (.s 1, some (.v (V.int (k + 1 * x : Nat)))), (.r 0, some (.o 1 (dd ((upd' (fun j => mkN (k + 1 * j)) l x).map N1))))]) (fun x => (l.length) - x) (fun x => x ≤ l.length) (0) (by simp [slNL, C.inN, V.inN, V.inNs, V.inNss, inNss_dd, inNs_map_d]) (gh_to ?_) ?_ ?_)
       · simp only [SubL, putSt, lk, Res.s.injEq, Res.r.injEq, reduceCtorEq, Nat.reduceEqDiff, if_true, if_false, upd_zero, Nat.mul_zero, Nat.add_zero, Nat.mul_add, Nat.add_assoc, Nat.mul_one, Nat.one_mul, Nat.reduceAdd]; repeat' (first | apply And.intro | rfl | trivial)
       · simp_all; try omega
       intro x hJ
       have hb_m : x < 4611686018427387904 := by omega
       have hw_m := wrapS hb_m
       rcases Nat.lt_or_ge x (l.length) with hlt_m | hge_m
       obtain ⟨m, h_m⟩ := list_get hlt_m
       have hd_m := drop_cons h_m
       rotate_left
       have hd_m := drop_nil hge_m
       have hlt_m := Nat.not_lt.2 hge_m
       rotate_left
       have hw0 := wrapS (show k + 1 * x + 0 < 4611686018427387904 by omega)
       have hsu := get_lt_iff hlt_m
       have hset := mkN_set (k := k) hlt_m
       have hsg : ∀ r : List V, ((dd ((upd' (fun j => mkN (k + 1 * j)) l x).map N1)).set x r)[x]? = some r := fun r => List.getElem?_set_self (by rw [dd_length, List.length_map, upd_length hJ]; exact hlt_m)
       try simp only [Nat.one_mul] at hsg
       simp only [mkN_row, Nat.add_assoc, Nat.one_mul, Nat.add_zero, Nat.zero_add, Nat.reduceAdd] at hset
       simp only [Nat.add_assoc, Nat.one_mul, Nat.add_zero, Nat.zero_add, Nat.reduceAdd] at hw0
       rotate_left
       have hall := upd_all (g := fun j => mkN (k + 1 * j)) hge_m hJ
       try simp only [Nat.one_mul] at hall
       have hxl : x = l.length := by omega
       subst hxl
       rotate_left
)
    | ((with_reducible refine next_to (x + 1) (Nat.le_refl _) (by simp [slNL, C.inN, V.inN, V.inNs, V.inNss, inNss_dd, inNs_map_d]) ?_ ?_ ?_)
       · simp only [SubL, putSt, lk, Res.s.injEq, Res.r.injEq, reduceCtorEq, Nat.reduceEqDiff, if_true, if_false, upd_zero, Nat.mul_zero, Nat.add_zero, Nat.mul_add, Nat.add_assoc, Nat.mul_one, Nat.one_mul, Nat.reduceAdd]; repeat' (first | apply And.intro | rfl | trivial)
       · simp_all; try omega
       · simp_all; try omega)
    | (first
        | ((with_reducible refine gh_ret ?_); simp only [RetW])
        | (with_reducible apply regD_op
           · simp only [dstOk, Nat.reduceLT]
           · simp only [Nat.reduceAdd]; rfl
           intro k hk
           simp only [stepP])
        | (with_reducible apply regW_op
           · simp only [dstOk, Nat.reduceLT]
           · simp only [Nat.reduceAdd]; rfl
           intro k hk)
       try simp only [opC, opP, fetchN, fetchP, fetchAll, fetchO, Prog.bind, Prog.wp, Prog.wp_bind, lk, nameP, nameAll, Value.oneCell', putSt, stepP, putP, Res.s.injEq, Res.r.injEq, reduceCtorEq, V.lin, V.linL, D.lin, isNil, binP, unP, intBin, BinOp.isShift, Prog.ofO, true_and, and_true, Nat.reduceAdd, Nat.reduceMul, Nat.reduceSub, Nat.reduceLT, Nat.reduceLeDiff, Nat.reduceEqDiff, Nat.add_zero, Nat.zero_add, Nat.le_refl, if_true, if_false, ite_true, ite_false, Bool.false_eq_true, List.length_nil, List.length_cons, Bool.not_true, Bool.not_false, Bool.or_false, Bool.or_true, fieldAddrP, fieldP, indexAddrP, loadP, storeP, boxP, allocP, cellsP, asVal, setSeg, outP, TyK.field, TyK.agg, zeroRow, List.getElem?_cons_zero, List.getElem?_cons_succ, List.take_succ_cons, List.take_zero, List.drop_succ_cons, List.drop_zero, List.set_cons_zero, List.set_cons_succ, List.nil_append, List.cons_append, List.append_nil, List.map_cons, List.map_nil, V.ren, V.renL, List.forall_mem_cons, List.not_mem_nil, List.mem_cons, forall_eq_or_imp, implies_true, false_implies, forall_const, and_self, true_or, minmaxP, lenP, lenOf, lenStr, V.asInt, Int.toNat_natCast, List.length_map, List.getElem?_map, Option.map_some, Int.ofNat_lt, Int.natCast_nonneg, decide_true, decide_false, Int.cast_ofNat_Int, nat_lt_zero, nat_one, nat_zero, dd_length, dd_get, dd_take, dd_drop, resGo_dd, undd_dd, take_len_map, take_marks, List.length_replicate, sliceP, boundP, makeSliceP, convertP, appendP, rowsOfP, ontoP, sizeFits, V.rowSize, TyK.src, resV, resV.go, resV.gol, retP, retOne, retAll, resTo, objsAre, ty2, ty3, ty4, ty41, N1, upd_zero, upd_get, upd_length, List.set_set, Nat.mul_zero, dd_get, Nat.one_mul, Nat.add_assoc, Nat.reduceAdd, h_m, hw_m, hlt_m, hset, hsg, hsu, hall, hw0]
       try (refine hk _ _ _ _ ?_; clear hk k))
    | (with_reducible apply regW_skip
       · simp only [dstOk, Nat.reduceLT]
       · rfl
       · simp only [putSt, lk, Res.s.injEq, Res.r.injEq, reduceCtorEq, Nat.reduceEqDiff, if_true, if_false]; done)
    | (with_reducible apply regW_yesN
       · simp only [dstOk, Nat.reduceLT]
       · rfl
       · simp only [putSt, lk, Res.s.injEq, Res.r.injEq, reduceCtorEq, Nat.reduceEqDiff, if_true, if_false]; done)
    | (with_reducible apply regW_no
       · simp only [dstOk, Nat.reduceLT]
       · rfl
       · simp only [putSt, lk, Res.s.injEq, Res.r.injEq, reduceCtorEq, Nat.reduceEqDiff, if_true, if_false, Bool.not_true, Bool.not_false]; done)
    | (with_reducible apply regW_guardN
       · simp only [dstOk, Nat.reduceLT]
       · rfl
       · simp only [putSt, lk, Res.s.injEq, Res.r.injEq, reduceCtorEq, Nat.reduceEqDiff, if_true, if_false]; rfl
       intro hb
       rotate_left
       intro hb)
    | (with_reducible apply aw_cond
       · simp only [putSt, lk, Res.s.injEq, Res.r.injEq, reduceCtorEq, Nat.reduceEqDiff, if_true, if_false]; rfl
       all_goals (intro hc; try (cases hc; done))))

  all_goals (try (simp_all))
  all_goals (try rfl)
  all_goals (try (rw [Bool.eq_iff_iff]; simp; done))
  all_goals (try (rw [Bool.eq_iff_iff]; simp; omega))
  all_goals (try (intros; omega))
  all_goals (try grind)

theorem c_laws_markInt64S1 (l : List Int) (h : l.length ≤ 1048576) : Con Try.prog 28 [.sl 0 1 0 l.length, V.int 1] [.o 1 (dd (l.map N1))] (V.int (1 + 1 * l.length : Nat)) [.o 1 (dd (((List.range l.length).map fun j => mkN (1 + 1 * j)).map N1))] :=
  c_laws_markInt64S l 1 h (by omega)

theorem mkM_row (n : Nat) : (Mv.cells (mkM n)).map V.d = [V.d (D.p (.int .i64 ((n : Nat) : Int))), V.d (D.p (.int .i64 ((n + 1 : Nat) : Int))), V.d (D.p (.int .i64 ((n + 2 : Nat) : Int)))] := rfl
theorem mkM_set {l : List Mv} {k x : Nat} (h : x < l.length) : (dd ((upd' (fun j => mkM (k + 3 * j)) l x).map Mv.cells)).set x ((Mv.cells (mkM (k + 3 * x))).map V.d) = dd ((upd' (fun j => mkM (k + 3 * j)) l (x + 1)).map Mv.cells) := dd_upd_set (g := fun j => mkM (k + 3 * j)) h

theorem c_laws_markMovS (l : List Mv) (k : Nat) (h : l.length ≤ 1048576) (hk : k ≤ 1099511627776) : Con Try.prog 27 [.sl 0 3 0 l.length, V.int k] [.o 3 (dd (l.map Mv.cells))] (V.int (k + 3 * l.length : Nat)) [.o 3 (dd (((List.range l.length).map fun j => mkM (k + 3 * j)).map Mv.cells))] := by
  have h_m : DUM = 0 := rfl
  have hw_m : DUM = 0 := rfl
  have hlt_m : DUM = 0 := rfl
  have hset : DUM = 0 := rfl
  have hsg : DUM = 0 := rfl
  have hsu : DUM = 0 := rfl
  have hall : DUM = 0 := rfl
  have hw0 : DUM = 0 := rfl
  have hw1 : DUM = 0 := rfl
  have hw2 : DUM = 0 := rfl

  refine con_of_aw Try.func27 rfl Try.call27 (by simp [Try.ntmps27]) (by simp [V.inNs, V.inN]) (by simp [C.inN, V.inNss, V.inNs, V.inN, inNss_dd]) (by simp [V.inNs, V.inN]) (by simp [C.inN, V.inNss, V.inNs, V.inN, inNss_dd]) rfl ?_
  rw [Try.ntmps27, Try.results27]
  simp only [entryS, entryO, Nat.reduceAdd, List.length_nil, List.length_cons]
  repeat' (first
    | with_reducible refine aw_seq ?_
    | with_reducible refine aw_reg ?_
    | with_reducible refine aw_ret ?_
    | with_reducible refine aw_skip ?_
    | with_reducible refine aw_block ?_
    | with_reducible refine aw_exit ?_
    | with_reducible refine seqQ_normal ?_
    | with_reducible refine seqQ_ret ?_
    | with_reducible refine seqQ_exit ?_
    | with_reducible refine blockQ_normal ?_
    | with_reducible refine blockQ_ret ?_
    | with_reducible refine blockQ_this ?_
    | with_reducible refine blockQ_other (by decide) ?_
    | with_reducible refine regW_nil ?_
    | with_reducible refine aw_draw mixed ?_
    | (with_reducible refine regD_nil ?_
       refine ⟨by kernel_rfl, ?_⟩)
    | with_reducible refine retQ_ret ?_
    | with_reducible refine retQ_normal ?_
    | ((with_reducible refine aw_loopA _ (Nat.le_refl _) (fun x : Nat => [(.s 5, some (.v (V.int (x : Nat)))), (.s 0, some (.v (.sl 0 3 0 l.length))), (.s 1, some (.v (V.int (k + 3 * x : Nat)))), (.r 0, some (.o 3 (dd ((upd' (fun j => mkM (k + 3 * j)) l x).map Mv.cells))))]) (fun x => (l.length) - x) (fun x => x ≤ l.length) (0) (by simp [slNL, C.inN, V.inN, V.inNs, V.inNss, inNss_dd, inNs_map_d]) (gh_to ?_) ?_ ?_)
       · simp only [SubL, putSt, lk, Res.s.injEq, Res.r.injEq, reduceCtorEq, Nat.reduceEqDiff, if_true, if_false, upd_zero, Nat.mul_zero, Nat.add_zero, Nat.mul_add, Nat.add_assoc, Nat.mul_one, Nat.one_mul, Nat.reduceAdd]; repeat' (first | apply And.intro | rfl | trivial)
       · simp_all; try omega
       intro x hJ
       have hb_m : x < 4611686018427387904 := by omega
       have hw_m := wrapS hb_m
       rcases Nat.lt_or_ge x (l.length) with hlt_m | hge_m
       obtain ⟨m, h_m⟩ := list_get hlt_m
       have hd_m := drop_cons h_m
       rotate_left
       have hd_m := drop_nil hge_m
       have hlt_m := Nat.not_lt.2 hge_m
       rotate_left
       have hw0 := wrapS (show k + 3 * x + 0 < 4611686018427387904 by omega)
       have hw1 := wrapS (show k + 3 * x + 1 < 4611686018427387904 by omega)
       have hw2 := wrapS (show k + 3 * x + 2 < 4611686018427387904 by omega)
       have hsu := get_lt_iff hlt_m
       have hset := mkM_set (k := k) hlt_m
       have hsg : ∀ r : List V, ((dd ((upd' (fun j => mkM (k + 3 * j)) l x).map Mv.cells)).set x r)[x]? = some r := fun r => List.getElem?_set_self (by rw [dd_length, List.length_map, upd_length hJ]; exact hlt_m)
       try simp only [Nat.one_mul] at hsg
       simp only [mkM_row, Nat.add_assoc, Nat.one_mul, Nat.add_zero, Nat.zero_add, Nat.reduceAdd] at hset
       simp only [Nat.add_assoc, Nat.one_mul, Nat.add_zero, Nat.zero_add, Nat.reduceAdd] at hw0 hw1 hw2
       rotate_left
       have hall := upd_all (g := fun j => mkM (k + 3 * j)) hge_m hJ
       try simp only [Nat.one_mul] at hall
       have hxl : x = l.length := by omega
       subst hxl
       rotate_left
)
    | ((with_reducible refine next_to (x + 1) (Nat.le_refl _) (by simp [slNL, C.inN, V.inN, V.inNs, V.inNss, inNss_dd, inNs_map_d]) ?_ ?_ ?_)
       · simp only [SubL, putSt, lk, Res.s.injEq, Res.r.injEq, reduceCtorEq, Nat.reduceEqDiff, if_true, if_false, upd_zero, Nat.mul_zero, Nat.add_zero, Nat.mul_add, Nat.add_assoc, Nat.mul_one, Nat.one_mul, Nat.reduceAdd]; repeat' (first | apply And.intro | rfl | trivial)
       · simp_all; try omega
       · simp_all; try omega)
    | (first
        | ((with_reducible refine gh_ret ?_); simp only [RetW])
        | (with_reducible apply regD_op
           · simp only [dstOk, Nat.reduceLT]
           · simp only [Nat.reduceAdd]; rfl
           intro k hk
           simp only [stepP])
        | (with_reducible apply regW_op
           · simp only [dstOk, Nat.reduceLT]
           · simp only [Nat.reduceAdd]; rfl
           intro k hk)
       try simp only [opC, opP, fetchN, fetchP, fetchAll, fetchO, Prog.bind, Prog.wp, Prog.wp_bind, lk, nameP, nameAll, Value.oneCell', putSt, stepP, putP, Res.s.injEq, Res.r.injEq, reduceCtorEq, V.lin, V.linL, D.lin, isNil, binP, unP, intBin, BinOp.isShift, Prog.ofO, true_and, and_true, Nat.reduceAdd, Nat.reduceMul, Nat.reduceSub, Nat.reduceLT, Nat.reduceLeDiff, Nat.reduceEqDiff, Nat.add_zero, Nat.zero_add, Nat.le_refl, if_true, if_false, ite_true, ite_false, Bool.false_eq_true, List.length_nil, List.length_cons, Bool.not_true, Bool.not_false, Bool.or_false, Bool.or_true, fieldAddrP, fieldP, indexAddrP, loadP, storeP, boxP, allocP, cellsP, asVal, setSeg, outP, TyK.field, TyK.agg, zeroRow, List.getElem?_cons_zero, List.getElem?_cons_succ, List.take_succ_cons, List.take_zero, List.drop_succ_cons, List.drop_zero, List.set_cons_zero, List.set_cons_succ, List.nil_append, List.cons_append, List.append_nil, List.map_cons, List.map_nil, V.ren, V.renL, List.forall_mem_cons, List.not_mem_nil, List.mem_cons, forall_eq_or_imp, implies_true, false_implies, forall_const, and_self, true_or, minmaxP, lenP, lenOf, lenStr, V.asInt, Int.toNat_natCast, List.length_map, List.getElem?_map, Option.map_some, Int.ofNat_lt, Int.natCast_nonneg, decide_true, decide_false, Int.cast_ofNat_Int, nat_lt_zero, nat_one, nat_zero, dd_length, dd_get, dd_take, dd_drop, resGo_dd, undd_dd, take_len_map, take_marks, List.length_replicate, sliceP, boundP, makeSliceP, convertP, appendP, rowsOfP, ontoP, sizeFits, V.rowSize, TyK.src, resV, resV.go, resV.gol, retP, retOne, retAll, resTo, objsAre, ty2, ty3, ty4, ty37, ty57, ty59, Mv.cells, upd_zero, upd_get, upd_length, List.set_set, Nat.mul_zero, dd_get, Nat.one_mul, Nat.add_assoc, Nat.reduceAdd, h_m, hw_m, hlt_m, hset, hsg, hsu, hall, hw0, hw1, hw2]
       try (refine hk _ _ _ _ ?_; clear hk k))
    | (with_reducible apply regW_skip
       · simp only [dstOk, Nat.reduceLT]
       · rfl
       · simp only [putSt, lk, Res.s.injEq, Res.r.injEq, reduceCtorEq, Nat.reduceEqDiff, if_true, if_false]; done)
    | (with_reducible apply regW_yesN
       · simp only [dstOk, Nat.reduceLT]
       · rfl
       · simp only [putSt, lk, Res.s.injEq, Res.r.injEq, reduceCtorEq, Nat.reduceEqDiff, if_true, if_false]; done)
    | (with_reducible apply regW_no
       · simp only [dstOk, Nat.reduceLT]
       · rfl
       · simp only [putSt, lk, Res.s.injEq, Res.r.injEq, reduceCtorEq, Nat.reduceEqDiff, if_true, if_false, Bool.not_true, Bool.not_false]; done)
    | (with_reducible apply regW_guardN
       · simp only [dstOk, Nat.reduceLT]
       · rfl
       · simp only [putSt, lk, Res.s.injEq, Res.r.injEq, reduceCtorEq, Nat.reduceEqDiff, if_true, if_false]; rfl
       intro hb
       rotate_left
       intro hb)
    | (with_reducible apply aw_cond
       · simp only [putSt, lk, Res.s.injEq, Res.r.injEq, reduceCtorEq, Nat.reduceEqDiff, if_true, if_false]; rfl
       all_goals (intro hc; try (cases hc; done))))

  all_goals (try (simp_all))
  all_goals (try rfl)
  all_goals (try (rw [Bool.eq_iff_iff]; simp; done))
  all_goals (try (rw [Bool.eq_iff_iff]; simp; omega))
  all_goals (try (intros; omega))
  all_goals (try grind)

theorem c_laws_markMovS1 (l : List Mv) (h : l.length ≤ 1048576) : Con Try.prog 27 [.sl 0 3 0 l.length, V.int 1] [.o 3 (dd (l.map Mv.cells))] (V.int (1 + 3 * l.length : Nat)) [.o 3 (dd (((List.range l.length).map fun j => mkM (1 + 3 * j)).map Mv.cells))] :=
  c_laws_markMovS l 1 h (by omega)

theorem c_laws_heldInt64S (n k : Nat) (h : n ≤ 1048576) (hk : k ≤ 1099511627776) : Con Try.prog 29 [bRows 1 N1 ((List.range n).map fun j => mkN (k + 1 * j)), V.int k] [] (V.int (k + 1 * n : Nat)) [] := by
  have h_m : DUM = 0 := rfl
  have hw_m : DUM = 0 := rfl
  have hlt_m : DUM = 0 := rfl
  have hrg : DUM = 0 := rfl
  have hn : DUM = 0 := rfl
  have hw0 : DUM = 0 := rfl

  refine con_of_aw Try.func29 rfl Try.call29 (by simp [Try.ntmps29]) (by simp [V.inNs, V.inN]) (by simp [C.inN, V.inNss, V.inNs, V.inN, inNss_dd]) (by simp [V.inNs, V.inN]) (by simp [C.inN, V.inNss, V.inNs, V.inN, inNss_dd]) rfl ?_
  rw [Try.ntmps29, Try.results29]
  simp only [entryS, entryO, Nat.reduceAdd, List.length_nil, List.length_cons]
  repeat' (first
    | with_reducible refine aw_seq ?_
    | with_reducible refine aw_reg ?_
    | with_reducible refine aw_ret ?_
    | with_reducible refine aw_skip ?_
    | with_reducible refine aw_block ?_
    | with_reducible refine aw_exit ?_
    | with_reducible refine seqQ_normal ?_
    | with_reducible refine seqQ_ret ?_
    | with_reducible refine seqQ_exit ?_
    | with_reducible refine blockQ_normal ?_
    | with_reducible refine blockQ_ret ?_
    | with_reducible refine blockQ_this ?_
    | with_reducible refine blockQ_other (by decide) ?_
    | with_reducible refine regW_nil ?_
    | with_reducible refine aw_draw mixed ?_
    | (with_reducible refine regD_nil ?_
       refine ⟨by kernel_rfl, ?_⟩)
    | with_reducible refine retQ_ret ?_
    | with_reducible refine retQ_normal ?_
    | ((with_reducible refine aw_loopA _ (Nat.le_refl _) (fun x : Nat => [(.s 5, some (.v (V.int (x : Nat)))), (.s 0, some (.v (bRows 1 N1 ((List.range n).map fun j => mkN (k + 1 * j))))), (.s 1, some (.v (V.int (k + 1 * x : Nat))))]) (fun x => n - x) (fun x => x ≤ n) (0) (by simp [slNL, C.inN, V.inN, V.inNs, V.inNss, inNss_dd, inNs_map_d]) (gh_to ?_) ?_ ?_)
       · simp only [SubL, putSt, lk, Res.s.injEq, Res.r.injEq, reduceCtorEq, Nat.reduceEqDiff, if_true, if_false, Nat.mul_zero, Nat.add_zero, Nat.mul_add, Nat.add_assoc, Nat.mul_one, Nat.one_mul, Nat.reduceAdd]; repeat' (first | apply And.intro | rfl | trivial)
       · simp_all; try omega
       intro x hJ
       have hb_m : x < 4611686018427387904 := by omega
       have hw_m := wrapS hb_m
       rcases Nat.lt_or_ge x (((List.range n).map fun j => mkN (k + 1 * j)).length) with hlt_m | hge_m
       obtain ⟨m, h_m⟩ := list_get hlt_m
       have hd_m := drop_cons h_m
       rotate_left
       have hd_m := drop_nil hge_m
       have hlt_m := Nat.not_lt.2 hge_m
       rotate_left
       have hw0 := wrapS (show k + 1 * x + 0 < 4611686018427387904 by omega)
       have hn : x < n := by simpa using hlt_m
       have hrg := List.getElem?_range hn
       simp only [Nat.add_assoc, Nat.one_mul, Nat.add_zero, Nat.zero_add, Nat.reduceAdd] at hw0
       rotate_left
       have hxn : n ≤ x := by simpa using hge_m
       have hn := Nat.not_lt.2 hxn
       have hxl : x = n := by omega
       subst hxl
       rotate_left
)
    | ((with_reducible refine next_to (x + 1) (Nat.le_refl _) (by simp [slNL, C.inN, V.inN, V.inNs, V.inNss, inNss_dd, inNs_map_d]) ?_ ?_ ?_)
       · simp only [SubL, putSt, lk, Res.s.injEq, Res.r.injEq, reduceCtorEq, Nat.reduceEqDiff, if_true, if_false, Nat.mul_zero, Nat.add_zero, Nat.mul_add, Nat.add_assoc, Nat.mul_one, Nat.one_mul, Nat.reduceAdd]; repeat' (first | apply And.intro | rfl | trivial)
       · simp_all; try omega
       · simp_all; try omega)
    | (first
        | ((with_reducible refine gh_ret ?_); simp only [RetW])
        | (with_reducible apply regD_op
           · simp only [dstOk, Nat.reduceLT]
           · simp only [Nat.reduceAdd]; rfl
           intro k hk
           simp only [stepP])
        | (with_reducible apply regW_op
           · simp only [dstOk, Nat.reduceLT]
           · simp only [Nat.reduceAdd]; rfl
           intro k hk)
       try simp only [opC, opP, fetchN, fetchP, fetchAll, fetchO, Prog.bind, Prog.wp, Prog.wp_bind, lk, nameP, nameAll, Value.oneCell', putSt, stepP, putP, Res.s.injEq, Res.r.injEq, reduceCtorEq, V.lin, V.linL, D.lin, isNil, binP, unP, intBin, BinOp.isShift, Prog.ofO, true_and, and_true, Nat.reduceAdd, Nat.reduceMul, Nat.reduceSub, Nat.reduceLT, Nat.reduceLeDiff, Nat.reduceEqDiff, Nat.add_zero, Nat.zero_add, Nat.le_refl, if_true, if_false, ite_true, ite_false, Bool.false_eq_true, List.length_nil, List.length_cons, Bool.not_true, Bool.not_false, Bool.or_false, Bool.or_true, fieldAddrP, fieldP, indexAddrP, loadP, storeP, boxP, allocP, cellsP, asVal, setSeg, outP, TyK.field, TyK.agg, zeroRow, List.getElem?_cons_zero, List.getElem?_cons_succ, List.take_succ_cons, List.take_zero, List.drop_succ_cons, List.drop_zero, List.set_cons_zero, List.set_cons_succ, List.nil_append, List.cons_append, List.append_nil, List.map_cons, List.map_nil, V.ren, V.renL, List.forall_mem_cons, List.not_mem_nil, List.mem_cons, forall_eq_or_imp, implies_true, false_implies, forall_const, and_self, true_or, minmaxP, lenP, lenOf, lenStr, V.asInt, Int.toNat_natCast, List.length_map, List.getElem?_map, Option.map_some, Int.ofNat_lt, Int.natCast_nonneg, decide_true, decide_false, Int.cast_ofNat_Int, nat_lt_zero, nat_one, nat_zero, dd_length, dd_get, dd_take, dd_drop, resGo_dd, undd_dd, take_len_map, take_marks, List.length_replicate, sliceP, boundP, makeSliceP, convertP, appendP, rowsOfP, ontoP, sizeFits, V.rowSize, TyK.src, resV, resV.go, resV.gol, retP, retOne, retAll, resTo, objsAre, ty2, ty3, ty4, ty41, N1, mkN, List.length_range, Nat.mul_zero, Nat.one_mul, Nat.add_assoc, Nat.reduceAdd, bne_self_eq_false, h_m, hw_m, hlt_m, hrg, hn, hw0]
       try (refine hk _ _ _ _ ?_; clear hk k))
    | (with_reducible apply regW_skip
       · simp only [dstOk, Nat.reduceLT]
       · rfl
       · simp only [putSt, lk, Res.s.injEq, Res.r.injEq, reduceCtorEq, Nat.reduceEqDiff, if_true, if_false]; done)
    | (with_reducible apply regW_yesN
       · simp only [dstOk, Nat.reduceLT]
       · rfl
       · simp only [putSt, lk, Res.s.injEq, Res.r.injEq, reduceCtorEq, Nat.reduceEqDiff, if_true, if_false]; done)
    | (with_reducible apply regW_no
       · simp only [dstOk, Nat.reduceLT]
       · rfl
       · simp only [putSt, lk, Res.s.injEq, Res.r.injEq, reduceCtorEq, Nat.reduceEqDiff, if_true, if_false, Bool.not_true, Bool.not_false]; done)
    | (with_reducible apply regW_guardN
       · simp only [dstOk, Nat.reduceLT]
       · rfl
       · simp only [putSt, lk, Res.s.injEq, Res.r.injEq, reduceCtorEq, Nat.reduceEqDiff, if_true, if_false]; rfl
       intro hb
       rotate_left
       intro hb)
    | (with_reducible apply aw_cond
       · simp only [putSt, lk, Res.s.injEq, Res.r.injEq, reduceCtorEq, Nat.reduceEqDiff, if_true, if_false]; rfl
       all_goals (intro hc; try (cases hc; done))))

  all_goals (try (simp_all))
  all_goals (try rfl)
  all_goals (try (rw [Bool.eq_iff_iff]; simp; done))
  all_goals (try (rw [Bool.eq_iff_iff]; simp; omega))
  all_goals (try (intros; omega))
  all_goals (try grind)

theorem c_laws_heldInt64S1 (n : Nat) (h : n ≤ 1048576) : Con Try.prog 29 [bRows 1 N1 ((List.range n).map fun j => mkN (1 + 1 * j)), V.int 1] [] (V.int (1 + 1 * n : Nat)) [] :=
  c_laws_heldInt64S n 1 h (by omega)

theorem c_laws_heldMovS (n k : Nat) (h : n ≤ 1048576) (hk : k ≤ 1099511627776) : Con Try.prog 36 [bRows 3 Mv.cells ((List.range n).map fun j => mkM (k + 3 * j)), V.int k] [] (V.int (k + 3 * n : Nat)) [] := by
  have h_m : DUM = 0 := rfl
  have hw_m : DUM = 0 := rfl
  have hlt_m : DUM = 0 := rfl
  have hrg : DUM = 0 := rfl
  have hn : DUM = 0 := rfl
  have hw0 : DUM = 0 := rfl
  have hw1 : DUM = 0 := rfl
  have hw2 : DUM = 0 := rfl

  refine con_of_aw Try.func36 rfl Try.call36 (by simp [Try.ntmps36]) (by simp [V.inNs, V.inN]) (by simp [C.inN, V.inNss, V.inNs, V.inN, inNss_dd]) (by simp [V.inNs, V.inN]) (by simp [C.inN, V.inNss, V.inNs, V.inN, inNss_dd]) rfl ?_
  rw [Try.ntmps36, Try.results36]
  simp only [entryS, entryO, Nat.reduceAdd, List.length_nil, List.length_cons]
  repeat' (first
    | with_reducible refine aw_seq ?_
    | with_reducible refine aw_reg ?_
    | with_reducible refine aw_ret ?_
    | with_reducible refine aw_skip ?_
    | with_reducible refine aw_block ?_
    | with_reducible refine aw_exit ?_
    | with_reducible refine seqQ_normal ?_
    | with_reducible refine seqQ_ret ?_
    | with_reducible refine seqQ_exit ?_
    | with_reducible refine blockQ_normal ?_
    | with_reducible refine blockQ_ret ?_
    | with_reducible refine blockQ_this ?_
    | with_reducible refine blockQ_other (by decide) ?_
    | with_reducible refine regW_nil ?_
    | with_reducible refine aw_draw mixed ?_
    | (with_reducible refine regD_nil ?_
       refine ⟨by kernel_rfl, ?_⟩)
    | with_reducible refine retQ_ret ?_
    | with_reducible refine retQ_normal ?_
    | ((with_reducible refine aw_loopA _ (Nat.le_refl _) (fun x : Nat => [(.s 5, some (.v (V.int (x : Nat)))), (.s 0, some (.v (bRows 3 Mv.cells ((List.range n).map fun j => mkM (k + 3 * j))))), (.s 1, some (.v (V.int (k + 3 * x : Nat))))]) (fun x => n - x) (fun x => x ≤ n) (0) (by simp [slNL, C.inN, V.inN, V.inNs, V.inNss, inNss_dd, inNs_map_d]) (gh_to ?_) ?_ ?_)
       · simp only [SubL, putSt, lk, Res.s.injEq, Res.r.injEq, reduceCtorEq, Nat.reduceEqDiff, if_true, if_false, Nat.mul_zero, Nat.add_zero, Nat.mul_add, Nat.add_assoc, Nat.mul_one, Nat.one_mul, Nat.reduceAdd]; repeat' (first | apply And.intro | rfl | trivial)
       · simp_all; try omega
       intro x hJ
       have hb_m : x < 4611686018427387904 := by omega
       have hw_m := wrapS hb_m
       rcases Nat.lt_or_ge x (((List.range n).map fun j => mkM (k + 3 * j)).length) with hlt_m | hge_m
       obtain ⟨m, h_m⟩ := list_get hlt_m
       have hd_m := drop_cons h_m
       rotate_left
       have hd_m := drop_nil hge_m
       have hlt_m := Nat.not_lt.2 hge_m
       rotate_left
       have hw0 := wrapS (show k + 3 * x + 0 < 4611686018427387904 by omega)
       have hw1 := wrapS (show k + 3 * x + 1 < 4611686018427387904 by omega)
       have hw2 := wrapS (show k + 3 * x + 2 < 4611686018427387904 by omega)
       have hn : x < n := by simpa using hlt_m
       have hrg := List.getElem?_range hn
       simp only [Nat.add_assoc, Nat.one_mul, Nat.add_zero, Nat.zero_add, Nat.reduceAdd] at hw0 hw1 hw2
       rotate_left
       have hxn : n ≤ x := by simpa using hge_m
       have hn := Nat.not_lt.2 hxn
       have hxl : x = n := by omega
       subst hxl
       rotate_left
)
    | ((with_reducible refine next_to (x + 1) (Nat.le_refl _) (by simp [slNL, C.inN, V.inN, V.inNs, V.inNss, inNss_dd, inNs_map_d]) ?_ ?_ ?_)
       · simp only [SubL, putSt, lk, Res.s.injEq, Res.r.injEq, reduceCtorEq, Nat.reduceEqDiff, if_true, if_false, Nat.mul_zero, Nat.add_zero, Nat.mul_add, Nat.add_assoc, Nat.mul_one, Nat.one_mul, Nat.reduceAdd]; repeat' (first | apply And.intro | rfl | trivial)
       · simp_all; try omega
       · simp_all; try omega)
    | (first
        | ((with_reducible refine gh_ret ?_); simp only [RetW])
        | (with_reducible apply regD_op
           · simp only [dstOk, Nat.reduceLT]
           · simp only [Nat.reduceAdd]; rfl
           intro k hk
           simp only [stepP])
        | (with_reducible apply regW_op
           · simp only [dstOk, Nat.reduceLT]
           · simp only [Nat.reduceAdd]; rfl
           intro k hk)
       try simp only [opC, opP, fetchN, fetchP, fetchAll, fetchO, Prog.bind, Prog.wp, Prog.wp_bind, lk, nameP, nameAll, Value.oneCell', putSt, stepP, putP, Res.s.injEq, Res.r.injEq, reduceCtorEq, V.lin, V.linL, D.lin, isNil, binP, unP, intBin, BinOp.isShift, Prog.ofO, true_and, and_true, Nat.reduceAdd, Nat.reduceMul, Nat.reduceSub, Nat.reduceLT, Nat.reduceLeDiff, Nat.reduceEqDiff, Nat.add_zero, Nat.zero_add, Nat.le_refl, if_true, if_false, ite_true, ite_false, Bool.false_eq_true, List.length_nil, List.length_cons, Bool.not_true, Bool.not_false, Bool.or_false, Bool.or_true, fieldAddrP, fieldP, indexAddrP, loadP, storeP, boxP, allocP, cellsP, asVal, setSeg, outP, TyK.field, TyK.agg, zeroRow, List.getElem?_cons_zero, List.getElem?_cons_succ, List.take_succ_cons, List.take_zero, List.drop_succ_cons, List.drop_zero, List.set_cons_zero, List.set_cons_succ, List.nil_append, List.cons_append, List.append_nil, List.map_cons, List.map_nil, V.ren, V.renL, List.forall_mem_cons, List.not_mem_nil, List.mem_cons, forall_eq_or_imp, implies_true, false_implies, forall_const, and_self, true_or, minmaxP, lenP, lenOf, lenStr, V.asInt, Int.toNat_natCast, List.length_map, List.getElem?_map, Option.map_some, Int.ofNat_lt, Int.natCast_nonneg, decide_true, decide_false, Int.cast_ofNat_Int, nat_lt_zero, nat_one, nat_zero, dd_length, dd_get, dd_take, dd_drop, resGo_dd, undd_dd, take_len_map, take_marks, List.length_replicate, sliceP, boundP, makeSliceP, convertP, appendP, rowsOfP, ontoP, sizeFits, V.rowSize, TyK.src, resV, resV.go, resV.gol, retP, retOne, retAll, resTo, objsAre, ty2, ty3, ty4, ty37, ty57, ty59, Mv.cells, mkM, List.length_range, Nat.mul_zero, Nat.one_mul, Nat.add_assoc, Nat.reduceAdd, bne_self_eq_false, h_m, hw_m, hlt_m, hrg, hn, hw0, hw1, hw2]
       try (refine hk _ _ _ _ ?_; clear hk k))
    | (with_reducible apply regW_skip
       · simp only [dstOk, Nat.reduceLT]
       · rfl
       · simp only [putSt, lk, Res.s.injEq, Res.r.injEq, reduceCtorEq, Nat.reduceEqDiff, if_true, if_false]; done)
    | (with_reducible apply regW_yesN
       · simp only [dstOk, Nat.reduceLT]
       · rfl
       · simp only [putSt, lk, Res.s.injEq, Res.r.injEq, reduceCtorEq, Nat.reduceEqDiff, if_true, if_false]; done)
    | (with_reducible apply regW_no
       · simp only [dstOk, Nat.reduceLT]
       · rfl
       · simp only [putSt, lk, Res.s.injEq, Res.r.injEq, reduceCtorEq, Nat.reduceEqDiff, if_true, if_false, Bool.not_true, Bool.not_false]; done)
    | (with_reducible apply regW_guardN
       · simp only [dstOk, Nat.reduceLT]
       · rfl
       · simp only [putSt, lk, Res.s.injEq, Res.r.injEq, reduceCtorEq, Nat.reduceEqDiff, if_true, if_false]; rfl
       intro hb
       rotate_left
       intro hb)
    | (with_reducible apply aw_cond
       · simp only [putSt, lk, Res.s.injEq, Res.r.injEq, reduceCtorEq, Nat.reduceEqDiff, if_true, if_false]; rfl
       all_goals (intro hc; try (cases hc; done))))

  all_goals (try (simp_all))
  all_goals (try rfl)
  all_goals (try (rw [Bool.eq_iff_iff]; simp; done))
  all_goals (try (rw [Bool.eq_iff_iff]; simp; omega))
  all_goals (try (intros; omega))
  all_goals (try grind)

theorem c_laws_heldMovS1 (n : Nat) (h : n ≤ 1048576) : Con Try.prog 36 [bRows 3 Mv.cells ((List.range n).map fun j => mkM (1 + 3 * j)), V.int 1] [] (V.int (1 + 3 * n : Nat)) [] :=
  c_laws_heldMovS n 1 h (by omega)

end Go.Proofs.Ytdoboiiilcgbnaa
