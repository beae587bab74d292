/- WHAT IS PROVED: contracts of functions of the program, each by a walk of its code. Conditions: none. -/
import Derived.Test.YtdoboiiilcgbnaaK7
namespace Go.Proofs.Ytdoboiiilcgbnaa
open Go.Proofs Go.Proofs.Ytdoboiiilcgbnaa.L
set_option maxHeartbeats 1000000
set_option linter.unusedSimpArgs false
set_option linter.unusedVariables false

def onceB (l : List Mv) : Bool := decide ((l.map Mv.to).Nodup)
def rightB (l : List Mv) : Bool := decide (l.length ≤ 40) && l.all movOk
theorem rightB_eq (l : List Mv) : (decide (l.length ≤ 40) && l.all movOk) = rightB l := rfl
theorem once_step {l : List Mv} {x : Nat} {m : Mv} (h : l[x]? = some m) (h1 : ((l.take x).map Mv.to).Nodup) (h2 : ∀ n ∈ l.take x, n.to ≠ m.to) : ((l.take (x + 1)).map Mv.to).Nodup := by
  obtain ⟨hx, e⟩ := List.getElem?_eq_some_iff.1 h
  rw [← List.take_append_getElem hx, e, List.map_append, List.nodup_append]
  refine ⟨h1, by simp, ?_⟩
  intro a ha b hb
  simp at hb
  subst hb
  obtain ⟨n, hn, rfl⟩ := List.mem_map.1 ha
  exact h2 n hn
theorem once_not {l : List Mv} {x y : Nat} {m n : Mv} (h : l[x]? = some m) (h2 : l[y]? = some n) (hlt : y < x) (e : n.to = m.to) : onceB l = false := by
  obtain ⟨hx, e1⟩ := List.getElem?_eq_some_iff.1 h
  obtain ⟨hy, e2⟩ := List.getElem?_eq_some_iff.1 h2
  unfold onceB
  rw [decide_eq_false_iff_not]
  intro hn
  have := List.pairwise_iff_getElem.1 hn y x (by simpa using hy) (by simpa using hx) hlt
  simp [e1, e2, e] at this
theorem once_not' {l : List Mv} {x y : Nat} {m n : Mv} (h : l[x]? = some m) (h2 : (l.take x)[y]? = some n) (e : m.to = n.to) : onceB l = false := by
  obtain ⟨hy, e2⟩ := List.getElem?_eq_some_iff.1 h2
  have hy' : y < x := by simp at hy; omega
  refine once_not h (y := y) (n := n) ?_ hy' e.symm
  rw [← h2, List.getElem?_take_of_lt hy']
theorem once_end {l : List Mv} (h : ((l.take l.length).map Mv.to).Nodup) : onceB l = true := by
  unfold onceB
  rw [List.take_length] at h
  exact decide_eq_true h
theorem take_step {l : List Mv} {y : Nat} {n m : Mv} (h : l[y]? = some n) (h1 : ∀ a ∈ l.take y, a.to ≠ m.to) (h2 : n.to ≠ m.to) : ∀ a ∈ l.take (y + 1), a.to ≠ m.to := by
  obtain ⟨hy, e⟩ := List.getElem?_eq_some_iff.1 h
  rw [← List.take_append_getElem hy, e]
  intro a ha
  rcases List.mem_append.1 ha with ha | ha
  · exact h1 a ha
  · simp at ha
    subst ha
    exact h2

theorem c_spec_l16Once (l : List Mv) (h : l.length ≤ 1048576) : Con Try.prog 54 [bRows 3 Mv.cells l] [] (V.bool (onceB l && rightB l)) [] := by
  have h_m : DUM = 0 := rfl
  have hw_m : DUM = 0 := rfl
  have hlt_m : DUM = 0 := rfl
  have h_k2 : DUM = 0 := rfl
  have hw_k2 : DUM = 0 := rfl
  have hlt_k2 : DUM = 0 := rfl
  have h_n : DUM = 0 := rfl
  have hyl : DUM = 0 := rfl

  refine con_of_aw Try.func54 rfl Try.call54 (by simp [Try.ntmps54]) (by simp [V.inNs, V.inN]) (by simp [C.inN, V.inNss, V.inNs, V.inN, inNss_dd]) (by simp [V.inNs, V.inN]) (by simp [C.inN, V.inNss, V.inNs, V.inN, inNss_dd]) rfl ?_
  rw [Try.ntmps54, Try.results54]
  simp only [entryS, entryO, Nat.reduceAdd, List.length_nil, List.length_cons]
  repeat' (first
    | with_reducible refine aw_seq ?_
    | with_reducible refine aw_reg ?_
    | with_reducible refine aw_ret ?_
    | with_reducible refine aw_skip ?_
    | with_reducible refine aw_block ?_
    | with_reducible refine aw_exit ?_
    | with_reducible refine seqQ_normal ?_
    | with_reducible refine seqQ_ret ?_
    | with_reducible refine seqQ_exit ?_
    | with_reducible refine blockQ_normal ?_
    | with_reducible refine blockQ_ret ?_
    | with_reducible refine blockQ_this ?_
    | with_reducible refine blockQ_other (by decide) ?_
    | with_reducible refine regW_nil ?_
    | with_reducible refine aw_draw mixed ?_
    | (with_reducible refine regD_nil ?_
       refine ⟨by kernel_rfl, ?_⟩)
    | with_reducible refine retQ_ret ?_
    | with_reducible refine retQ_normal ?_
    | ((with_reducible refine aw_loopA _ (Nat.le_refl _) (fun x : Nat => [(.s 3, some (.v (V.int (x : Nat)))), (.s 0, some (.v (bRows 3 Mv.cells l)))]) (fun x => (l.length) - x) (fun x => x ≤ l.length ∧ ((l.take x).map Mv.to).Nodup) (0) (by simp [slNL, C.inN, V.inN, V.inNs, V.inNss, inNss_dd, inNs_map_d]) (gh_to ?_) ?_ ?_)
       · simp only [SubL, putSt, lk, Res.s.injEq, Res.r.injEq, reduceCtorEq, Nat.reduceEqDiff, if_true, if_false]; repeat' (first | apply And.intro | rfl | trivial)
       · simp
       intro x hJ
       have hb_m : x < 4611686018427387904 := by omega
       have hw_m := wrapS hb_m
       rcases Nat.lt_or_ge x (l.length) with hlt_m | hge_m
       obtain ⟨m, h_m⟩ := list_get hlt_m
       have hd_m := drop_cons h_m
       rotate_left
       have hd_m := drop_nil hge_m
       have hlt_m := Nat.not_lt.2 hge_m
       rotate_left
)
    | ((with_reducible refine aw_loopA _ (Nat.le_refl _) (fun y : Nat => [(.s 4, some (.v (V.int (y : Nat)))), (.s 0, some (.v (bRows 3 Mv.cells l))), (.s 3, some (.v (V.int x)))]) (fun y => (x) - y) (fun y => y ≤ x ∧ ∀ n ∈ l.take y, n.to ≠ m.to) (0) (by simp [slNL, C.inN, V.inN, V.inNs, V.inNss, inNss_dd, inNs_map_d]) (gh_to ?_) ?_ ?_)
       · simp only [SubL, putSt, lk, Res.s.injEq, Res.r.injEq, reduceCtorEq, Nat.reduceEqDiff, if_true, if_false]; repeat' (first | apply And.intro | rfl | trivial)
       · simp
       intro y hI
       have hb_k2 : y < 4611686018427387904 := by omega
       have hw_k2 := wrapS hb_k2
       rcases Nat.lt_or_ge y (x) with hlt_k2 | hge_k2
       rotate_left
       have hlt_k2 := Nat.not_lt.2 hge_k2
       rotate_left
       have hyl : y < l.length := by omega
       obtain ⟨n, h_n⟩ := list_get hyl
       rotate_left
       rotate_left
)
    | ((with_reducible refine next_to (x + 1) (Nat.le_refl _) (by simp [slNL, C.inN, V.inN, V.inNs, V.inNss, inNss_dd, inNs_map_d]) ?_ ?_ ?_)
       · simp only [SubL, putSt, lk, Res.s.injEq, Res.r.injEq, reduceCtorEq, Nat.reduceEqDiff, if_true, if_false]; repeat' (first | apply And.intro | rfl | trivial)
       · first | omega | exact ⟨by omega, once_step h_m hJ.2 (by have e := Nat.le_antisymm hI.1 hge_k2; rw [← e]; exact hI.2)⟩
       · first | omega | exact ⟨by omega, once_step h_m hJ.2 (by have e := Nat.le_antisymm hI.1 hge_k2; rw [← e]; exact hI.2)⟩)
    | ((with_reducible refine next_to (y + 1) (Nat.le_refl _) (by simp [slNL, C.inN, V.inN, V.inNs, V.inNss, inNss_dd, inNs_map_d]) ?_ ?_ ?_)
       · simp only [SubL, putSt, lk, Res.s.injEq, Res.r.injEq, reduceCtorEq, Nat.reduceEqDiff, if_true, if_false]; repeat' (first | apply And.intro | rfl | trivial)
       · first | omega | exact ⟨by omega, take_step h_n hI.2 (by simpa using hc)⟩
       · first | omega | exact ⟨by omega, take_step h_n hI.2 (by simpa using hc)⟩)
    | (first
        | ((with_reducible refine gh_ret ?_); simp only [RetW])
        | (with_reducible refine call_data (c_spec_MovesRight _) rfl ?_)
        | ((with_reducible apply call_auto (f := 19))
           · simp only [lendAL, lendA, Option.bind_some, Option.map_some, undd_dd, dd_length, dd_take, dd_drop, List.length_map, List.length_range, Nat.zero_add, Nat.add_zero, Nat.le_refl, true_and, and_true, and_self, take_len_map, take_marks, List.drop_zero, C.o.injEq, V.d.injEq, putSt, lk, Res.s.injEq, Res.r.injEq, reduceCtorEq, Nat.reduceEqDiff, if_true, if_false, lend_mv, lend_n1, Mv.cells, rightB_eq]; rfl
           · with_reducible exact c_spec_MovesRight _
           · first | rfl | exact nb_rows (fun _ => rfl) _ _
           simp only [V.namesOf, V.namesOfL, List.foldl_cons, List.foldl_nil, List.nil_append, List.append_nil, List.cons_append])
        | (with_reducible apply regD_op
           · simp only [dstOk, Nat.reduceLT]
           · simp only [Nat.reduceAdd]; rfl
           intro k hk
           simp only [stepP])
        | (with_reducible apply regW_op
           · simp only [dstOk, Nat.reduceLT]
           · simp only [Nat.reduceAdd]; rfl
           intro k hk)
       try simp only [opC, opP, fetchN, fetchP, fetchAll, fetchO, Prog.bind, Prog.wp, Prog.wp_bind, lk, nameP, nameAll, Value.oneCell', putSt, stepP, putP, Res.s.injEq, Res.r.injEq, reduceCtorEq, V.lin, V.linL, D.lin, isNil, binP, unP, intBin, BinOp.isShift, Prog.ofO, true_and, and_true, Nat.reduceAdd, Nat.reduceMul, Nat.reduceSub, Nat.reduceLT, Nat.reduceLeDiff, Nat.reduceEqDiff, Nat.add_zero, Nat.zero_add, Nat.le_refl, if_true, if_false, ite_true, ite_false, Bool.false_eq_true, List.length_nil, List.length_cons, Bool.not_true, Bool.not_false, Bool.or_false, Bool.or_true, fieldAddrP, fieldP, indexAddrP, loadP, storeP, boxP, allocP, cellsP, asVal, setSeg, outP, TyK.field, TyK.agg, zeroRow, List.getElem?_cons_zero, List.getElem?_cons_succ, List.take_succ_cons, List.take_zero, List.drop_succ_cons, List.drop_zero, List.set_cons_zero, List.set_cons_succ, List.nil_append, List.cons_append, List.append_nil, List.map_cons, List.map_nil, V.ren, V.renL, List.forall_mem_cons, List.not_mem_nil, List.mem_cons, forall_eq_or_imp, implies_true, false_implies, forall_const, and_self, true_or, minmaxP, lenP, lenOf, lenStr, V.asInt, Int.toNat_natCast, List.length_map, List.getElem?_map, Option.map_some, Int.ofNat_lt, Int.natCast_nonneg, decide_true, decide_false, Int.cast_ofNat_Int, nat_lt_zero, nat_one, nat_zero, dd_length, dd_get, dd_take, dd_drop, resGo_dd, undd_dd, take_len_map, take_marks, List.length_replicate, sliceP, boundP, makeSliceP, convertP, appendP, rowsOfP, ontoP, sizeFits, V.rowSize, TyK.src, resV, resV.go, resV.gol, retP, retOne, retAll, resTo, objsAre, ty2, ty3, ty4, ty37, ty57, ty59, Mv.cells, rightB_eq, h_m, hw_m, hlt_m, h_k2, hw_k2, hlt_k2, h_n, hyl]
       try (refine hk _ _ _ _ ?_; clear hk k))
    | (with_reducible apply regW_skip
       · simp only [dstOk, Nat.reduceLT]
       · rfl
       · simp only [putSt, lk, Res.s.injEq, Res.r.injEq, reduceCtorEq, Nat.reduceEqDiff, if_true, if_false]; done)
    | (with_reducible apply regW_yesN
       · simp only [dstOk, Nat.reduceLT]
       · rfl
       · simp only [putSt, lk, Res.s.injEq, Res.r.injEq, reduceCtorEq, Nat.reduceEqDiff, if_true, if_false]; done)
    | (with_reducible apply regW_no
       · simp only [dstOk, Nat.reduceLT]
       · rfl
       · simp only [putSt, lk, Res.s.injEq, Res.r.injEq, reduceCtorEq, Nat.reduceEqDiff, if_true, if_false, Bool.not_true, Bool.not_false]; done)
    | (with_reducible apply regW_guardN
       · simp only [dstOk, Nat.reduceLT]
       · rfl
       · simp only [putSt, lk, Res.s.injEq, Res.r.injEq, reduceCtorEq, Nat.reduceEqDiff, if_true, if_false]; rfl
       intro hb
       rotate_left
       intro hb)
    | (with_reducible apply aw_cond
       · simp only [putSt, lk, Res.s.injEq, Res.r.injEq, reduceCtorEq, Nat.reduceEqDiff, if_true, if_false]; rfl
       all_goals (intro hc; try (cases hc; done))))

  all_goals (try (first | (have e := once_not h_m h_n hlt_k2 (by simpa using hc); simp [e]; done) | (have e := Nat.le_antisymm hJ.1 hge_m; rw [e] at hJ; have e2 := once_end hJ.2; simp [e2]; done) | skip))
  all_goals (try rfl)
  all_goals (try (rw [Bool.eq_iff_iff]; simp; done))
  all_goals (try (rw [Bool.eq_iff_iff]; simp; omega))
  all_goals (try (intros; omega))
  all_goals (try grind)

theorem c_impl_atOnce (l : List Mv) (h : l.length ≤ 1048576) : Con Try.prog 55 [bRows 3 Mv.cells l] [] (V.bool (onceB l && rightB l)) [] := by
  have h_m : DUM = 0 := rfl
  have hw_m : DUM = 0 := rfl
  have hlt_m : DUM = 0 := rfl
  have h_n : DUM = 0 := rfl
  have hw_n : DUM = 0 := rfl
  have hlt_n : DUM = 0 := rfl
  have hxl : DUM = 0 := rfl
  have hol : DUM = 0 := rfl

  refine con_of_aw Try.func55 rfl Try.call55 (by simp [Try.ntmps55]) (by simp [V.inNs, V.inN]) (by simp [C.inN, V.inNss, V.inNs, V.inN, inNss_dd]) (by simp [V.inNs, V.inN]) (by simp [C.inN, V.inNss, V.inNs, V.inN, inNss_dd]) rfl ?_
  rw [Try.ntmps55, Try.results55]
  simp only [entryS, entryO, Nat.reduceAdd, List.length_nil, List.length_cons]
  repeat' (first
    | with_reducible refine aw_seq ?_
    | with_reducible refine aw_reg ?_
    | with_reducible refine aw_ret ?_
    | with_reducible refine aw_skip ?_
    | with_reducible refine aw_block ?_
    | with_reducible refine aw_exit ?_
    | with_reducible refine seqQ_normal ?_
    | with_reducible refine seqQ_ret ?_
    | with_reducible refine seqQ_exit ?_
    | with_reducible refine blockQ_normal ?_
    | with_reducible refine blockQ_ret ?_
    | with_reducible refine blockQ_this ?_
    | with_reducible refine blockQ_other (by decide) ?_
    | with_reducible refine regW_nil ?_
    | with_reducible refine aw_draw mixed ?_
    | (with_reducible refine regD_nil ?_
       refine ⟨by kernel_rfl, ?_⟩)
    | with_reducible refine retQ_ret ?_
    | with_reducible refine retQ_normal ?_
    | ((with_reducible refine aw_loopA _ (Nat.le_refl _) (fun x : Nat => [(.s 9, some (.v (V.int (x : Nat)))), (.s 0, some (.v (bRows 3 Mv.cells l))), (.s 7, some (.v (bRows 3 Mv.cells l))), (.s 8, some (.v (V.int l.length)))]) (fun x => (l.length) - x) (fun x => x ≤ l.length ∧ ((l.take x).map Mv.to).Nodup) (0) (by simp [slNL, C.inN, V.inN, V.inNs, V.inNss, inNss_dd, inNs_map_d]) (gh_to ?_) ?_ ?_)
       · simp only [SubL, putSt, lk, Res.s.injEq, Res.r.injEq, reduceCtorEq, Nat.reduceEqDiff, if_true, if_false]; repeat' (first | apply And.intro | rfl | trivial)
       · simp
       intro x hJ
       have hb_m : x < 4611686018427387904 := by omega
       have hw_m := wrapS hb_m
       rcases Nat.lt_or_ge x (l.length) with hlt_m | hge_m
       obtain ⟨m, h_m⟩ := list_get hlt_m
       have hd_m := drop_cons h_m
       rotate_left
       have hd_m := drop_nil hge_m
       have hlt_m := Nat.not_lt.2 hge_m
       rotate_left
       have hxl := hJ.1
       rotate_left
       rotate_left
)
    | ((with_reducible refine aw_loopA _ (Nat.le_refl _) (fun y : Nat => [(.s 18, some (.v (V.int (y : Nat)))), (.s 0, some (.v (bRows 3 Mv.cells l))), (.s 7, some (.v (bRows 3 Mv.cells l))), (.s 8, some (.v (V.int l.length))), (.s 9, some (.v (V.int x))), (.s 16, some (.v (bRows 3 Mv.cells (l.take x)))), (.s 17, some (.v (V.int (l.take x).length))), (.s 4, some (.v (.mp 512 3 0 0))), (.r 512, some (.o 3 (dd [m.cells])))]) (fun y => ((l.take x).length) - y) (fun y => y ≤ (l.take x).length ∧ ∀ n ∈ (l.take x).take y, n.to ≠ m.to) (0) (by simp [slNL, C.inN, V.inN, V.inNs, V.inNss, inNss_dd, inNs_map_d]) (gh_to ?_) ?_ ?_)
       · simp only [SubL, putSt, lk, Res.s.injEq, Res.r.injEq, reduceCtorEq, Nat.reduceEqDiff, if_true, if_false]; repeat' (first | apply And.intro | rfl | trivial)
       · simp
       intro y hI
       have hb_n : y < 4611686018427387904 := by have := hI.1; simp only [List.length_take] at this; omega
       have hw_n := wrapS hb_n
       rcases Nat.lt_or_ge y ((l.take x).length) with hlt_n | hge_n
       obtain ⟨n, h_n⟩ := list_get hlt_n
       have hd_n := drop_cons h_n
       rotate_left
       have hd_n := drop_nil hge_n
       have hlt_n := Nat.not_lt.2 hge_n
       rotate_left
)
    | ((with_reducible refine next_to (x + 1) (Nat.le_refl _) (by simp [slNL, C.inN, V.inN, V.inNs, V.inNss, inNss_dd, inNs_map_d]) ?_ ?_ ?_)
       · simp only [SubL, putSt, lk, Res.s.injEq, Res.r.injEq, reduceCtorEq, Nat.reduceEqDiff, if_true, if_false]; repeat' (first | apply And.intro | rfl | trivial)
       · first | omega | exact ⟨by omega, once_step h_m hJ.2 (by have e := Nat.le_antisymm hI.1 hge_n; have e2 := hI.2; rw [e, List.take_length] at e2; exact e2)⟩
       · first | omega | exact ⟨by omega, once_step h_m hJ.2 (by have e := Nat.le_antisymm hI.1 hge_n; have e2 := hI.2; rw [e, List.take_length] at e2; exact e2)⟩)
    | ((with_reducible refine next_to (y + 1) (Nat.le_refl _) (by simp [slNL, C.inN, V.inN, V.inNs, V.inNss, inNss_dd, inNs_map_d]) ?_ ?_ ?_)
       · simp only [SubL, putSt, lk, Res.s.injEq, Res.r.injEq, reduceCtorEq, Nat.reduceEqDiff, if_true, if_false]; repeat' (first | apply And.intro | rfl | trivial)
       · first | omega | exact ⟨by omega, take_step h_n hI.2 (by intro e; rw [e] at hc; simp at hc)⟩
       · first | omega | exact ⟨by omega, take_step h_n hI.2 (by intro e; rw [e] at hc; simp at hc)⟩)
    | (first
        | ((with_reducible refine gh_ret ?_); simp only [RetW])
        | (with_reducible refine call_data (c_impl_movesRight _ (by first | assumption | omega)) rfl ?_)
        | ((with_reducible apply call_auto (f := 48))
           · simp only [lendAL, lendA, Option.bind_some, Option.map_some, undd_dd, dd_length, dd_take, dd_drop, List.length_map, List.length_range, Nat.zero_add, Nat.add_zero, Nat.le_refl, true_and, and_true, and_self, take_len_map, take_marks, List.drop_zero, C.o.injEq, V.d.injEq, putSt, lk, Res.s.injEq, Res.r.injEq, reduceCtorEq, Nat.reduceEqDiff, if_true, if_false, lend_mv, lend_n1, Mv.cells, rightB_eq, Nat.sub_zero, ← List.map_take, List.take_length, Int.ofNat_le, hxl, hol]; rfl
           · with_reducible exact c_impl_movesRight _ (by first | assumption | omega)
           · first | rfl | exact nb_rows (fun _ => rfl) _ _
           simp only [V.namesOf, V.namesOfL, List.foldl_cons, List.foldl_nil, List.nil_append, List.append_nil, List.cons_append])
        | (with_reducible apply regD_op
           · simp only [dstOk, Nat.reduceLT]
           · simp only [Nat.reduceAdd]; rfl
           intro k hk
           simp only [stepP])
        | (with_reducible apply regW_op
           · simp only [dstOk, Nat.reduceLT]
           · simp only [Nat.reduceAdd]; rfl
           intro k hk)
       try simp only [opC, opP, fetchN, fetchP, fetchAll, fetchO, Prog.bind, Prog.wp, Prog.wp_bind, lk, nameP, nameAll, Value.oneCell', putSt, stepP, putP, Res.s.injEq, Res.r.injEq, reduceCtorEq, V.lin, V.linL, D.lin, isNil, binP, unP, intBin, BinOp.isShift, Prog.ofO, true_and, and_true, Nat.reduceAdd, Nat.reduceMul, Nat.reduceSub, Nat.reduceLT, Nat.reduceLeDiff, Nat.reduceEqDiff, Nat.add_zero, Nat.zero_add, Nat.le_refl, if_true, if_false, ite_true, ite_false, Bool.false_eq_true, List.length_nil, List.length_cons, Bool.not_true, Bool.not_false, Bool.or_false, Bool.or_true, fieldAddrP, fieldP, indexAddrP, loadP, storeP, boxP, allocP, cellsP, asVal, setSeg, outP, TyK.field, TyK.agg, zeroRow, List.getElem?_cons_zero, List.getElem?_cons_succ, List.take_succ_cons, List.take_zero, List.drop_succ_cons, List.drop_zero, List.set_cons_zero, List.set_cons_succ, List.nil_append, List.cons_append, List.append_nil, List.map_cons, List.map_nil, V.ren, V.renL, List.forall_mem_cons, List.not_mem_nil, List.mem_cons, forall_eq_or_imp, implies_true, false_implies, forall_const, and_self, true_or, minmaxP, lenP, lenOf, lenStr, V.asInt, Int.toNat_natCast, List.length_map, List.getElem?_map, Option.map_some, Int.ofNat_lt, Int.natCast_nonneg, decide_true, decide_false, Int.cast_ofNat_Int, nat_lt_zero, nat_one, nat_zero, dd_length, dd_get, dd_take, dd_drop, resGo_dd, undd_dd, take_len_map, take_marks, List.length_replicate, sliceP, boundP, makeSliceP, convertP, appendP, rowsOfP, ontoP, sizeFits, V.rowSize, TyK.src, resV, resV.go, resV.gol, retP, retOne, retAll, resTo, objsAre, ty2, ty3, ty4, ty37, ty57, ty59, Mv.cells, rightB_eq, Nat.sub_zero, ← List.map_take, List.take_length, Int.ofNat_le, hxl, hol, h_m, hw_m, hlt_m, h_n, hw_n, hlt_n]
       try (refine hk _ _ _ _ ?_; clear hk k))
    | (with_reducible apply regW_skip
       · simp only [dstOk, Nat.reduceLT]
       · rfl
       · simp only [putSt, lk, Res.s.injEq, Res.r.injEq, reduceCtorEq, Nat.reduceEqDiff, if_true, if_false]; done)
    | (with_reducible apply regW_yesN
       · simp only [dstOk, Nat.reduceLT]
       · rfl
       · simp only [putSt, lk, Res.s.injEq, Res.r.injEq, reduceCtorEq, Nat.reduceEqDiff, if_true, if_false]; done)
    | (with_reducible apply regW_no
       · simp only [dstOk, Nat.reduceLT]
       · rfl
       · simp only [putSt, lk, Res.s.injEq, Res.r.injEq, reduceCtorEq, Nat.reduceEqDiff, if_true, if_false, Bool.not_true, Bool.not_false]; done)
    | (with_reducible apply regW_guardN
       · simp only [dstOk, Nat.reduceLT]
       · rfl
       · simp only [putSt, lk, Res.s.injEq, Res.r.injEq, reduceCtorEq, Nat.reduceEqDiff, if_true, if_false]; rfl
       intro hb
       rotate_left
       intro hb)
    | (with_reducible apply aw_cond
       · simp only [putSt, lk, Res.s.injEq, Res.r.injEq, reduceCtorEq, Nat.reduceEqDiff, if_true, if_false]; rfl
       all_goals (intro hc; try (cases hc; done))))

  all_goals (try (first | (have e := once_not' h_m h_n (by simpa using hc); simp [e]; done) | (have e := Nat.le_antisymm hJ.1 hge_m; rw [e] at hJ; have e2 := once_end hJ.2; simp [e2]; done) | skip))
  all_goals (try rfl)
  all_goals (try (rw [Bool.eq_iff_iff]; simp; done))
  all_goals (try (rw [Bool.eq_iff_iff]; simp; omega))
  all_goals (try (intros; omega))
  all_goals (try grind)

def runA (locs : List Int) : List Mv → List Int → List Int
  | [], out => out
  | m :: l, out => runA locs l (out.set m.to.toNat (rd m.src locs))
def mao (l : List Mv) (locs : List Int) : List Int := if (onceB l && rightB l) = true ∧ locs.length = 22 then runA locs l locs else []
theorem mao_goal {l : List Mv} {locs : List Int} (h : ¬ ((onceB l && rightB l) = true ∧ locs.length = 22)) : D.row .own 1 [] = D.row .own 1 (List.map N1 (mao l locs)) := by
  unfold mao
  rw [if_neg h]
  rfl

theorem c_spec_MovesAtOnce (l : List Mv) (locs : List Int) (h : l.length ≤ 1048576) (h2 : locs.length ≤ 1048576) : Con Try.prog 30 [bRows 3 Mv.cells l, bRows 1 N1 locs] [] (oRows 1 N1 (mao l locs)) [] := by
  have h_m : DUM = 0 := rfl
  have hw_m : DUM = 0 := rfl
  have hlt_m : DUM = 0 := rfl
  have hto0 : DUM = 0 := rfl
  have hto1 : DUM = 0 := rfl
  have hold : DUM = 0 := rfl

  refine con_of_aw Try.func30 rfl Try.call30 (by simp [Try.ntmps30]) (by simp [V.inNs, V.inN]) (by simp [C.inN, V.inNss, V.inNs, V.inN, inNss_dd]) (by simp [V.inNs, V.inN]) (by simp [C.inN, V.inNss, V.inNs, V.inN, inNss_dd]) rfl ?_
  rw [Try.ntmps30, Try.results30]
  simp only [entryS, entryO, Nat.reduceAdd, List.length_nil, List.length_cons]
  repeat' (first
    | with_reducible refine aw_seq ?_
    | with_reducible refine aw_reg ?_
    | with_reducible refine aw_ret ?_
    | with_reducible refine aw_skip ?_
    | with_reducible refine aw_block ?_
    | with_reducible refine aw_exit ?_
    | with_reducible refine seqQ_normal ?_
    | with_reducible refine seqQ_ret ?_
    | with_reducible refine seqQ_exit ?_
    | with_reducible refine blockQ_normal ?_
    | with_reducible refine blockQ_ret ?_
    | with_reducible refine blockQ_this ?_
    | with_reducible refine blockQ_other (by decide) ?_
    | with_reducible refine regW_nil ?_
    | with_reducible refine aw_draw mixed ?_
    | (with_reducible refine regD_nil ?_
       refine ⟨by kernel_rfl, ?_⟩)
    | with_reducible refine retQ_ret ?_
    | with_reducible refine retQ_normal ?_
    | ((with_reducible refine aw_loopA _ (Nat.le_refl _) (fun x : Nat × List Int => [(.s 6, some (.v (V.int (x.1 : Nat)))), (.s 0, some (.v (bRows 3 Mv.cells l))), (.s 1, some (.v (bRows 1 N1 locs))), (.s 5, some (.v (.sl 1280 1 0 x.2.length))), (.r 1280, some (.o 1 (dd (x.2.map N1))))]) (fun x => (l.length) - x.1) (fun x => x.1 ≤ l.length ∧ l.all movOk = true ∧ x.2.length = 22 ∧ l.length ≤ 40 ∧ locs.length = 22 ∧ onceB l = true ∧ runA locs l locs = runA locs (l.drop x.1) x.2) ((0, locs)) (by simp [slNL, C.inN, V.inN, V.inNs, V.inNss, inNss_dd, inNs_map_d]) (gh_to ?_) ?_ ?_)
       · simp only [SubL, putSt, lk, Res.s.injEq, Res.r.injEq, reduceCtorEq, Nat.reduceEqDiff, if_true, if_false, dd_set1, List.length_set]; repeat' (first | apply And.intro | rfl | trivial)
       · simp_all [rightB]; try omega
       intro x hJ
       have hb_m : x.1 < 4611686018427387904 := by omega
       have hw_m := wrapS hb_m
       rcases Nat.lt_or_ge x.1 (l.length) with hlt_m | hge_m
       obtain ⟨m, h_m⟩ := list_get hlt_m
       have hd_m := drop_cons h_m
       rotate_left
       have hd_m := drop_nil hge_m
       have hlt_m := Nat.not_lt.2 hge_m
       rotate_left
       have hmm : m ∈ l := List.mem_of_getElem? h_m
       have hok := List.all_eq_true.1 hJ.2.1 m hmm
       obtain ⟨hto0, hto1', hrd'⟩ := movOk_facts hok
       have hto1 : m.to < x.2.length := by rw [hJ.2.2.1]; exact hto1'
       have hrd : m.src.kind = 1 → 0 ≤ m.src.n ∧ m.src.n < locs.length := by rw [hJ.2.2.2.2.1]; exact hrd'
       have htn : m.to.toNat < x.2.length := by rw [hJ.2.2.1]; omega
       obtain ⟨old, hold⟩ := list_get htn
       have hlen := hJ.2.2.1
       rotate_left
       rotate_left
)
    | ((with_reducible refine next_to ((x.1 + 1, x.2.set m.to.toNat (rd m.src locs))) (Nat.le_refl _) (by simp [slNL, C.inN, V.inN, V.inNs, V.inNss, inNss_dd, inNs_map_d]) ?_ ?_ ?_)
       · simp only [SubL, putSt, lk, Res.s.injEq, Res.r.injEq, reduceCtorEq, Nat.reduceEqDiff, if_true, if_false, dd_set1, List.length_set]; repeat' (first | apply And.intro | rfl | trivial)
       · simp_all [runA]; try omega
       · simp_all [runA]; try omega)
    | (first
        | ((with_reducible refine gh_ret ?_); simp only [RetW])
        | (with_reducible refine call_data (c_spec_l06Nums locs h2) rfl ?_)
        | (with_reducible refine call_data (c_spec_l06Nums _ (by first | assumption | omega)) rfl ?_)
        | ((with_reducible apply call_auto (f := 50))
           · simp only [lendAL, lendA, Option.bind_some, Option.map_some, undd_dd, dd_length, dd_take, dd_drop, List.length_map, List.length_range, Nat.zero_add, Nat.add_zero, Nat.le_refl, true_and, and_true, and_self, take_len_map, take_marks, List.drop_zero, C.o.injEq, V.d.injEq, putSt, lk, Res.s.injEq, Res.r.injEq, reduceCtorEq, Nat.reduceEqDiff, if_true, if_false, lend_mv, lend_n1, Mv.cells, N1, Vl.eta, Mv.eta, buildSliceP, putParts, structPlaces, chunks, List.replicate, List.flatten_nil, lend_n1, dd_set1, Nat.zero_add]; rfl
           · with_reducible exact c_spec_l06Nums _ (by first | assumption | omega)
           · first | rfl | exact nb_rows (fun _ => rfl) _ _
           simp only [V.namesOf, V.namesOfL, List.foldl_cons, List.foldl_nil, List.nil_append, List.append_nil, List.cons_append])
        | (with_reducible refine call_data (c_spec_l11Read _ _ _ (by first | assumption | omega)) rfl ?_)
        | ((with_reducible apply call_auto (f := 51))
           · simp only [lendAL, lendA, Option.bind_some, Option.map_some, undd_dd, dd_length, dd_take, dd_drop, List.length_map, List.length_range, Nat.zero_add, Nat.add_zero, Nat.le_refl, true_and, and_true, and_self, take_len_map, take_marks, List.drop_zero, C.o.injEq, V.d.injEq, putSt, lk, Res.s.injEq, Res.r.injEq, reduceCtorEq, Nat.reduceEqDiff, if_true, if_false, lend_mv, lend_n1, Mv.cells, N1, Vl.eta, Mv.eta, buildSliceP, putParts, structPlaces, chunks, List.replicate, List.flatten_nil, lend_n1, dd_set1, Nat.zero_add]; rfl
           · with_reducible exact c_spec_l11Read _ _ _ (by first | assumption | omega)
           · first | rfl | exact nb_rows (fun _ => rfl) _ _
           simp only [V.namesOf, V.namesOfL, List.foldl_cons, List.foldl_nil, List.nil_append, List.append_nil, List.cons_append])
        | (with_reducible refine call_data (c_spec_l16Once _ (by first | assumption | omega)) rfl ?_)
        | ((with_reducible apply call_auto (f := 54))
           · simp only [lendAL, lendA, Option.bind_some, Option.map_some, undd_dd, dd_length, dd_take, dd_drop, List.length_map, List.length_range, Nat.zero_add, Nat.add_zero, Nat.le_refl, true_and, and_true, and_self, take_len_map, take_marks, List.drop_zero, C.o.injEq, V.d.injEq, putSt, lk, Res.s.injEq, Res.r.injEq, reduceCtorEq, Nat.reduceEqDiff, if_true, if_false, lend_mv, lend_n1, Mv.cells, N1, Vl.eta, Mv.eta, buildSliceP, putParts, structPlaces, chunks, List.replicate, List.flatten_nil, lend_n1, dd_set1, Nat.zero_add]; rfl
           · with_reducible exact c_spec_l16Once _ (by first | assumption | omega)
           · first | rfl | exact nb_rows (fun _ => rfl) _ _
           simp only [V.namesOf, V.namesOfL, List.foldl_cons, List.foldl_nil, List.nil_append, List.append_nil, List.cons_append])
        | (with_reducible apply regD_op
           · simp only [dstOk, Nat.reduceLT]
           · simp only [Nat.reduceAdd]; rfl
           intro k hk
           simp only [stepP])
        | (with_reducible apply regW_op
           · simp only [dstOk, Nat.reduceLT]
           · simp only [Nat.reduceAdd]; rfl
           intro k hk)
       try simp only [opC, opP, fetchN, fetchP, fetchAll, fetchO, Prog.bind, Prog.wp, Prog.wp_bind, lk, nameP, nameAll, Value.oneCell', putSt, stepP, putP, Res.s.injEq, Res.r.injEq, reduceCtorEq, V.lin, V.linL, D.lin, isNil, binP, unP, intBin, BinOp.isShift, Prog.ofO, true_and, and_true, Nat.reduceAdd, Nat.reduceMul, Nat.reduceSub, Nat.reduceLT, Nat.reduceLeDiff, Nat.reduceEqDiff, Nat.add_zero, Nat.zero_add, Nat.le_refl, if_true, if_false, ite_true, ite_false, Bool.false_eq_true, List.length_nil, List.length_cons, Bool.not_true, Bool.not_false, Bool.or_false, Bool.or_true, fieldAddrP, fieldP, indexAddrP, loadP, storeP, boxP, allocP, cellsP, asVal, setSeg, outP, TyK.field, TyK.agg, zeroRow, List.getElem?_cons_zero, List.getElem?_cons_succ, List.take_succ_cons, List.take_zero, List.drop_succ_cons, List.drop_zero, List.set_cons_zero, List.set_cons_succ, List.nil_append, List.cons_append, List.append_nil, List.map_cons, List.map_nil, V.ren, V.renL, List.forall_mem_cons, List.not_mem_nil, List.mem_cons, forall_eq_or_imp, implies_true, false_implies, forall_const, and_self, true_or, minmaxP, lenP, lenOf, lenStr, V.asInt, Int.toNat_natCast, List.length_map, List.getElem?_map, Option.map_some, Int.ofNat_lt, Int.natCast_nonneg, decide_true, decide_false, Int.cast_ofNat_Int, nat_lt_zero, nat_one, nat_zero, dd_length, dd_get, dd_take, dd_drop, resGo_dd, undd_dd, take_len_map, take_marks, List.length_replicate, sliceP, boundP, makeSliceP, convertP, appendP, rowsOfP, ontoP, sizeFits, V.rowSize, TyK.src, resV, resV.go, resV.gol, retP, retOne, retAll, resTo, objsAre, ty2, ty3, ty4, ty37, ty41, ty57, ty59, Mv.cells, N1, Vl.eta, Mv.eta, buildSliceP, putParts, structPlaces, chunks, List.replicate, List.flatten_nil, lend_n1, dd_set1, Nat.zero_add, h_m, hw_m, hlt_m, hto0, hto1, hold]
       try (refine hk _ _ _ _ ?_; clear hk k))
    | (with_reducible apply regW_skip
       · simp only [dstOk, Nat.reduceLT]
       · rfl
       · simp only [putSt, lk, Res.s.injEq, Res.r.injEq, reduceCtorEq, Nat.reduceEqDiff, if_true, if_false]; done)
    | (with_reducible apply regW_yesN
       · simp only [dstOk, Nat.reduceLT]
       · rfl
       · simp only [putSt, lk, Res.s.injEq, Res.r.injEq, reduceCtorEq, Nat.reduceEqDiff, if_true, if_false]; done)
    | (with_reducible apply regW_no
       · simp only [dstOk, Nat.reduceLT]
       · rfl
       · simp only [putSt, lk, Res.s.injEq, Res.r.injEq, reduceCtorEq, Nat.reduceEqDiff, if_true, if_false, Bool.not_true, Bool.not_false]; done)
    | (with_reducible apply regW_guardN
       · simp only [dstOk, Nat.reduceLT]
       · rfl
       · simp only [putSt, lk, Res.s.injEq, Res.r.injEq, reduceCtorEq, Nat.reduceEqDiff, if_true, if_false]; rfl
       intro hb
       rotate_left
       intro hb)
    | (with_reducible apply aw_cond
       · simp only [putSt, lk, Res.s.injEq, Res.r.injEq, reduceCtorEq, Nat.reduceEqDiff, if_true, if_false]; rfl
       all_goals (intro hc; try (cases hc; done))))

  all_goals (try (first | (simp_all [mao, runA]; done) | (refine mao_goal ?_; intro hh; simp [hh.1] at hb; done) | (refine mao_goal ?_; intro hh; simp [rightB] at hh hb hc; omega) | (refine mao_goal ?_; intro hh; simp_all [rightB]; omega) | (refine mao_goal ?_; intro hh; simp_all [rightB]; done)))
  all_goals (try rfl)
  all_goals (try (rw [Bool.eq_iff_iff]; simp; done))
  all_goals (try (rw [Bool.eq_iff_iff]; simp; omega))
  all_goals (try (intros; omega))
  all_goals (try grind)

theorem c_impl_MovesAtOnce (l : List Mv) (locs : List Int) (h : l.length ≤ 1048576) (h2 : locs.length ≤ 1048576) : Con Try.prog 31 [bRows 3 Mv.cells l, bRows 1 N1 locs] [] (oRows 1 N1 (mao l locs)) [] := by
  have h_m : DUM = 0 := rfl
  have hw_m : DUM = 0 := rfl
  have hlt_m : DUM = 0 := rfl
  have hto0 : DUM = 0 := rfl
  have hto1 : DUM = 0 := rfl
  have hold : DUM = 0 := rfl

  refine con_of_aw Try.func31 rfl Try.call31 (by simp [Try.ntmps31]) (by simp [V.inNs, V.inN]) (by simp [C.inN, V.inNss, V.inNs, V.inN, inNss_dd]) (by simp [V.inNs, V.inN]) (by simp [C.inN, V.inNss, V.inNs, V.inN, inNss_dd]) rfl ?_
  rw [Try.ntmps31, Try.results31]
  simp only [entryS, entryO, Nat.reduceAdd, List.length_nil, List.length_cons]
  repeat' (first
    | with_reducible refine aw_seq ?_
    | with_reducible refine aw_reg ?_
    | with_reducible refine aw_ret ?_
    | with_reducible refine aw_skip ?_
    | with_reducible refine aw_block ?_
    | with_reducible refine aw_exit ?_
    | with_reducible refine seqQ_normal ?_
    | with_reducible refine seqQ_ret ?_
    | with_reducible refine seqQ_exit ?_
    | with_reducible refine blockQ_normal ?_
    | with_reducible refine blockQ_ret ?_
    | with_reducible refine blockQ_this ?_
    | with_reducible refine blockQ_other (by decide) ?_
    | with_reducible refine regW_nil ?_
    | with_reducible refine aw_draw mixed ?_
    | (with_reducible refine regD_nil ?_
       refine ⟨by kernel_rfl, ?_⟩)
    | with_reducible refine retQ_ret ?_
    | with_reducible refine retQ_normal ?_
    | ((with_reducible refine gh_nilRow 4 .own 1 ?_ ?_)
       · simp only [putSt, lk, Res.s.injEq, Res.r.injEq, reduceCtorEq, Nat.reduceEqDiff, if_true, if_false]; done
       skip)
    | ((with_reducible refine aw_loopA _ (Nat.le_refl _) (fun x : Nat × List Int => [(.s 20, some (.v (V.int (x.1 : Nat)))), (.s 0, some (.v (bRows 3 Mv.cells l))), (.s 18, some (.v (bRows 3 Mv.cells l))), (.s 19, some (.v (V.int l.length))), (.s 1, some (.v (bRows 1 N1 locs))), (.s 5, some (.v (.sl 640 1 0 x.2.length))), (.r 640, some (.o 1 (dd (x.2.map N1))))]) (fun x => (l.length) - x.1) (fun x => x.1 ≤ l.length ∧ l.all movOk = true ∧ x.2.length = 22 ∧ l.length ≤ 40 ∧ locs.length = 22 ∧ onceB l = true ∧ runA locs l locs = runA locs (l.drop x.1) x.2) ((0, locs)) (by simp [slNL, C.inN, V.inN, V.inNs, V.inNss, inNss_dd, inNs_map_d]) (gh_to ?_) ?_ ?_)
       · simp only [SubL, putSt, lk, Res.s.injEq, Res.r.injEq, reduceCtorEq, Nat.reduceEqDiff, if_true, if_false, dd_set1, List.length_set]; repeat' (first | apply And.intro | rfl | trivial)
       · simp_all [rightB]; try omega
       intro x hJ
       have hb_m : x.1 < 4611686018427387904 := by omega
       have hw_m := wrapS hb_m
       rcases Nat.lt_or_ge x.1 (l.length) with hlt_m | hge_m
       obtain ⟨m, h_m⟩ := list_get hlt_m
       have hd_m := drop_cons h_m
       rotate_left
       have hd_m := drop_nil hge_m
       have hlt_m := Nat.not_lt.2 hge_m
       rotate_left
       have hmm : m ∈ l := List.mem_of_getElem? h_m
       have hok := List.all_eq_true.1 hJ.2.1 m hmm
       obtain ⟨hto0, hto1', hrd'⟩ := movOk_facts hok
       have hto1 : m.to < x.2.length := by rw [hJ.2.2.1]; exact hto1'
       have hrd : m.src.kind = 1 → 0 ≤ m.src.n ∧ m.src.n < locs.length := by rw [hJ.2.2.2.2.1]; exact hrd'
       have htn : m.to.toNat < x.2.length := by rw [hJ.2.2.1]; omega
       obtain ⟨old, hold⟩ := list_get htn
       have hlen := hJ.2.2.1
       rotate_left
       rotate_left
)
    | ((with_reducible refine next_to ((x.1 + 1, x.2.set m.to.toNat (rd m.src locs))) (Nat.le_refl _) (by simp [slNL, C.inN, V.inN, V.inNs, V.inNss, inNss_dd, inNs_map_d]) ?_ ?_ ?_)
       · simp only [SubL, putSt, lk, Res.s.injEq, Res.r.injEq, reduceCtorEq, Nat.reduceEqDiff, if_true, if_false, dd_set1, List.length_set]; repeat' (first | apply And.intro | rfl | trivial)
       · simp_all [runA]; try omega
       · simp_all [runA]; try omega)
    | (first
        | ((with_reducible refine gh_ret ?_); simp only [RetW])
        | (with_reducible refine call_data (c_slices_Clone_int64_int64 locs h2 (ne_of22 hc)) rfl ?_)
        | (with_reducible refine call_data (c_slices_Clone_int64_int64 _ (by first | assumption | omega) (by first | assumption | omega)) rfl ?_)
        | ((with_reducible apply call_auto (f := 52))
           · simp only [lendAL, lendA, Option.bind_some, Option.map_some, undd_dd, dd_length, dd_take, dd_drop, List.length_map, List.length_range, Nat.zero_add, Nat.add_zero, Nat.le_refl, true_and, and_true, and_self, take_len_map, take_marks, List.drop_zero, C.o.injEq, V.d.injEq, putSt, lk, Res.s.injEq, Res.r.injEq, reduceCtorEq, Nat.reduceEqDiff, if_true, if_false, lend_mv, lend_n1, Mv.cells, N1, Vl.eta, Mv.eta, buildSliceP, putParts, structPlaces, chunks, List.replicate, List.flatten_nil, lend_n1, dd_set1, Nat.zero_add]; rfl
           · with_reducible exact c_slices_Clone_int64_int64 _ (by first | assumption | omega) (by first | assumption | omega)
           · first | rfl | exact nb_rows (fun _ => rfl) _ _
           simp only [V.namesOf, V.namesOfL, List.foldl_cons, List.foldl_nil, List.nil_append, List.append_nil, List.cons_append])
        | (with_reducible refine call_data (c_impl_Val_of _ _ _ (by first | assumption | omega)) rfl ?_)
        | ((with_reducible apply call_auto (f := 53))
           · simp only [lendAL, lendA, Option.bind_some, Option.map_some, undd_dd, dd_length, dd_take, dd_drop, List.length_map, List.length_range, Nat.zero_add, Nat.add_zero, Nat.le_refl, true_and, and_true, and_self, take_len_map, take_marks, List.drop_zero, C.o.injEq, V.d.injEq, putSt, lk, Res.s.injEq, Res.r.injEq, reduceCtorEq, Nat.reduceEqDiff, if_true, if_false, lend_mv, lend_n1, Mv.cells, N1, Vl.eta, Mv.eta, buildSliceP, putParts, structPlaces, chunks, List.replicate, List.flatten_nil, lend_n1, dd_set1, Nat.zero_add]; rfl
           · with_reducible exact c_impl_Val_of _ _ _ (by first | assumption | omega)
           · first | rfl | exact nb_rows (fun _ => rfl) _ _
           simp only [V.namesOf, V.namesOfL, List.foldl_cons, List.foldl_nil, List.nil_append, List.append_nil, List.cons_append])
        | (with_reducible refine call_data (c_impl_atOnce _ (by first | assumption | omega)) rfl ?_)
        | ((with_reducible apply call_auto (f := 55))
           · simp only [lendAL, lendA, Option.bind_some, Option.map_some, undd_dd, dd_length, dd_take, dd_drop, List.length_map, List.length_range, Nat.zero_add, Nat.add_zero, Nat.le_refl, true_and, and_true, and_self, take_len_map, take_marks, List.drop_zero, C.o.injEq, V.d.injEq, putSt, lk, Res.s.injEq, Res.r.injEq, reduceCtorEq, Nat.reduceEqDiff, if_true, if_false, lend_mv, lend_n1, Mv.cells, N1, Vl.eta, Mv.eta, buildSliceP, putParts, structPlaces, chunks, List.replicate, List.flatten_nil, lend_n1, dd_set1, Nat.zero_add]; rfl
           · with_reducible exact c_impl_atOnce _ (by first | assumption | omega)
           · first | rfl | exact nb_rows (fun _ => rfl) _ _
           simp only [V.namesOf, V.namesOfL, List.foldl_cons, List.foldl_nil, List.nil_append, List.append_nil, List.cons_append])
        | (with_reducible apply regD_op
           · simp only [dstOk, Nat.reduceLT]
           · simp only [Nat.reduceAdd]; rfl
           intro k hk
           simp only [stepP])
        | (with_reducible apply regW_op
           · simp only [dstOk, Nat.reduceLT]
           · simp only [Nat.reduceAdd]; rfl
           intro k hk)
       try simp only [opC, opP, fetchN, fetchP, fetchAll, fetchO, Prog.bind, Prog.wp, Prog.wp_bind, lk, nameP, nameAll, Value.oneCell', putSt, stepP, putP, Res.s.injEq, Res.r.injEq, reduceCtorEq, V.lin, V.linL, D.lin, isNil, binP, unP, intBin, BinOp.isShift, Prog.ofO, true_and, and_true, Nat.reduceAdd, Nat.reduceMul, Nat.reduceSub, Nat.reduceLT, Nat.reduceLeDiff, Nat.reduceEqDiff, Nat.add_zero, Nat.zero_add, Nat.le_refl, if_true, if_false, ite_true, ite_false, Bool.false_eq_true, List.length_nil, List.length_cons, Bool.not_true, Bool.not_false, Bool.or_false, Bool.or_true, fieldAddrP, fieldP, indexAddrP, loadP, storeP, boxP, allocP, cellsP, asVal, setSeg, outP, TyK.field, TyK.agg, zeroRow, List.getElem?_cons_zero, List.getElem?_cons_succ, List.take_succ_cons, List.take_zero, List.drop_succ_cons, List.drop_zero, List.set_cons_zero, List.set_cons_succ, List.nil_append, List.cons_append, List.append_nil, List.map_cons, List.map_nil, V.ren, V.renL, List.forall_mem_cons, List.not_mem_nil, List.mem_cons, forall_eq_or_imp, implies_true, false_implies, forall_const, and_self, true_or, minmaxP, lenP, lenOf, lenStr, V.asInt, Int.toNat_natCast, List.length_map, List.getElem?_map, Option.map_some, Int.ofNat_lt, Int.natCast_nonneg, decide_true, decide_false, Int.cast_ofNat_Int, nat_lt_zero, nat_one, nat_zero, dd_length, dd_get, dd_take, dd_drop, resGo_dd, undd_dd, take_len_map, take_marks, List.length_replicate, sliceP, boundP, makeSliceP, convertP, appendP, rowsOfP, ontoP, sizeFits, V.rowSize, TyK.src, resV, resV.go, resV.gol, retP, retOne, retAll, resTo, objsAre, ty2, ty3, ty4, ty37, ty41, ty57, ty59, Mv.cells, N1, Vl.eta, Mv.eta, buildSliceP, putParts, structPlaces, chunks, List.replicate, List.flatten_nil, lend_n1, dd_set1, Nat.zero_add, h_m, hw_m, hlt_m, hto0, hto1, hold]
       try (refine hk _ _ _ _ ?_; clear hk k))
    | (with_reducible apply regW_skip
       · simp only [dstOk, Nat.reduceLT]
       · rfl
       · simp only [putSt, lk, Res.s.injEq, Res.r.injEq, reduceCtorEq, Nat.reduceEqDiff, if_true, if_false]; done)
    | (with_reducible apply regW_yesN
       · simp only [dstOk, Nat.reduceLT]
       · rfl
       · simp only [putSt, lk, Res.s.injEq, Res.r.injEq, reduceCtorEq, Nat.reduceEqDiff, if_true, if_false]; done)
    | (with_reducible apply regW_no
       · simp only [dstOk, Nat.reduceLT]
       · rfl
       · simp only [putSt, lk, Res.s.injEq, Res.r.injEq, reduceCtorEq, Nat.reduceEqDiff, if_true, if_false, Bool.not_true, Bool.not_false]; done)
    | (with_reducible apply regW_guardN
       · simp only [dstOk, Nat.reduceLT]
       · rfl
       · simp only [putSt, lk, Res.s.injEq, Res.r.injEq, reduceCtorEq, Nat.reduceEqDiff, if_true, if_false]; rfl
       intro hb
       rotate_left
       intro hb)
    | (with_reducible apply aw_cond
       · simp only [putSt, lk, Res.s.injEq, Res.r.injEq, reduceCtorEq, Nat.reduceEqDiff, if_true, if_false]; rfl
       all_goals (intro hc; try (cases hc; done))))

  all_goals (try (first | (simp_all [mao, runA]; done) | (refine mao_goal ?_; intro hh; simp [hh.1] at hb; done) | (refine mao_goal ?_; intro hh; simp [rightB] at hh hb hc; omega) | (refine mao_goal ?_; intro hh; simp_all [rightB]; omega) | (refine mao_goal ?_; intro hh; simp_all [rightB]; done)))
  all_goals (try rfl)
  all_goals (try (rw [Bool.eq_iff_iff]; simp; done))
  all_goals (try (rw [Bool.eq_iff_iff]; simp; omega))
  all_goals (try (intros; omega))
  all_goals (try grind)

end Go.Proofs.Ytdoboiiilcgbnaa
