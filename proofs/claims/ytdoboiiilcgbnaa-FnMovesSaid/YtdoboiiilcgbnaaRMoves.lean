/- WHAT IS PROVED: contracts of functions of the program, each by a walk of its code. Conditions: none. -/
import Derived.Test.YtdoboiiilcgbnaaD7
import Derived.Test.YtdoboiiilcgbnaaL41
namespace Go.Proofs.Ytdoboiiilcgbnaa
open Go.Proofs Go.Proofs.Ytdoboiiilcgbnaa.L
set_option maxHeartbeats 1000000
set_option linter.unusedSimpArgs false
set_option linter.unusedVariables false

open Go.ChangeShapes Go.WideShapes Go.RowKit
set_option maxRecDepth 100000

theorem plain {l : List Mv} {sp : Int} {locs : List Int} (h1 : (seqAns l sp).length ≠ 0) (h2 : (mao l locs).length ≠ 0) :
    locs.length = 22 ∧ (mao l locs).length = 22 ∧ (mdone (seqAns l sp) locs).length = 22 ∧ (∀ i : Nat, i < 22 → (i : Int) ≠ sp → (mdone (seqAns l sp) locs).getD i 0 = (mao l locs).getD i 0) ∧
      (decide ((seqAns l sp).length ≤ 40) && (seqAns l sp).all movOk) = true ∧ ((seqAns l sp).length : Int) = ((flt l).length : Int) + cycOf l := by
  have hh : (onceB l && rightB l) = true ∧ locOk sp = true ∧ l.all (untouched sp) = true := by
    by_cases h : (onceB l && rightB l) = true ∧ locOk sp = true ∧ l.all (untouched sp) = true
    · exact h
    · rw [seqAns, if_neg h] at h1; simp at h1
  have hk : (onceB l && rightB l) = true ∧ locs.length = 22 := by
    by_cases h : (onceB l && rightB l) = true ∧ locs.length = 22
    · exact h
    · rw [mao, if_neg h] at h2; simp at h2
  obtain ⟨hok, hsp, hun⟩ := hh
  have hlen := hk.2
  have hx : seqAns l sp = (seqOf sp l).1 := by rw [seqAns, if_pos ⟨hok, hsp, hun⟩]
  have hz : mao l locs = runA locs l locs := by rw [mao, if_pos hk]
  have hr := seq_right hok hsp hun
  have hy : mdone (seqAns l sp) locs = runM (seqOf sp l).1 locs := by rw [hx, mdone, if_pos ⟨hr, hlen⟩]
  have hs := seq_sem hok hsp hun hlen
  refine ⟨hlen, by rw [hz, runA_size, hlen], by rw [hy, runM_size, hlen], ?_, by rw [hx]; exact hr, ?_⟩
  · intro i hi hne
    rw [hy, hz]
    exact hs.fin i hi hne (by simp)
  · have := hs.cnt
    rw [hx, cycOf, if_pos hok, ← cyc_same hok hun]
    simpa using this
theorem flt_step {l : List Mv} {x : Nat} {m : Mv} (h : l[x]? = some m) : (flt (l.drop x)).length = (if m.src = ⟨1, m.to⟩ then 0 else 1) + (flt (l.drop (x + 1))).length := by
  rw [drop_cons h, flt, List.filter_cons]
  split <;> split <;> simp_all [flt]
  omega
theorem seqRun_len : ∀ (f : Nat) (sp : Int) (left out : List Mv) (cyc : Int), (seqRun f sp left out cyc).1.length ≤ out.length + f
  | 0, sp, left, out, cyc => by simp [seqRun]
  | f + 1, sp, [], out, cyc => by simp [seqRun]
  | f + 1, sp, m :: l, out, cyc => by
    rw [seqRun]
    split
    · have := seqRun_len f sp (cut (m :: l) (freeIdx (m :: l))) (out ++ [((m :: l)[freeIdx (m :: l)]?).getD m]) cyc
      simp only [List.length_append, List.length_cons, List.length_nil] at this ⊢
      omega
    · have := seqRun_len f sp ((m :: l).map (fixS sp m.to)) (out ++ [⟨sp, ⟨1, m.to⟩⟩]) (cyc + 1)
      simp only [List.length_append, List.length_cons, List.length_nil] at this ⊢
      omega
theorem seqAns_len (l : List Mv) (sp : Int) : (seqAns l sp).length ≤ 1048576 := by
  unfold seqAns
  split
  · rename_i h
    have h1 := ok_len h.1
    have h2 := seqRun_len (2 * l.length + 1) sp (flt l) [] 0
    unfold seqOf
    simp only [List.length_nil] at h2
    omega
  · simp
theorem len_ne0 {α : Type} {x : List α} (h : x ≠ []) : ((x.length : Int) == 0) = false := by
  have := List.length_pos_iff.2 h
  rw [beq_eq_false_iff_ne]
  omega
theorem drawLocs_len (b : List Int) : (drawLocs b).length ≤ 22 := by
  unfold drawLocs locsN
  split
  · simp [locsGen_len]
  · simp [locsGen_len]

theorem k_dseq {a : List Int} {l : List Mv} {sp : Int} (h : a.length ≤ 1048576) (hv : ∀ z ∈ a, 0 ≤ z ∧ z < 256) (e1 : (drawSeq a).1 = l) (e2 : (drawSeq a).2 = sp) : Con Try.prog 37 [bRows 1 B1 a] [] (.tup [oRows 3 Mv.cells l, V.int sp]) [] := by
  subst_vars
  exact c_spec_DrawSequence a h hv
theorem k_dlocs {b : List Int} {q : List Mv} {locs : List Int} (h : b.length ≤ 1048576) (hv : ∀ z ∈ b, 0 ≤ z ∧ z < 256) (e0 : (movesOf (srcOf b)).2 = q) (e1 : drawLocs b = locs) : Con Try.prog 38 [bRows 1 B1 b] [] (.tup [oRows 3 Mv.cells q, oRows 1 N1 locs]) [] := by
  subst_vars
  exact c_spec_DrawMovesDone b h hv
theorem k_specSeq {l : List Mv} {sp : Int} {x : List Mv} (h : l.length ≤ 1048576) (e : seqAns l sp = x) : Con Try.prog 34 [bRows 3 Mv.cells l, V.int sp] [] (oRows 3 Mv.cells x) [] := by
  subst_vars
  exact c_spec_Sequence l sp h
theorem k_specMao {l : List Mv} {locs z : List Int} (h : l.length ≤ 1048576) (h2 : locs.length ≤ 1048576) (e : mao l locs = z) : Con Try.prog 30 [bRows 3 Mv.cells l, bRows 1 N1 locs] [] (oRows 1 N1 z) [] := by
  subst_vars
  exact c_spec_MovesAtOnce l locs h h2
theorem k_implSeq {l : List Mv} {sp : Int} {x : List Mv} (h : l.length ≤ 1048576) (e : seqAns l sp = x) : Con Try.prog 35 [oRows 3 Mv.cells l, V.int sp] [] (oRows 3 Mv.cells x) [] := by
  subst_vars
  exact (con_own (x := .row .own 3 (l.map Mv.cells)) (by simp only [D.lend, Md.lend, lend_mv]; exact c_impl_Sequence l sp h))
theorem k_implMao {l : List Mv} {locs z : List Int} (h : l.length ≤ 1048576) (h2 : locs.length ≤ 1048576) (e : mao l locs = z) : Con Try.prog 31 [bRows 3 Mv.cells l, bRows 1 N1 locs] [] (oRows 1 N1 z) [] := by
  subst_vars
  exact c_impl_MovesAtOnce l locs h h2
theorem k_done {l : List Mv} {locs y : List Int} (h : l.length ≤ 1048576) (h2 : locs.length ≤ 1048576) (e : mdone l locs = y) : Con Try.prog 25 [bRows 3 Mv.cells l, bRows 1 N1 locs] [] (oRows 1 N1 y) [] := by
  subst_vars
  exact c_impl_MovesDone l locs h h2
theorem k_right {l : List Mv} {r : Bool} (h : l.length ≤ 1048576) (e : (decide (l.length ≤ 40) && l.all movOk) = r) : Con Try.prog 21 [bRows 3 Mv.cells l] [] (V.bool r) [] := by
  subst_vars
  exact c_impl_MovesRight l h
theorem k_cyc {l : List Mv} {c : Int} (h : l.length ≤ 1048576) (e : cycOf l = c) : Con Try.prog 33 [bRows 3 Mv.cells l] [] (V.int c) [] := by
  subst_vars
  exact c_impl_Cycles l h

theorem law_bigA (a b : List Int) (ha : a.length ≤ 9223372036854775807) (hb : b.length ≤ 9223372036854775807) (hc : 1048576 < a.length) : Con Try.prog 10 [bRows 1 B1 a, bRows 1 B1 b] [] (V.bool true) [] := by
  have h1 : DUM = 0 := rfl
  have h2 : DUM = 0 := rfl
  have hq1 : DUM = 0 := rfl
  have hq2 : DUM = 0 := rfl
  have h1 : (1048576 : Int) < a.length := by omega

  refine con_of_aw Try.func10 rfl Try.call10 (by simp [Try.ntmps10]) (by simp [V.inNs, V.inN]) (by simp [C.inN, V.inNss, V.inNs, V.inN, inNss_dd]) (by simp [V.inNs, V.inN]) (by simp [C.inN, V.inNss, V.inNs, V.inN, inNss_dd]) rfl ?_
  rw [Try.ntmps10, Try.results10]
  simp only [entryS, entryO, Nat.reduceAdd, List.length_nil, List.length_cons]
  repeat' (first
    | with_reducible refine aw_seq ?_
    | with_reducible refine aw_reg ?_
    | with_reducible refine aw_ret ?_
    | with_reducible refine aw_skip ?_
    | with_reducible refine aw_block ?_
    | with_reducible refine aw_exit ?_
    | with_reducible refine seqQ_normal ?_
    | with_reducible refine seqQ_ret ?_
    | with_reducible refine seqQ_exit ?_
    | with_reducible refine blockQ_normal ?_
    | with_reducible refine blockQ_ret ?_
    | with_reducible refine blockQ_this ?_
    | with_reducible refine blockQ_other (by decide) ?_
    | with_reducible refine regW_nil ?_
    | with_reducible refine aw_draw mixed ?_
    | (with_reducible refine regD_nil ?_
       refine ⟨by kernel_rfl, ?_⟩)
    | with_reducible refine retQ_ret ?_
    | with_reducible refine retQ_normal ?_
    | (first
        | ((with_reducible refine gh_ret ?_); simp only [RetW])
        | (with_reducible refine call_data (c_impl_MovesRight _ (by first | assumption | omega)) rfl ?_)
        | ((with_reducible apply call_auto (f := 21))
           · simp only [lendAL, lendA, Option.bind_some, Option.map_some, undd_dd, dd_length, dd_take, dd_drop, List.length_map, List.length_range, Nat.zero_add, Nat.add_zero, Nat.le_refl, true_and, and_true, and_self, take_len_map, take_marks, List.drop_zero, C.o.injEq, V.d.injEq, putSt, lk, Res.s.injEq, Res.r.injEq, reduceCtorEq, Nat.reduceEqDiff, if_true, if_false, lend_mv, lend_n1, lend_b1, take_len_map, take_marks, lend_mv, lend_n1, beq_self_eq_true, bne_self_eq_false, decide_true, Int.reduceNeg, Int.reduceLT, C.ren, V.ren, renLL_dd, objsP, List.length_map, List.length_range, List.getD_cons_zero, gt_iff_lt, h1, h2, hq1, hq2, Mv.cells, N1, src_eq2, chunks, List.replicate, List.flatten_nil, List.flatten_cons, buildSliceP, plain_mv, List.map_nil, List.nil_append, List.length_nil, buildP, putParts, structPlaces, setSeg, binP, fk57, cellsEq, cellEq, Option.bind_some, Option.map_some, Option.bind_eq_bind]; rfl
           · with_reducible exact c_impl_MovesRight _ (by first | assumption | omega)
           · first | rfl | exact nb_rows (fun _ => rfl) _ _
           simp only [V.namesOf, V.namesOfL, List.foldl_cons, List.foldl_nil, List.nil_append, List.append_nil, List.cons_append])
        | (with_reducible refine call_data (c_impl_MovesDone _ _ (by first | assumption | omega) (by first | assumption | omega)) rfl ?_)
        | ((with_reducible apply call_auto (f := 25))
           · simp only [lendAL, lendA, Option.bind_some, Option.map_some, undd_dd, dd_length, dd_take, dd_drop, List.length_map, List.length_range, Nat.zero_add, Nat.add_zero, Nat.le_refl, true_and, and_true, and_self, take_len_map, take_marks, List.drop_zero, C.o.injEq, V.d.injEq, putSt, lk, Res.s.injEq, Res.r.injEq, reduceCtorEq, Nat.reduceEqDiff, if_true, if_false, lend_mv, lend_n1, lend_b1, take_len_map, take_marks, lend_mv, lend_n1, beq_self_eq_true, bne_self_eq_false, decide_true, Int.reduceNeg, Int.reduceLT, C.ren, V.ren, renLL_dd, objsP, List.length_map, List.length_range, List.getD_cons_zero, gt_iff_lt, h1, h2, hq1, hq2, Mv.cells, N1, src_eq2, chunks, List.replicate, List.flatten_nil, List.flatten_cons, buildSliceP, plain_mv, List.map_nil, List.nil_append, List.length_nil, buildP, putParts, structPlaces, setSeg, binP, fk57, cellsEq, cellEq, Option.bind_some, Option.map_some, Option.bind_eq_bind]; rfl
           · with_reducible exact c_impl_MovesDone _ _ (by first | assumption | omega) (by first | assumption | omega)
           · first | rfl | exact nb_rows (fun _ => rfl) _ _
           simp only [V.namesOf, V.namesOfL, List.foldl_cons, List.foldl_nil, List.nil_append, List.append_nil, List.cons_append])
        | (with_reducible refine call_data (c_spec_MovesAtOnce _ _ (by first | assumption | omega) (by first | assumption | omega)) rfl ?_)
        | ((with_reducible apply call_auto (f := 30))
           · simp only [lendAL, lendA, Option.bind_some, Option.map_some, undd_dd, dd_length, dd_take, dd_drop, List.length_map, List.length_range, Nat.zero_add, Nat.add_zero, Nat.le_refl, true_and, and_true, and_self, take_len_map, take_marks, List.drop_zero, C.o.injEq, V.d.injEq, putSt, lk, Res.s.injEq, Res.r.injEq, reduceCtorEq, Nat.reduceEqDiff, if_true, if_false, lend_mv, lend_n1, lend_b1, take_len_map, take_marks, lend_mv, lend_n1, beq_self_eq_true, bne_self_eq_false, decide_true, Int.reduceNeg, Int.reduceLT, C.ren, V.ren, renLL_dd, objsP, List.length_map, List.length_range, List.getD_cons_zero, gt_iff_lt, h1, h2, hq1, hq2, Mv.cells, N1, src_eq2, chunks, List.replicate, List.flatten_nil, List.flatten_cons, buildSliceP, plain_mv, List.map_nil, List.nil_append, List.length_nil, buildP, putParts, structPlaces, setSeg, binP, fk57, cellsEq, cellEq, Option.bind_some, Option.map_some, Option.bind_eq_bind]; rfl
           · with_reducible exact c_spec_MovesAtOnce _ _ (by first | assumption | omega) (by first | assumption | omega)
           · first | rfl | exact nb_rows (fun _ => rfl) _ _
           simp only [V.namesOf, V.namesOfL, List.foldl_cons, List.foldl_nil, List.nil_append, List.append_nil, List.cons_append])
        | (with_reducible refine call_data (c_impl_MovesAtOnce _ _ (by first | assumption | omega) (by first | assumption | omega)) rfl ?_)
        | ((with_reducible apply call_auto (f := 31))
           · simp only [lendAL, lendA, Option.bind_some, Option.map_some, undd_dd, dd_length, dd_take, dd_drop, List.length_map, List.length_range, Nat.zero_add, Nat.add_zero, Nat.le_refl, true_and, and_true, and_self, take_len_map, take_marks, List.drop_zero, C.o.injEq, V.d.injEq, putSt, lk, Res.s.injEq, Res.r.injEq, reduceCtorEq, Nat.reduceEqDiff, if_true, if_false, lend_mv, lend_n1, lend_b1, take_len_map, take_marks, lend_mv, lend_n1, beq_self_eq_true, bne_self_eq_false, decide_true, Int.reduceNeg, Int.reduceLT, C.ren, V.ren, renLL_dd, objsP, List.length_map, List.length_range, List.getD_cons_zero, gt_iff_lt, h1, h2, hq1, hq2, Mv.cells, N1, src_eq2, chunks, List.replicate, List.flatten_nil, List.flatten_cons, buildSliceP, plain_mv, List.map_nil, List.nil_append, List.length_nil, buildP, putParts, structPlaces, setSeg, binP, fk57, cellsEq, cellEq, Option.bind_some, Option.map_some, Option.bind_eq_bind]; rfl
           · with_reducible exact c_impl_MovesAtOnce _ _ (by first | assumption | omega) (by first | assumption | omega)
           · first | rfl | exact nb_rows (fun _ => rfl) _ _
           simp only [V.namesOf, V.namesOfL, List.foldl_cons, List.foldl_nil, List.nil_append, List.append_nil, List.cons_append])
        | (with_reducible refine call_data (c_impl_Cycles _ (by first | assumption | omega)) rfl ?_)
        | ((with_reducible apply call_auto (f := 33))
           · simp only [lendAL, lendA, Option.bind_some, Option.map_some, undd_dd, dd_length, dd_take, dd_drop, List.length_map, List.length_range, Nat.zero_add, Nat.add_zero, Nat.le_refl, true_and, and_true, and_self, take_len_map, take_marks, List.drop_zero, C.o.injEq, V.d.injEq, putSt, lk, Res.s.injEq, Res.r.injEq, reduceCtorEq, Nat.reduceEqDiff, if_true, if_false, lend_mv, lend_n1, lend_b1, take_len_map, take_marks, lend_mv, lend_n1, beq_self_eq_true, bne_self_eq_false, decide_true, Int.reduceNeg, Int.reduceLT, C.ren, V.ren, renLL_dd, objsP, List.length_map, List.length_range, List.getD_cons_zero, gt_iff_lt, h1, h2, hq1, hq2, Mv.cells, N1, src_eq2, chunks, List.replicate, List.flatten_nil, List.flatten_cons, buildSliceP, plain_mv, List.map_nil, List.nil_append, List.length_nil, buildP, putParts, structPlaces, setSeg, binP, fk57, cellsEq, cellEq, Option.bind_some, Option.map_some, Option.bind_eq_bind]; rfl
           · with_reducible exact c_impl_Cycles _ (by first | assumption | omega)
           · first | rfl | exact nb_rows (fun _ => rfl) _ _
           simp only [V.namesOf, V.namesOfL, List.foldl_cons, List.foldl_nil, List.nil_append, List.append_nil, List.cons_append])
        | (with_reducible refine call_data (c_spec_Sequence _ _ (by first | assumption | omega)) rfl ?_)
        | ((with_reducible apply call_auto (f := 34))
           · simp only [lendAL, lendA, Option.bind_some, Option.map_some, undd_dd, dd_length, dd_take, dd_drop, List.length_map, List.length_range, Nat.zero_add, Nat.add_zero, Nat.le_refl, true_and, and_true, and_self, take_len_map, take_marks, List.drop_zero, C.o.injEq, V.d.injEq, putSt, lk, Res.s.injEq, Res.r.injEq, reduceCtorEq, Nat.reduceEqDiff, if_true, if_false, lend_mv, lend_n1, lend_b1, take_len_map, take_marks, lend_mv, lend_n1, beq_self_eq_true, bne_self_eq_false, decide_true, Int.reduceNeg, Int.reduceLT, C.ren, V.ren, renLL_dd, objsP, List.length_map, List.length_range, List.getD_cons_zero, gt_iff_lt, h1, h2, hq1, hq2, Mv.cells, N1, src_eq2, chunks, List.replicate, List.flatten_nil, List.flatten_cons, buildSliceP, plain_mv, List.map_nil, List.nil_append, List.length_nil, buildP, putParts, structPlaces, setSeg, binP, fk57, cellsEq, cellEq, Option.bind_some, Option.map_some, Option.bind_eq_bind]; rfl
           · with_reducible exact c_spec_Sequence _ _ (by first | assumption | omega)
           · first | rfl | exact nb_rows (fun _ => rfl) _ _
           simp only [V.namesOf, V.namesOfL, List.foldl_cons, List.foldl_nil, List.nil_append, List.append_nil, List.cons_append])
        | (with_reducible refine call_data (c_impl_Sequence _ _ (by first | assumption | omega)) rfl ?_)
        | ((with_reducible apply call_auto (f := 35))
           · simp only [lendAL, lendA, Option.bind_some, Option.map_some, undd_dd, dd_length, dd_take, dd_drop, List.length_map, List.length_range, Nat.zero_add, Nat.add_zero, Nat.le_refl, true_and, and_true, and_self, take_len_map, take_marks, List.drop_zero, C.o.injEq, V.d.injEq, putSt, lk, Res.s.injEq, Res.r.injEq, reduceCtorEq, Nat.reduceEqDiff, if_true, if_false, lend_mv, lend_n1, lend_b1, take_len_map, take_marks, lend_mv, lend_n1, beq_self_eq_true, bne_self_eq_false, decide_true, Int.reduceNeg, Int.reduceLT, C.ren, V.ren, renLL_dd, objsP, List.length_map, List.length_range, List.getD_cons_zero, gt_iff_lt, h1, h2, hq1, hq2, Mv.cells, N1, src_eq2, chunks, List.replicate, List.flatten_nil, List.flatten_cons, buildSliceP, plain_mv, List.map_nil, List.nil_append, List.length_nil, buildP, putParts, structPlaces, setSeg, binP, fk57, cellsEq, cellEq, Option.bind_some, Option.map_some, Option.bind_eq_bind]; rfl
           · with_reducible exact c_impl_Sequence _ _ (by first | assumption | omega)
           · first | rfl | exact nb_rows (fun _ => rfl) _ _
           simp only [V.namesOf, V.namesOfL, List.foldl_cons, List.foldl_nil, List.nil_append, List.append_nil, List.cons_append])
        | (with_reducible refine call_data (c_spec_DrawSequence _ (by first | assumption | omega) (by first | assumption | omega)) rfl ?_)
        | ((with_reducible apply call_auto (f := 37))
           · simp only [lendAL, lendA, Option.bind_some, Option.map_some, undd_dd, dd_length, dd_take, dd_drop, List.length_map, List.length_range, Nat.zero_add, Nat.add_zero, Nat.le_refl, true_and, and_true, and_self, take_len_map, take_marks, List.drop_zero, C.o.injEq, V.d.injEq, putSt, lk, Res.s.injEq, Res.r.injEq, reduceCtorEq, Nat.reduceEqDiff, if_true, if_false, lend_mv, lend_n1, lend_b1, take_len_map, take_marks, lend_mv, lend_n1, beq_self_eq_true, bne_self_eq_false, decide_true, Int.reduceNeg, Int.reduceLT, C.ren, V.ren, renLL_dd, objsP, List.length_map, List.length_range, List.getD_cons_zero, gt_iff_lt, h1, h2, hq1, hq2, Mv.cells, N1, src_eq2, chunks, List.replicate, List.flatten_nil, List.flatten_cons, buildSliceP, plain_mv, List.map_nil, List.nil_append, List.length_nil, buildP, putParts, structPlaces, setSeg, binP, fk57, cellsEq, cellEq, Option.bind_some, Option.map_some, Option.bind_eq_bind]; rfl
           · with_reducible exact c_spec_DrawSequence _ (by first | assumption | omega) (by first | assumption | omega)
           · first | rfl | exact nb_rows (fun _ => rfl) _ _
           simp only [V.namesOf, V.namesOfL, List.foldl_cons, List.foldl_nil, List.nil_append, List.append_nil, List.cons_append])
        | (with_reducible refine call_data (c_spec_DrawMovesDone _ (by first | assumption | omega) (by first | assumption | omega)) rfl ?_)
        | ((with_reducible apply call_auto (f := 38))
           · simp only [lendAL, lendA, Option.bind_some, Option.map_some, undd_dd, dd_length, dd_take, dd_drop, List.length_map, List.length_range, Nat.zero_add, Nat.add_zero, Nat.le_refl, true_and, and_true, and_self, take_len_map, take_marks, List.drop_zero, C.o.injEq, V.d.injEq, putSt, lk, Res.s.injEq, Res.r.injEq, reduceCtorEq, Nat.reduceEqDiff, if_true, if_false, lend_mv, lend_n1, lend_b1, take_len_map, take_marks, lend_mv, lend_n1, beq_self_eq_true, bne_self_eq_false, decide_true, Int.reduceNeg, Int.reduceLT, C.ren, V.ren, renLL_dd, objsP, List.length_map, List.length_range, List.getD_cons_zero, gt_iff_lt, h1, h2, hq1, hq2, Mv.cells, N1, src_eq2, chunks, List.replicate, List.flatten_nil, List.flatten_cons, buildSliceP, plain_mv, List.map_nil, List.nil_append, List.length_nil, buildP, putParts, structPlaces, setSeg, binP, fk57, cellsEq, cellEq, Option.bind_some, Option.map_some, Option.bind_eq_bind]; rfl
           · with_reducible exact c_spec_DrawMovesDone _ (by first | assumption | omega) (by first | assumption | omega)
           · first | rfl | exact nb_rows (fun _ => rfl) _ _
           simp only [V.namesOf, V.namesOfL, List.foldl_cons, List.foldl_nil, List.nil_append, List.append_nil, List.cons_append])
        | (with_reducible apply regD_op
           · simp only [dstOk, Nat.reduceLT]
           · simp only [Nat.reduceAdd]; rfl
           intro k hk
           simp only [stepP])
        | (with_reducible apply regW_op
           · simp only [dstOk, Nat.reduceLT]
           · simp only [Nat.reduceAdd]; rfl
           intro k hk)
       try simp only [opC, opP, fetchN, fetchP, fetchAll, fetchO, Prog.bind, Prog.wp, Prog.wp_bind, lk, nameP, nameAll, Value.oneCell', putSt, stepP, putP, Res.s.injEq, Res.r.injEq, reduceCtorEq, V.lin, V.linL, D.lin, isNil, binP, unP, intBin, BinOp.isShift, Prog.ofO, true_and, and_true, Nat.reduceAdd, Nat.reduceMul, Nat.reduceSub, Nat.reduceLT, Nat.reduceLeDiff, Nat.reduceEqDiff, Nat.add_zero, Nat.zero_add, Nat.le_refl, if_true, if_false, ite_true, ite_false, Bool.false_eq_true, List.length_nil, List.length_cons, Bool.not_true, Bool.not_false, Bool.or_false, Bool.or_true, fieldAddrP, fieldP, indexAddrP, loadP, storeP, boxP, allocP, cellsP, asVal, setSeg, outP, TyK.field, TyK.agg, zeroRow, List.getElem?_cons_zero, List.getElem?_cons_succ, List.take_succ_cons, List.take_zero, List.drop_succ_cons, List.drop_zero, List.set_cons_zero, List.set_cons_succ, List.nil_append, List.cons_append, List.append_nil, List.map_cons, List.map_nil, V.ren, V.renL, List.forall_mem_cons, List.not_mem_nil, List.mem_cons, forall_eq_or_imp, implies_true, false_implies, forall_const, and_self, true_or, minmaxP, lenP, lenOf, lenStr, V.asInt, Int.toNat_natCast, List.length_map, List.getElem?_map, Option.map_some, Int.ofNat_lt, Int.natCast_nonneg, decide_true, decide_false, Int.cast_ofNat_Int, nat_lt_zero, nat_one, nat_zero, dd_length, dd_get, dd_take, dd_drop, resGo_dd, undd_dd, take_len_map, take_marks, List.length_replicate, sliceP, boundP, makeSliceP, convertP, appendP, rowsOfP, ontoP, sizeFits, V.rowSize, TyK.src, resV, resV.go, resV.gol, retP, retOne, retAll, resTo, objsAre, ty2, ty3, ty4, ty5, ty37, ty41, ty51, ty57, ty59, take_len_map, take_marks, lend_mv, lend_n1, beq_self_eq_true, bne_self_eq_false, decide_true, Int.reduceNeg, Int.reduceLT, C.ren, V.ren, renLL_dd, objsP, List.length_map, List.length_range, List.getD_cons_zero, gt_iff_lt, h1, h2, hq1, hq2, Mv.cells, N1, src_eq2, chunks, List.replicate, List.flatten_nil, List.flatten_cons, buildSliceP, plain_mv, List.map_nil, List.nil_append, List.length_nil, buildP, putParts, structPlaces, setSeg, binP, fk57, cellsEq, cellEq, Option.bind_some, Option.map_some, Option.bind_eq_bind]
       try (refine hk _ _ _ _ ?_; clear hk k))
    | (with_reducible apply regW_skip
       · simp only [dstOk, Nat.reduceLT]
       · rfl
       · simp only [putSt, lk, Res.s.injEq, Res.r.injEq, reduceCtorEq, Nat.reduceEqDiff, if_true, if_false]; done)
    | (with_reducible apply regW_yesN
       · simp only [dstOk, Nat.reduceLT]
       · rfl
       · simp only [putSt, lk, Res.s.injEq, Res.r.injEq, reduceCtorEq, Nat.reduceEqDiff, if_true, if_false]; done)
    | (with_reducible apply regW_no
       · simp only [dstOk, Nat.reduceLT]
       · rfl
       · simp only [putSt, lk, Res.s.injEq, Res.r.injEq, reduceCtorEq, Nat.reduceEqDiff, if_true, if_false, Bool.not_true, Bool.not_false]; done)
    | (with_reducible apply regW_guardN
       · simp only [dstOk, Nat.reduceLT]
       · rfl
       · simp only [putSt, lk, Res.s.injEq, Res.r.injEq, reduceCtorEq, Nat.reduceEqDiff, if_true, if_false]; rfl
       intro hb
       rotate_left
       intro hb)
    | (with_reducible apply aw_cond
       · simp only [putSt, lk, Res.s.injEq, Res.r.injEq, reduceCtorEq, Nat.reduceEqDiff, if_true, if_false]; rfl
       all_goals (intro hc; try (cases hc; done))))

  all_goals (try (simp_all))
  all_goals (try rfl)
  all_goals (try (rw [Bool.eq_iff_iff]; simp; done))
  all_goals (try (rw [Bool.eq_iff_iff]; simp; omega))
  all_goals (try (intros; omega))
  all_goals (try grind)

theorem law_bigB (a b : List Int) (ha : a.length ≤ 9223372036854775807) (hb : b.length ≤ 9223372036854775807) (hc : a.length ≤ 1048576) (hd : 1048576 < b.length) : Con Try.prog 10 [bRows 1 B1 a, bRows 1 B1 b] [] (V.bool true) [] := by
  have h1 : DUM = 0 := rfl
  have h2 : DUM = 0 := rfl
  have hq1 : DUM = 0 := rfl
  have hq2 : DUM = 0 := rfl
  have h1 : ¬ (1048576 : Int) < a.length := by omega
  have h2 : (1048576 : Int) < b.length := by omega

  refine con_of_aw Try.func10 rfl Try.call10 (by simp [Try.ntmps10]) (by simp [V.inNs, V.inN]) (by simp [C.inN, V.inNss, V.inNs, V.inN, inNss_dd]) (by simp [V.inNs, V.inN]) (by simp [C.inN, V.inNss, V.inNs, V.inN, inNss_dd]) rfl ?_
  rw [Try.ntmps10, Try.results10]
  simp only [entryS, entryO, Nat.reduceAdd, List.length_nil, List.length_cons]
  repeat' (first
    | with_reducible refine aw_seq ?_
    | with_reducible refine aw_reg ?_
    | with_reducible refine aw_ret ?_
    | with_reducible refine aw_skip ?_
    | with_reducible refine aw_block ?_
    | with_reducible refine aw_exit ?_
    | with_reducible refine seqQ_normal ?_
    | with_reducible refine seqQ_ret ?_
    | with_reducible refine seqQ_exit ?_
    | with_reducible refine blockQ_normal ?_
    | with_reducible refine blockQ_ret ?_
    | with_reducible refine blockQ_this ?_
    | with_reducible refine blockQ_other (by decide) ?_
    | with_reducible refine regW_nil ?_
    | with_reducible refine aw_draw mixed ?_
    | (with_reducible refine regD_nil ?_
       refine ⟨by kernel_rfl, ?_⟩)
    | with_reducible refine retQ_ret ?_
    | with_reducible refine retQ_normal ?_
    | (first
        | ((with_reducible refine gh_ret ?_); simp only [RetW])
        | (with_reducible refine call_data (c_impl_MovesRight _ (by first | assumption | omega)) rfl ?_)
        | ((with_reducible apply call_auto (f := 21))
           · simp only [lendAL, lendA, Option.bind_some, Option.map_some, undd_dd, dd_length, dd_take, dd_drop, List.length_map, List.length_range, Nat.zero_add, Nat.add_zero, Nat.le_refl, true_and, and_true, and_self, take_len_map, take_marks, List.drop_zero, C.o.injEq, V.d.injEq, putSt, lk, Res.s.injEq, Res.r.injEq, reduceCtorEq, Nat.reduceEqDiff, if_true, if_false, lend_mv, lend_n1, lend_b1, take_len_map, take_marks, lend_mv, lend_n1, beq_self_eq_true, bne_self_eq_false, decide_true, Int.reduceNeg, Int.reduceLT, C.ren, V.ren, renLL_dd, objsP, List.length_map, List.length_range, List.getD_cons_zero, gt_iff_lt, h1, h2, hq1, hq2, Mv.cells, N1, src_eq2, chunks, List.replicate, List.flatten_nil, List.flatten_cons, buildSliceP, plain_mv, List.map_nil, List.nil_append, List.length_nil, buildP, putParts, structPlaces, setSeg, binP, fk57, cellsEq, cellEq, Option.bind_some, Option.map_some, Option.bind_eq_bind]; rfl
           · with_reducible exact c_impl_MovesRight _ (by first | assumption | omega)
           · first | rfl | exact nb_rows (fun _ => rfl) _ _
           simp only [V.namesOf, V.namesOfL, List.foldl_cons, List.foldl_nil, List.nil_append, List.append_nil, List.cons_append])
        | (with_reducible refine call_data (c_impl_MovesDone _ _ (by first | assumption | omega) (by first | assumption | omega)) rfl ?_)
        | ((with_reducible apply call_auto (f := 25))
           · simp only [lendAL, lendA, Option.bind_some, Option.map_some, undd_dd, dd_length, dd_take, dd_drop, List.length_map, List.length_range, Nat.zero_add, Nat.add_zero, Nat.le_refl, true_and, and_true, and_self, take_len_map, take_marks, List.drop_zero, C.o.injEq, V.d.injEq, putSt, lk, Res.s.injEq, Res.r.injEq, reduceCtorEq, Nat.reduceEqDiff, if_true, if_false, lend_mv, lend_n1, lend_b1, take_len_map, take_marks, lend_mv, lend_n1, beq_self_eq_true, bne_self_eq_false, decide_true, Int.reduceNeg, Int.reduceLT, C.ren, V.ren, renLL_dd, objsP, List.length_map, List.length_range, List.getD_cons_zero, gt_iff_lt, h1, h2, hq1, hq2, Mv.cells, N1, src_eq2, chunks, List.replicate, List.flatten_nil, List.flatten_cons, buildSliceP, plain_mv, List.map_nil, List.nil_append, List.length_nil, buildP, putParts, structPlaces, setSeg, binP, fk57, cellsEq, cellEq, Option.bind_some, Option.map_some, Option.bind_eq_bind]; rfl
           · with_reducible exact c_impl_MovesDone _ _ (by first | assumption | omega) (by first | assumption | omega)
           · first | rfl | exact nb_rows (fun _ => rfl) _ _
           simp only [V.namesOf, V.namesOfL, List.foldl_cons, List.foldl_nil, List.nil_append, List.append_nil, List.cons_append])
        | (with_reducible refine call_data (c_spec_MovesAtOnce _ _ (by first | assumption | omega) (by first | assumption | omega)) rfl ?_)
        | ((with_reducible apply call_auto (f := 30))
           · simp only [lendAL, lendA, Option.bind_some, Option.map_some, undd_dd, dd_length, dd_take, dd_drop, List.length_map, List.length_range, Nat.zero_add, Nat.add_zero, Nat.le_refl, true_and, and_true, and_self, take_len_map, take_marks, List.drop_zero, C.o.injEq, V.d.injEq, putSt, lk, Res.s.injEq, Res.r.injEq, reduceCtorEq, Nat.reduceEqDiff, if_true, if_false, lend_mv, lend_n1, lend_b1, take_len_map, take_marks, lend_mv, lend_n1, beq_self_eq_true, bne_self_eq_false, decide_true, Int.reduceNeg, Int.reduceLT, C.ren, V.ren, renLL_dd, objsP, List.length_map, List.length_range, List.getD_cons_zero, gt_iff_lt, h1, h2, hq1, hq2, Mv.cells, N1, src_eq2, chunks, List.replicate, List.flatten_nil, List.flatten_cons, buildSliceP, plain_mv, List.map_nil, List.nil_append, List.length_nil, buildP, putParts, structPlaces, setSeg, binP, fk57, cellsEq, cellEq, Option.bind_some, Option.map_some, Option.bind_eq_bind]; rfl
           · with_reducible exact c_spec_MovesAtOnce _ _ (by first | assumption | omega) (by first | assumption | omega)
           · first | rfl | exact nb_rows (fun _ => rfl) _ _
           simp only [V.namesOf, V.namesOfL, List.foldl_cons, List.foldl_nil, List.nil_append, List.append_nil, List.cons_append])
        | (with_reducible refine call_data (c_impl_MovesAtOnce _ _ (by first | assumption | omega) (by first | assumption | omega)) rfl ?_)
        | ((with_reducible apply call_auto (f := 31))
           · simp only [lendAL, lendA, Option.bind_some, Option.map_some, undd_dd, dd_length, dd_take, dd_drop, List.length_map, List.length_range, Nat.zero_add, Nat.add_zero, Nat.le_refl, true_and, and_true, and_self, take_len_map, take_marks, List.drop_zero, C.o.injEq, V.d.injEq, putSt, lk, Res.s.injEq, Res.r.injEq, reduceCtorEq, Nat.reduceEqDiff, if_true, if_false, lend_mv, lend_n1, lend_b1, take_len_map, take_marks, lend_mv, lend_n1, beq_self_eq_true, bne_self_eq_false, decide_true, Int.reduceNeg, Int.reduceLT, C.ren, V.ren, renLL_dd, objsP, List.length_map, List.length_range, List.getD_cons_zero, gt_iff_lt, h1, h2, hq1, hq2, Mv.cells, N1, src_eq2, chunks, List.replicate, List.flatten_nil, List.flatten_cons, buildSliceP, plain_mv, List.map_nil, List.nil_append, List.length_nil, buildP, putParts, structPlaces, setSeg, binP, fk57, cellsEq, cellEq, Option.bind_some, Option.map_some, Option.bind_eq_bind]; rfl
           · with_reducible exact c_impl_MovesAtOnce _ _ (by first | assumption | omega) (by first | assumption | omega)
           · first | rfl | exact nb_rows (fun _ => rfl) _ _
           simp only [V.namesOf, V.namesOfL, List.foldl_cons, List.foldl_nil, List.nil_append, List.append_nil, List.cons_append])
        | (with_reducible refine call_data (c_impl_Cycles _ (by first | assumption | omega)) rfl ?_)
        | ((with_reducible apply call_auto (f := 33))
           · simp only [lendAL, lendA, Option.bind_some, Option.map_some, undd_dd, dd_length, dd_take, dd_drop, List.length_map, List.length_range, Nat.zero_add, Nat.add_zero, Nat.le_refl, true_and, and_true, and_self, take_len_map, take_marks, List.drop_zero, C.o.injEq, V.d.injEq, putSt, lk, Res.s.injEq, Res.r.injEq, reduceCtorEq, Nat.reduceEqDiff, if_true, if_false, lend_mv, lend_n1, lend_b1, take_len_map, take_marks, lend_mv, lend_n1, beq_self_eq_true, bne_self_eq_false, decide_true, Int.reduceNeg, Int.reduceLT, C.ren, V.ren, renLL_dd, objsP, List.length_map, List.length_range, List.getD_cons_zero, gt_iff_lt, h1, h2, hq1, hq2, Mv.cells, N1, src_eq2, chunks, List.replicate, List.flatten_nil, List.flatten_cons, buildSliceP, plain_mv, List.map_nil, List.nil_append, List.length_nil, buildP, putParts, structPlaces, setSeg, binP, fk57, cellsEq, cellEq, Option.bind_some, Option.map_some, Option.bind_eq_bind]; rfl
           · with_reducible exact c_impl_Cycles _ (by first | assumption | omega)
           · first | rfl | exact nb_rows (fun _ => rfl) _ _
           simp only [V.namesOf, V.namesOfL, List.foldl_cons, List.foldl_nil, List.nil_append, List.append_nil, List.cons_append])
        | (with_reducible refine call_data (c_spec_Sequence _ _ (by first | assumption | omega)) rfl ?_)
        | ((with_reducible apply call_auto (f := 34))
           · simp only [lendAL, lendA, Option.bind_some, Option.map_some, undd_dd, dd_length, dd_take, dd_drop, List.length_map, List.length_range, Nat.zero_add, Nat.add_zero, Nat.le_refl, true_and, and_true, and_self, take_len_map, take_marks, List.drop_zero, C.o.injEq, V.d.injEq, putSt, lk, Res.s.injEq, Res.r.injEq, reduceCtorEq, Nat.reduceEqDiff, if_true, if_false, lend_mv, lend_n1, lend_b1, take_len_map, take_marks, lend_mv, lend_n1, beq_self_eq_true, bne_self_eq_false, decide_true, Int.reduceNeg, Int.reduceLT, C.ren, V.ren, renLL_dd, objsP, List.length_map, List.length_range, List.getD_cons_zero, gt_iff_lt, h1, h2, hq1, hq2, Mv.cells, N1, src_eq2, chunks, List.replicate, List.flatten_nil, List.flatten_cons, buildSliceP, plain_mv, List.map_nil, List.nil_append, List.length_nil, buildP, putParts, structPlaces, setSeg, binP, fk57, cellsEq, cellEq, Option.bind_some, Option.map_some, Option.bind_eq_bind]; rfl
           · with_reducible exact c_spec_Sequence _ _ (by first | assumption | omega)
           · first | rfl | exact nb_rows (fun _ => rfl) _ _
           simp only [V.namesOf, V.namesOfL, List.foldl_cons, List.foldl_nil, List.nil_append, List.append_nil, List.cons_append])
        | (with_reducible refine call_data (c_impl_Sequence _ _ (by first | assumption | omega)) rfl ?_)
        | ((with_reducible apply call_auto (f := 35))
           · simp only [lendAL, lendA, Option.bind_some, Option.map_some, undd_dd, dd_length, dd_take, dd_drop, List.length_map, List.length_range, Nat.zero_add, Nat.add_zero, Nat.le_refl, true_and, and_true, and_self, take_len_map, take_marks, List.drop_zero, C.o.injEq, V.d.injEq, putSt, lk, Res.s.injEq, Res.r.injEq, reduceCtorEq, Nat.reduceEqDiff, if_true, if_false, lend_mv, lend_n1, lend_b1, take_len_map, take_marks, lend_mv, lend_n1, beq_self_eq_true, bne_self_eq_false, decide_true, Int.reduceNeg, Int.reduceLT, C.ren, V.ren, renLL_dd, objsP, List.length_map, List.length_range, List.getD_cons_zero, gt_iff_lt, h1, h2, hq1, hq2, Mv.cells, N1, src_eq2, chunks, List.replicate, List.flatten_nil, List.flatten_cons, buildSliceP, plain_mv, List.map_nil, List.nil_append, List.length_nil, buildP, putParts, structPlaces, setSeg, binP, fk57, cellsEq, cellEq, Option.bind_some, Option.map_some, Option.bind_eq_bind]; rfl
           · with_reducible exact c_impl_Sequence _ _ (by first | assumption | omega)
           · first | rfl | exact nb_rows (fun _ => rfl) _ _
           simp only [V.namesOf, V.namesOfL, List.foldl_cons, List.foldl_nil, List.nil_append, List.append_nil, List.cons_append])
        | (with_reducible refine call_data (c_spec_DrawSequence _ (by first | assumption | omega) (by first | assumption | omega)) rfl ?_)
        | ((with_reducible apply call_auto (f := 37))
           · simp only [lendAL, lendA, Option.bind_some, Option.map_some, undd_dd, dd_length, dd_take, dd_drop, List.length_map, List.length_range, Nat.zero_add, Nat.add_zero, Nat.le_refl, true_and, and_true, and_self, take_len_map, take_marks, List.drop_zero, C.o.injEq, V.d.injEq, putSt, lk, Res.s.injEq, Res.r.injEq, reduceCtorEq, Nat.reduceEqDiff, if_true, if_false, lend_mv, lend_n1, lend_b1, take_len_map, take_marks, lend_mv, lend_n1, beq_self_eq_true, bne_self_eq_false, decide_true, Int.reduceNeg, Int.reduceLT, C.ren, V.ren, renLL_dd, objsP, List.length_map, List.length_range, List.getD_cons_zero, gt_iff_lt, h1, h2, hq1, hq2, Mv.cells, N1, src_eq2, chunks, List.replicate, List.flatten_nil, List.flatten_cons, buildSliceP, plain_mv, List.map_nil, List.nil_append, List.length_nil, buildP, putParts, structPlaces, setSeg, binP, fk57, cellsEq, cellEq, Option.bind_some, Option.map_some, Option.bind_eq_bind]; rfl
           · with_reducible exact c_spec_DrawSequence _ (by first | assumption | omega) (by first | assumption | omega)
           · first | rfl | exact nb_rows (fun _ => rfl) _ _
           simp only [V.namesOf, V.namesOfL, List.foldl_cons, List.foldl_nil, List.nil_append, List.append_nil, List.cons_append])
        | (with_reducible refine call_data (c_spec_DrawMovesDone _ (by first | assumption | omega) (by first | assumption | omega)) rfl ?_)
        | ((with_reducible apply call_auto (f := 38))
           · simp only [lendAL, lendA, Option.bind_some, Option.map_some, undd_dd, dd_length, dd_take, dd_drop, List.length_map, List.length_range, Nat.zero_add, Nat.add_zero, Nat.le_refl, true_and, and_true, and_self, take_len_map, take_marks, List.drop_zero, C.o.injEq, V.d.injEq, putSt, lk, Res.s.injEq, Res.r.injEq, reduceCtorEq, Nat.reduceEqDiff, if_true, if_false, lend_mv, lend_n1, lend_b1, take_len_map, take_marks, lend_mv, lend_n1, beq_self_eq_true, bne_self_eq_false, decide_true, Int.reduceNeg, Int.reduceLT, C.ren, V.ren, renLL_dd, objsP, List.length_map, List.length_range, List.getD_cons_zero, gt_iff_lt, h1, h2, hq1, hq2, Mv.cells, N1, src_eq2, chunks, List.replicate, List.flatten_nil, List.flatten_cons, buildSliceP, plain_mv, List.map_nil, List.nil_append, List.length_nil, buildP, putParts, structPlaces, setSeg, binP, fk57, cellsEq, cellEq, Option.bind_some, Option.map_some, Option.bind_eq_bind]; rfl
           · with_reducible exact c_spec_DrawMovesDone _ (by first | assumption | omega) (by first | assumption | omega)
           · first | rfl | exact nb_rows (fun _ => rfl) _ _
           simp only [V.namesOf, V.namesOfL, List.foldl_cons, List.foldl_nil, List.nil_append, List.append_nil, List.cons_append])
        | (with_reducible apply regD_op
           · simp only [dstOk, Nat.reduceLT]
           · simp only [Nat.reduceAdd]; rfl
           intro k hk
           simp only [stepP])
        | (with_reducible apply regW_op
           · simp only [dstOk, Nat.reduceLT]
           · simp only [Nat.reduceAdd]; rfl
           intro k hk)
       try simp only [opC, opP, fetchN, fetchP, fetchAll, fetchO, Prog.bind, Prog.wp, Prog.wp_bind, lk, nameP, nameAll, Value.oneCell', putSt, stepP, putP, Res.s.injEq, Res.r.injEq, reduceCtorEq, V.lin, V.linL, D.lin, isNil, binP, unP, intBin, BinOp.isShift, Prog.ofO, true_and, and_true, Nat.reduceAdd, Nat.reduceMul, Nat.reduceSub, Nat.reduceLT, Nat.reduceLeDiff, Nat.reduceEqDiff, Nat.add_zero, Nat.zero_add, Nat.le_refl, if_true, if_false, ite_true, ite_false, Bool.false_eq_true, List.length_nil, List.length_cons, Bool.not_true, Bool.not_false, Bool.or_false, Bool.or_true, fieldAddrP, fieldP, indexAddrP, loadP, storeP, boxP, allocP, cellsP, asVal, setSeg, outP, TyK.field, TyK.agg, zeroRow, List.getElem?_cons_zero, List.getElem?_cons_succ, List.take_succ_cons, List.take_zero, List.drop_succ_cons, List.drop_zero, List.set_cons_zero, List.set_cons_succ, List.nil_append, List.cons_append, List.append_nil, List.map_cons, List.map_nil, V.ren, V.renL, List.forall_mem_cons, List.not_mem_nil, List.mem_cons, forall_eq_or_imp, implies_true, false_implies, forall_const, and_self, true_or, minmaxP, lenP, lenOf, lenStr, V.asInt, Int.toNat_natCast, List.length_map, List.getElem?_map, Option.map_some, Int.ofNat_lt, Int.natCast_nonneg, decide_true, decide_false, Int.cast_ofNat_Int, nat_lt_zero, nat_one, nat_zero, dd_length, dd_get, dd_take, dd_drop, resGo_dd, undd_dd, take_len_map, take_marks, List.length_replicate, sliceP, boundP, makeSliceP, convertP, appendP, rowsOfP, ontoP, sizeFits, V.rowSize, TyK.src, resV, resV.go, resV.gol, retP, retOne, retAll, resTo, objsAre, ty2, ty3, ty4, ty5, ty37, ty41, ty51, ty57, ty59, take_len_map, take_marks, lend_mv, lend_n1, beq_self_eq_true, bne_self_eq_false, decide_true, Int.reduceNeg, Int.reduceLT, C.ren, V.ren, renLL_dd, objsP, List.length_map, List.length_range, List.getD_cons_zero, gt_iff_lt, h1, h2, hq1, hq2, Mv.cells, N1, src_eq2, chunks, List.replicate, List.flatten_nil, List.flatten_cons, buildSliceP, plain_mv, List.map_nil, List.nil_append, List.length_nil, buildP, putParts, structPlaces, setSeg, binP, fk57, cellsEq, cellEq, Option.bind_some, Option.map_some, Option.bind_eq_bind]
       try (refine hk _ _ _ _ ?_; clear hk k))
    | (with_reducible apply regW_skip
       · simp only [dstOk, Nat.reduceLT]
       · rfl
       · simp only [putSt, lk, Res.s.injEq, Res.r.injEq, reduceCtorEq, Nat.reduceEqDiff, if_true, if_false]; done)
    | (with_reducible apply regW_yesN
       · simp only [dstOk, Nat.reduceLT]
       · rfl
       · simp only [putSt, lk, Res.s.injEq, Res.r.injEq, reduceCtorEq, Nat.reduceEqDiff, if_true, if_false]; done)
    | (with_reducible apply regW_no
       · simp only [dstOk, Nat.reduceLT]
       · rfl
       · simp only [putSt, lk, Res.s.injEq, Res.r.injEq, reduceCtorEq, Nat.reduceEqDiff, if_true, if_false, Bool.not_true, Bool.not_false]; done)
    | (with_reducible apply regW_guardN
       · simp only [dstOk, Nat.reduceLT]
       · rfl
       · simp only [putSt, lk, Res.s.injEq, Res.r.injEq, reduceCtorEq, Nat.reduceEqDiff, if_true, if_false]; rfl
       intro hb
       rotate_left
       intro hb)
    | (with_reducible apply aw_cond
       · simp only [putSt, lk, Res.s.injEq, Res.r.injEq, reduceCtorEq, Nat.reduceEqDiff, if_true, if_false]; rfl
       all_goals (intro hc; try (cases hc; done))))

  all_goals (try (simp_all))
  all_goals (try rfl)
  all_goals (try (rw [Bool.eq_iff_iff]; simp; done))
  all_goals (try (rw [Bool.eq_iff_iff]; simp; omega))
  all_goals (try (intros; omega))
  all_goals (try grind)

theorem law_zx (a b : List Int) (ha : a.length ≤ 1048576) (hb : b.length ≤ 1048576) (hva : ∀ z ∈ a, 0 ≤ z ∧ z < 256) (hvb : ∀ z ∈ b, 0 ≤ z ∧ z < 256) (l q : List Mv) (sp : Int) (locs : List Int) (e1 : (drawSeq a).1 = l) (e2 : (drawSeq a).2 = sp) (e0 : (movesOf (srcOf b)).2 = q) (e3 : drawLocs b = locs) (x : List Mv) (e4 : seqAns l sp = x) (z : List Int) (e5 : mao l locs = z) (hll : l.length ≤ 1048576) (hlo : locs.length ≤ 1048576) (hlx : x.length ≤ 1048576) (hx : x = []) : Con Try.prog 10 [bRows 1 B1 a, bRows 1 B1 b] [] (V.bool true) [] := by
  have h1 : DUM = 0 := rfl
  have h2 : DUM = 0 := rfl
  have hq1 : DUM = 0 := rfl
  have hq2 : DUM = 0 := rfl
  have hx0 : DUM = 0 := rfl
  have hz0 : DUM = 0 := rfl
  have hyl0 : DUM = 0 := rfl
  have hzl0 : DUM = 0 := rfl
  have hq1 : l.length * 24 ≤ 35184372088832 := by omega
  have hq2 : l.length ≤ 35184372088832 := by omega
  have h1 : ¬ (1048576 : Int) < a.length := by omega
  have h2 : ¬ (1048576 : Int) < b.length := by omega
  have hx0 : ((x.length : Int) == 0) = true := by rw [hx]; rfl

  refine con_of_aw Try.func10 rfl Try.call10 (by simp [Try.ntmps10]) (by simp [V.inNs, V.inN]) (by simp [C.inN, V.inNss, V.inNs, V.inN, inNss_dd]) (by simp [V.inNs, V.inN]) (by simp [C.inN, V.inNss, V.inNs, V.inN, inNss_dd]) rfl ?_
  rw [Try.ntmps10, Try.results10]
  simp only [entryS, entryO, Nat.reduceAdd, List.length_nil, List.length_cons]
  repeat' (first
    | with_reducible refine aw_seq ?_
    | with_reducible refine aw_reg ?_
    | with_reducible refine aw_ret ?_
    | with_reducible refine aw_skip ?_
    | with_reducible refine aw_block ?_
    | with_reducible refine aw_exit ?_
    | with_reducible refine seqQ_normal ?_
    | with_reducible refine seqQ_ret ?_
    | with_reducible refine seqQ_exit ?_
    | with_reducible refine blockQ_normal ?_
    | with_reducible refine blockQ_ret ?_
    | with_reducible refine blockQ_this ?_
    | with_reducible refine blockQ_other (by decide) ?_
    | with_reducible refine regW_nil ?_
    | with_reducible refine aw_draw mixed ?_
    | (with_reducible refine regD_nil ?_
       refine ⟨by kernel_rfl, ?_⟩)
    | with_reducible refine retQ_ret ?_
    | with_reducible refine retQ_normal ?_
    | (first
        | ((with_reducible refine gh_ret ?_); simp only [RetW])
        | (with_reducible refine call_data (k_right hlx e7) rfl ?_)
        | ((with_reducible apply call_auto (f := 21))
           · simp only [lendAL, lendA, Option.bind_some, Option.map_some, undd_dd, dd_length, dd_take, dd_drop, List.length_map, List.length_range, Nat.zero_add, Nat.add_zero, Nat.le_refl, true_and, and_true, and_self, take_len_map, take_marks, List.drop_zero, C.o.injEq, V.d.injEq, putSt, lk, Res.s.injEq, Res.r.injEq, reduceCtorEq, Nat.reduceEqDiff, if_true, if_false, lend_mv, lend_n1, lend_b1, take_len_map, take_marks, lend_mv, lend_n1, beq_self_eq_true, bne_self_eq_false, decide_true, Int.reduceNeg, Int.reduceLT, C.ren, V.ren, renLL_dd, objsP, List.length_map, List.length_range, List.getD_cons_zero, gt_iff_lt, h1, h2, hq1, hq2, Mv.cells, N1, src_eq2, chunks, List.replicate, List.flatten_nil, List.flatten_cons, buildSliceP, plain_mv, List.map_nil, List.nil_append, List.length_nil, buildP, putParts, structPlaces, setSeg, binP, fk57, cellsEq, cellEq, Option.bind_some, Option.map_some, Option.bind_eq_bind, hx0, hz0, hyl0, hzl0, List.getElem?_toArray]; rfl
           · with_reducible exact k_right hlx e7
           · first | rfl | exact nb_rows (fun _ => rfl) _ _
           simp only [V.namesOf, V.namesOfL, List.foldl_cons, List.foldl_nil, List.nil_append, List.append_nil, List.cons_append])
        | (with_reducible refine call_data (k_done hlx hlo e6) rfl ?_)
        | ((with_reducible apply call_auto (f := 25))
           · simp only [lendAL, lendA, Option.bind_some, Option.map_some, undd_dd, dd_length, dd_take, dd_drop, List.length_map, List.length_range, Nat.zero_add, Nat.add_zero, Nat.le_refl, true_and, and_true, and_self, take_len_map, take_marks, List.drop_zero, C.o.injEq, V.d.injEq, putSt, lk, Res.s.injEq, Res.r.injEq, reduceCtorEq, Nat.reduceEqDiff, if_true, if_false, lend_mv, lend_n1, lend_b1, take_len_map, take_marks, lend_mv, lend_n1, beq_self_eq_true, bne_self_eq_false, decide_true, Int.reduceNeg, Int.reduceLT, C.ren, V.ren, renLL_dd, objsP, List.length_map, List.length_range, List.getD_cons_zero, gt_iff_lt, h1, h2, hq1, hq2, Mv.cells, N1, src_eq2, chunks, List.replicate, List.flatten_nil, List.flatten_cons, buildSliceP, plain_mv, List.map_nil, List.nil_append, List.length_nil, buildP, putParts, structPlaces, setSeg, binP, fk57, cellsEq, cellEq, Option.bind_some, Option.map_some, Option.bind_eq_bind, hx0, hz0, hyl0, hzl0, List.getElem?_toArray]; rfl
           · with_reducible exact k_done hlx hlo e6
           · first | rfl | exact nb_rows (fun _ => rfl) _ _
           simp only [V.namesOf, V.namesOfL, List.foldl_cons, List.foldl_nil, List.nil_append, List.append_nil, List.cons_append])
        | (with_reducible refine call_data (k_specMao hll hlo e5) rfl ?_)
        | ((with_reducible apply call_auto (f := 30))
           · simp only [lendAL, lendA, Option.bind_some, Option.map_some, undd_dd, dd_length, dd_take, dd_drop, List.length_map, List.length_range, Nat.zero_add, Nat.add_zero, Nat.le_refl, true_and, and_true, and_self, take_len_map, take_marks, List.drop_zero, C.o.injEq, V.d.injEq, putSt, lk, Res.s.injEq, Res.r.injEq, reduceCtorEq, Nat.reduceEqDiff, if_true, if_false, lend_mv, lend_n1, lend_b1, take_len_map, take_marks, lend_mv, lend_n1, beq_self_eq_true, bne_self_eq_false, decide_true, Int.reduceNeg, Int.reduceLT, C.ren, V.ren, renLL_dd, objsP, List.length_map, List.length_range, List.getD_cons_zero, gt_iff_lt, h1, h2, hq1, hq2, Mv.cells, N1, src_eq2, chunks, List.replicate, List.flatten_nil, List.flatten_cons, buildSliceP, plain_mv, List.map_nil, List.nil_append, List.length_nil, buildP, putParts, structPlaces, setSeg, binP, fk57, cellsEq, cellEq, Option.bind_some, Option.map_some, Option.bind_eq_bind, hx0, hz0, hyl0, hzl0, List.getElem?_toArray]; rfl
           · with_reducible exact k_specMao hll hlo e5
           · first | rfl | exact nb_rows (fun _ => rfl) _ _
           simp only [V.namesOf, V.namesOfL, List.foldl_cons, List.foldl_nil, List.nil_append, List.append_nil, List.cons_append])
        | (with_reducible refine call_data (k_implMao hll hlo e5) rfl ?_)
        | ((with_reducible apply call_auto (f := 31))
           · simp only [lendAL, lendA, Option.bind_some, Option.map_some, undd_dd, dd_length, dd_take, dd_drop, List.length_map, List.length_range, Nat.zero_add, Nat.add_zero, Nat.le_refl, true_and, and_true, and_self, take_len_map, take_marks, List.drop_zero, C.o.injEq, V.d.injEq, putSt, lk, Res.s.injEq, Res.r.injEq, reduceCtorEq, Nat.reduceEqDiff, if_true, if_false, lend_mv, lend_n1, lend_b1, take_len_map, take_marks, lend_mv, lend_n1, beq_self_eq_true, bne_self_eq_false, decide_true, Int.reduceNeg, Int.reduceLT, C.ren, V.ren, renLL_dd, objsP, List.length_map, List.length_range, List.getD_cons_zero, gt_iff_lt, h1, h2, hq1, hq2, Mv.cells, N1, src_eq2, chunks, List.replicate, List.flatten_nil, List.flatten_cons, buildSliceP, plain_mv, List.map_nil, List.nil_append, List.length_nil, buildP, putParts, structPlaces, setSeg, binP, fk57, cellsEq, cellEq, Option.bind_some, Option.map_some, Option.bind_eq_bind, hx0, hz0, hyl0, hzl0, List.getElem?_toArray]; rfl
           · with_reducible exact k_implMao hll hlo e5
           · first | rfl | exact nb_rows (fun _ => rfl) _ _
           simp only [V.namesOf, V.namesOfL, List.foldl_cons, List.foldl_nil, List.nil_append, List.append_nil, List.cons_append])
        | (with_reducible refine call_data (k_cyc hll e8) rfl ?_)
        | ((with_reducible apply call_auto (f := 33))
           · simp only [lendAL, lendA, Option.bind_some, Option.map_some, undd_dd, dd_length, dd_take, dd_drop, List.length_map, List.length_range, Nat.zero_add, Nat.add_zero, Nat.le_refl, true_and, and_true, and_self, take_len_map, take_marks, List.drop_zero, C.o.injEq, V.d.injEq, putSt, lk, Res.s.injEq, Res.r.injEq, reduceCtorEq, Nat.reduceEqDiff, if_true, if_false, lend_mv, lend_n1, lend_b1, take_len_map, take_marks, lend_mv, lend_n1, beq_self_eq_true, bne_self_eq_false, decide_true, Int.reduceNeg, Int.reduceLT, C.ren, V.ren, renLL_dd, objsP, List.length_map, List.length_range, List.getD_cons_zero, gt_iff_lt, h1, h2, hq1, hq2, Mv.cells, N1, src_eq2, chunks, List.replicate, List.flatten_nil, List.flatten_cons, buildSliceP, plain_mv, List.map_nil, List.nil_append, List.length_nil, buildP, putParts, structPlaces, setSeg, binP, fk57, cellsEq, cellEq, Option.bind_some, Option.map_some, Option.bind_eq_bind, hx0, hz0, hyl0, hzl0, List.getElem?_toArray]; rfl
           · with_reducible exact k_cyc hll e8
           · first | rfl | exact nb_rows (fun _ => rfl) _ _
           simp only [V.namesOf, V.namesOfL, List.foldl_cons, List.foldl_nil, List.nil_append, List.append_nil, List.cons_append])
        | (with_reducible refine call_data (k_specSeq hll e4) rfl ?_)
        | ((with_reducible apply call_auto (f := 34))
           · simp only [lendAL, lendA, Option.bind_some, Option.map_some, undd_dd, dd_length, dd_take, dd_drop, List.length_map, List.length_range, Nat.zero_add, Nat.add_zero, Nat.le_refl, true_and, and_true, and_self, take_len_map, take_marks, List.drop_zero, C.o.injEq, V.d.injEq, putSt, lk, Res.s.injEq, Res.r.injEq, reduceCtorEq, Nat.reduceEqDiff, if_true, if_false, lend_mv, lend_n1, lend_b1, take_len_map, take_marks, lend_mv, lend_n1, beq_self_eq_true, bne_self_eq_false, decide_true, Int.reduceNeg, Int.reduceLT, C.ren, V.ren, renLL_dd, objsP, List.length_map, List.length_range, List.getD_cons_zero, gt_iff_lt, h1, h2, hq1, hq2, Mv.cells, N1, src_eq2, chunks, List.replicate, List.flatten_nil, List.flatten_cons, buildSliceP, plain_mv, List.map_nil, List.nil_append, List.length_nil, buildP, putParts, structPlaces, setSeg, binP, fk57, cellsEq, cellEq, Option.bind_some, Option.map_some, Option.bind_eq_bind, hx0, hz0, hyl0, hzl0, List.getElem?_toArray]; rfl
           · with_reducible exact k_specSeq hll e4
           · first | rfl | exact nb_rows (fun _ => rfl) _ _
           simp only [V.namesOf, V.namesOfL, List.foldl_cons, List.foldl_nil, List.nil_append, List.append_nil, List.cons_append])
        | (with_reducible refine call_data (k_implSeq hll e4) rfl ?_)
        | ((with_reducible apply call_auto (f := 35))
           · simp only [lendAL, lendA, Option.bind_some, Option.map_some, undd_dd, dd_length, dd_take, dd_drop, List.length_map, List.length_range, Nat.zero_add, Nat.add_zero, Nat.le_refl, true_and, and_true, and_self, take_len_map, take_marks, List.drop_zero, C.o.injEq, V.d.injEq, putSt, lk, Res.s.injEq, Res.r.injEq, reduceCtorEq, Nat.reduceEqDiff, if_true, if_false, lend_mv, lend_n1, lend_b1, take_len_map, take_marks, lend_mv, lend_n1, beq_self_eq_true, bne_self_eq_false, decide_true, Int.reduceNeg, Int.reduceLT, C.ren, V.ren, renLL_dd, objsP, List.length_map, List.length_range, List.getD_cons_zero, gt_iff_lt, h1, h2, hq1, hq2, Mv.cells, N1, src_eq2, chunks, List.replicate, List.flatten_nil, List.flatten_cons, buildSliceP, plain_mv, List.map_nil, List.nil_append, List.length_nil, buildP, putParts, structPlaces, setSeg, binP, fk57, cellsEq, cellEq, Option.bind_some, Option.map_some, Option.bind_eq_bind, hx0, hz0, hyl0, hzl0, List.getElem?_toArray]; rfl
           · with_reducible exact k_implSeq hll e4
           · first | rfl | exact nb_rows (fun _ => rfl) _ _
           simp only [V.namesOf, V.namesOfL, List.foldl_cons, List.foldl_nil, List.nil_append, List.append_nil, List.cons_append])
        | (with_reducible refine call_data (k_dseq ha hva e1 e2) rfl ?_)
        | ((with_reducible apply call_auto (f := 37))
           · simp only [lendAL, lendA, Option.bind_some, Option.map_some, undd_dd, dd_length, dd_take, dd_drop, List.length_map, List.length_range, Nat.zero_add, Nat.add_zero, Nat.le_refl, true_and, and_true, and_self, take_len_map, take_marks, List.drop_zero, C.o.injEq, V.d.injEq, putSt, lk, Res.s.injEq, Res.r.injEq, reduceCtorEq, Nat.reduceEqDiff, if_true, if_false, lend_mv, lend_n1, lend_b1, take_len_map, take_marks, lend_mv, lend_n1, beq_self_eq_true, bne_self_eq_false, decide_true, Int.reduceNeg, Int.reduceLT, C.ren, V.ren, renLL_dd, objsP, List.length_map, List.length_range, List.getD_cons_zero, gt_iff_lt, h1, h2, hq1, hq2, Mv.cells, N1, src_eq2, chunks, List.replicate, List.flatten_nil, List.flatten_cons, buildSliceP, plain_mv, List.map_nil, List.nil_append, List.length_nil, buildP, putParts, structPlaces, setSeg, binP, fk57, cellsEq, cellEq, Option.bind_some, Option.map_some, Option.bind_eq_bind, hx0, hz0, hyl0, hzl0, List.getElem?_toArray]; rfl
           · with_reducible exact k_dseq ha hva e1 e2
           · first | rfl | exact nb_rows (fun _ => rfl) _ _
           simp only [V.namesOf, V.namesOfL, List.foldl_cons, List.foldl_nil, List.nil_append, List.append_nil, List.cons_append])
        | (with_reducible refine call_data (k_dlocs hb hvb e0 e3) rfl ?_)
        | ((with_reducible apply call_auto (f := 38))
           · simp only [lendAL, lendA, Option.bind_some, Option.map_some, undd_dd, dd_length, dd_take, dd_drop, List.length_map, List.length_range, Nat.zero_add, Nat.add_zero, Nat.le_refl, true_and, and_true, and_self, take_len_map, take_marks, List.drop_zero, C.o.injEq, V.d.injEq, putSt, lk, Res.s.injEq, Res.r.injEq, reduceCtorEq, Nat.reduceEqDiff, if_true, if_false, lend_mv, lend_n1, lend_b1, take_len_map, take_marks, lend_mv, lend_n1, beq_self_eq_true, bne_self_eq_false, decide_true, Int.reduceNeg, Int.reduceLT, C.ren, V.ren, renLL_dd, objsP, List.length_map, List.length_range, List.getD_cons_zero, gt_iff_lt, h1, h2, hq1, hq2, Mv.cells, N1, src_eq2, chunks, List.replicate, List.flatten_nil, List.flatten_cons, buildSliceP, plain_mv, List.map_nil, List.nil_append, List.length_nil, buildP, putParts, structPlaces, setSeg, binP, fk57, cellsEq, cellEq, Option.bind_some, Option.map_some, Option.bind_eq_bind, hx0, hz0, hyl0, hzl0, List.getElem?_toArray]; rfl
           · with_reducible exact k_dlocs hb hvb e0 e3
           · first | rfl | exact nb_rows (fun _ => rfl) _ _
           simp only [V.namesOf, V.namesOfL, List.foldl_cons, List.foldl_nil, List.nil_append, List.append_nil, List.cons_append])
        | (with_reducible apply regD_op
           · simp only [dstOk, Nat.reduceLT]
           · simp only [Nat.reduceAdd]; rfl
           intro k hk
           simp only [stepP])
        | (with_reducible apply regW_op
           · simp only [dstOk, Nat.reduceLT]
           · simp only [Nat.reduceAdd]; rfl
           intro k hk)
       try simp only [opC, opP, fetchN, fetchP, fetchAll, fetchO, Prog.bind, Prog.wp, Prog.wp_bind, lk, nameP, nameAll, Value.oneCell', putSt, stepP, putP, Res.s.injEq, Res.r.injEq, reduceCtorEq, V.lin, V.linL, D.lin, isNil, binP, unP, intBin, BinOp.isShift, Prog.ofO, true_and, and_true, Nat.reduceAdd, Nat.reduceMul, Nat.reduceSub, Nat.reduceLT, Nat.reduceLeDiff, Nat.reduceEqDiff, Nat.add_zero, Nat.zero_add, Nat.le_refl, if_true, if_false, ite_true, ite_false, Bool.false_eq_true, List.length_nil, List.length_cons, Bool.not_true, Bool.not_false, Bool.or_false, Bool.or_true, fieldAddrP, fieldP, indexAddrP, loadP, storeP, boxP, allocP, cellsP, asVal, setSeg, outP, TyK.field, TyK.agg, zeroRow, List.getElem?_cons_zero, List.getElem?_cons_succ, List.take_succ_cons, List.take_zero, List.drop_succ_cons, List.drop_zero, List.set_cons_zero, List.set_cons_succ, List.nil_append, List.cons_append, List.append_nil, List.map_cons, List.map_nil, V.ren, V.renL, List.forall_mem_cons, List.not_mem_nil, List.mem_cons, forall_eq_or_imp, implies_true, false_implies, forall_const, and_self, true_or, minmaxP, lenP, lenOf, lenStr, V.asInt, Int.toNat_natCast, List.length_map, List.getElem?_map, Option.map_some, Int.ofNat_lt, Int.natCast_nonneg, decide_true, decide_false, Int.cast_ofNat_Int, nat_lt_zero, nat_one, nat_zero, dd_length, dd_get, dd_take, dd_drop, resGo_dd, undd_dd, take_len_map, take_marks, List.length_replicate, sliceP, boundP, makeSliceP, convertP, appendP, rowsOfP, ontoP, sizeFits, V.rowSize, TyK.src, resV, resV.go, resV.gol, retP, retOne, retAll, resTo, objsAre, ty2, ty3, ty4, ty5, ty37, ty41, ty51, ty57, ty59, take_len_map, take_marks, lend_mv, lend_n1, beq_self_eq_true, bne_self_eq_false, decide_true, Int.reduceNeg, Int.reduceLT, C.ren, V.ren, renLL_dd, objsP, List.length_map, List.length_range, List.getD_cons_zero, gt_iff_lt, h1, h2, hq1, hq2, Mv.cells, N1, src_eq2, chunks, List.replicate, List.flatten_nil, List.flatten_cons, buildSliceP, plain_mv, List.map_nil, List.nil_append, List.length_nil, buildP, putParts, structPlaces, setSeg, binP, fk57, cellsEq, cellEq, Option.bind_some, Option.map_some, Option.bind_eq_bind, hx0, hz0, hyl0, hzl0, List.getElem?_toArray]
       try (refine hk _ _ _ _ ?_; clear hk k))
    | (with_reducible apply regW_skip
       · simp only [dstOk, Nat.reduceLT]
       · rfl
       · simp only [putSt, lk, Res.s.injEq, Res.r.injEq, reduceCtorEq, Nat.reduceEqDiff, if_true, if_false]; done)
    | (with_reducible apply regW_yesN
       · simp only [dstOk, Nat.reduceLT]
       · rfl
       · simp only [putSt, lk, Res.s.injEq, Res.r.injEq, reduceCtorEq, Nat.reduceEqDiff, if_true, if_false]; done)
    | (with_reducible apply regW_no
       · simp only [dstOk, Nat.reduceLT]
       · rfl
       · simp only [putSt, lk, Res.s.injEq, Res.r.injEq, reduceCtorEq, Nat.reduceEqDiff, if_true, if_false, Bool.not_true, Bool.not_false]; done)
    | (with_reducible apply regW_guardN
       · simp only [dstOk, Nat.reduceLT]
       · rfl
       · simp only [putSt, lk, Res.s.injEq, Res.r.injEq, reduceCtorEq, Nat.reduceEqDiff, if_true, if_false]; rfl
       intro hb
       rotate_left
       intro hb)
    | (with_reducible apply aw_cond
       · simp only [putSt, lk, Res.s.injEq, Res.r.injEq, reduceCtorEq, Nat.reduceEqDiff, if_true, if_false]; rfl
       all_goals (intro hc; try (cases hc; done))))

  all_goals (try (simp_all))
  all_goals (try rfl)
  all_goals (try (rw [Bool.eq_iff_iff]; simp; done))
  all_goals (try (rw [Bool.eq_iff_iff]; simp; omega))
  all_goals (try (intros; omega))
  all_goals (try grind)

theorem law_zz (a b : List Int) (ha : a.length ≤ 1048576) (hb : b.length ≤ 1048576) (hva : ∀ z ∈ a, 0 ≤ z ∧ z < 256) (hvb : ∀ z ∈ b, 0 ≤ z ∧ z < 256) (l q : List Mv) (sp : Int) (locs : List Int) (e1 : (drawSeq a).1 = l) (e2 : (drawSeq a).2 = sp) (e0 : (movesOf (srcOf b)).2 = q) (e3 : drawLocs b = locs) (x : List Mv) (e4 : seqAns l sp = x) (z : List Int) (e5 : mao l locs = z) (hll : l.length ≤ 1048576) (hlo : locs.length ≤ 1048576) (hlx : x.length ≤ 1048576) (hx : x ≠ []) (hz : z = []) : Con Try.prog 10 [bRows 1 B1 a, bRows 1 B1 b] [] (V.bool true) [] := by
  have h1 : DUM = 0 := rfl
  have h2 : DUM = 0 := rfl
  have hq1 : DUM = 0 := rfl
  have hq2 : DUM = 0 := rfl
  have hx0 : DUM = 0 := rfl
  have hz0 : DUM = 0 := rfl
  have hyl0 : DUM = 0 := rfl
  have hzl0 : DUM = 0 := rfl
  have hq1 : l.length * 24 ≤ 35184372088832 := by omega
  have hq2 : l.length ≤ 35184372088832 := by omega
  have h1 : ¬ (1048576 : Int) < a.length := by omega
  have h2 : ¬ (1048576 : Int) < b.length := by omega
  have hx0 : ((x.length : Int) == 0) = false := len_ne0 hx
  have hz0 : ((z.length : Int) == 0) = true := by rw [hz]; rfl

  refine con_of_aw Try.func10 rfl Try.call10 (by simp [Try.ntmps10]) (by simp [V.inNs, V.inN]) (by simp [C.inN, V.inNss, V.inNs, V.inN, inNss_dd]) (by simp [V.inNs, V.inN]) (by simp [C.inN, V.inNss, V.inNs, V.inN, inNss_dd]) rfl ?_
  rw [Try.ntmps10, Try.results10]
  simp only [entryS, entryO, Nat.reduceAdd, List.length_nil, List.length_cons]
  repeat' (first
    | with_reducible refine aw_seq ?_
    | with_reducible refine aw_reg ?_
    | with_reducible refine aw_ret ?_
    | with_reducible refine aw_skip ?_
    | with_reducible refine aw_block ?_
    | with_reducible refine aw_exit ?_
    | with_reducible refine seqQ_normal ?_
    | with_reducible refine seqQ_ret ?_
    | with_reducible refine seqQ_exit ?_
    | with_reducible refine blockQ_normal ?_
    | with_reducible refine blockQ_ret ?_
    | with_reducible refine blockQ_this ?_
    | with_reducible refine blockQ_other (by decide) ?_
    | with_reducible refine regW_nil ?_
    | with_reducible refine aw_draw mixed ?_
    | (with_reducible refine regD_nil ?_
       refine ⟨by kernel_rfl, ?_⟩)
    | with_reducible refine retQ_ret ?_
    | with_reducible refine retQ_normal ?_
    | (first
        | ((with_reducible refine gh_ret ?_); simp only [RetW])
        | (with_reducible refine call_data (k_right hlx e7) rfl ?_)
        | ((with_reducible apply call_auto (f := 21))
           · simp only [lendAL, lendA, Option.bind_some, Option.map_some, undd_dd, dd_length, dd_take, dd_drop, List.length_map, List.length_range, Nat.zero_add, Nat.add_zero, Nat.le_refl, true_and, and_true, and_self, take_len_map, take_marks, List.drop_zero, C.o.injEq, V.d.injEq, putSt, lk, Res.s.injEq, Res.r.injEq, reduceCtorEq, Nat.reduceEqDiff, if_true, if_false, lend_mv, lend_n1, lend_b1, take_len_map, take_marks, lend_mv, lend_n1, beq_self_eq_true, bne_self_eq_false, decide_true, Int.reduceNeg, Int.reduceLT, C.ren, V.ren, renLL_dd, objsP, List.length_map, List.length_range, List.getD_cons_zero, gt_iff_lt, h1, h2, hq1, hq2, Mv.cells, N1, src_eq2, chunks, List.replicate, List.flatten_nil, List.flatten_cons, buildSliceP, plain_mv, List.map_nil, List.nil_append, List.length_nil, buildP, putParts, structPlaces, setSeg, binP, fk57, cellsEq, cellEq, Option.bind_some, Option.map_some, Option.bind_eq_bind, hx0, hz0, hyl0, hzl0, List.getElem?_toArray]; rfl
           · with_reducible exact k_right hlx e7
           · first | rfl | exact nb_rows (fun _ => rfl) _ _
           simp only [V.namesOf, V.namesOfL, List.foldl_cons, List.foldl_nil, List.nil_append, List.append_nil, List.cons_append])
        | (with_reducible refine call_data (k_done hlx hlo e6) rfl ?_)
        | ((with_reducible apply call_auto (f := 25))
           · simp only [lendAL, lendA, Option.bind_some, Option.map_some, undd_dd, dd_length, dd_take, dd_drop, List.length_map, List.length_range, Nat.zero_add, Nat.add_zero, Nat.le_refl, true_and, and_true, and_self, take_len_map, take_marks, List.drop_zero, C.o.injEq, V.d.injEq, putSt, lk, Res.s.injEq, Res.r.injEq, reduceCtorEq, Nat.reduceEqDiff, if_true, if_false, lend_mv, lend_n1, lend_b1, take_len_map, take_marks, lend_mv, lend_n1, beq_self_eq_true, bne_self_eq_false, decide_true, Int.reduceNeg, Int.reduceLT, C.ren, V.ren, renLL_dd, objsP, List.length_map, List.length_range, List.getD_cons_zero, gt_iff_lt, h1, h2, hq1, hq2, Mv.cells, N1, src_eq2, chunks, List.replicate, List.flatten_nil, List.flatten_cons, buildSliceP, plain_mv, List.map_nil, List.nil_append, List.length_nil, buildP, putParts, structPlaces, setSeg, binP, fk57, cellsEq, cellEq, Option.bind_some, Option.map_some, Option.bind_eq_bind, hx0, hz0, hyl0, hzl0, List.getElem?_toArray]; rfl
           · with_reducible exact k_done hlx hlo e6
           · first | rfl | exact nb_rows (fun _ => rfl) _ _
           simp only [V.namesOf, V.namesOfL, List.foldl_cons, List.foldl_nil, List.nil_append, List.append_nil, List.cons_append])
        | (with_reducible refine call_data (k_specMao hll hlo e5) rfl ?_)
        | ((with_reducible apply call_auto (f := 30))
           · simp only [lendAL, lendA, Option.bind_some, Option.map_some, undd_dd, dd_length, dd_take, dd_drop, List.length_map, List.length_range, Nat.zero_add, Nat.add_zero, Nat.le_refl, true_and, and_true, and_self, take_len_map, take_marks, List.drop_zero, C.o.injEq, V.d.injEq, putSt, lk, Res.s.injEq, Res.r.injEq, reduceCtorEq, Nat.reduceEqDiff, if_true, if_false, lend_mv, lend_n1, lend_b1, take_len_map, take_marks, lend_mv, lend_n1, beq_self_eq_true, bne_self_eq_false, decide_true, Int.reduceNeg, Int.reduceLT, C.ren, V.ren, renLL_dd, objsP, List.length_map, List.length_range, List.getD_cons_zero, gt_iff_lt, h1, h2, hq1, hq2, Mv.cells, N1, src_eq2, chunks, List.replicate, List.flatten_nil, List.flatten_cons, buildSliceP, plain_mv, List.map_nil, List.nil_append, List.length_nil, buildP, putParts, structPlaces, setSeg, binP, fk57, cellsEq, cellEq, Option.bind_some, Option.map_some, Option.bind_eq_bind, hx0, hz0, hyl0, hzl0, List.getElem?_toArray]; rfl
           · with_reducible exact k_specMao hll hlo e5
           · first | rfl | exact nb_rows (fun _ => rfl) _ _
           simp only [V.namesOf, V.namesOfL, List.foldl_cons, List.foldl_nil, List.nil_append, List.append_nil, List.cons_append])
        | (with_reducible refine call_data (k_implMao hll hlo e5) rfl ?_)
        | ((with_reducible apply call_auto (f := 31))
           · simp only [lendAL, lendA, Option.bind_some, Option.map_some, undd_dd, dd_length, dd_take, dd_drop, List.length_map, List.length_range, Nat.zero_add, Nat.add_zero, Nat.le_refl, true_and, and_true, and_self, take_len_map, take_marks, List.drop_zero, C.o.injEq, V.d.injEq, putSt, lk, Res.s.injEq, Res.r.injEq, reduceCtorEq, Nat.reduceEqDiff, if_true, if_false, lend_mv, lend_n1, lend_b1, take_len_map, take_marks, lend_mv, lend_n1, beq_self_eq_true, bne_self_eq_false, decide_true, Int.reduceNeg, Int.reduceLT, C.ren, V.ren, renLL_dd, objsP, List.length_map, List.length_range, List.getD_cons_zero, gt_iff_lt, h1, h2, hq1, hq2, Mv.cells, N1, src_eq2, chunks, List.replicate, List.flatten_nil, List.flatten_cons, buildSliceP, plain_mv, List.map_nil, List.nil_append, List.length_nil, buildP, putParts, structPlaces, setSeg, binP, fk57, cellsEq, cellEq, Option.bind_some, Option.map_some, Option.bind_eq_bind, hx0, hz0, hyl0, hzl0, List.getElem?_toArray]; rfl
           · with_reducible exact k_implMao hll hlo e5
           · first | rfl | exact nb_rows (fun _ => rfl) _ _
           simp only [V.namesOf, V.namesOfL, List.foldl_cons, List.foldl_nil, List.nil_append, List.append_nil, List.cons_append])
        | (with_reducible refine call_data (k_cyc hll e8) rfl ?_)
        | ((with_reducible apply call_auto (f := 33))
           · simp only [lendAL, lendA, Option.bind_some, Option.map_some, undd_dd, dd_length, dd_take, dd_drop, List.length_map, List.length_range, Nat.zero_add, Nat.add_zero, Nat.le_refl, true_and, and_true, and_self, take_len_map, take_marks, List.drop_zero, C.o.injEq, V.d.injEq, putSt, lk, Res.s.injEq, Res.r.injEq, reduceCtorEq, Nat.reduceEqDiff, if_true, if_false, lend_mv, lend_n1, lend_b1, take_len_map, take_marks, lend_mv, lend_n1, beq_self_eq_true, bne_self_eq_false, decide_true, Int.reduceNeg, Int.reduceLT, C.ren, V.ren, renLL_dd, objsP, List.length_map, List.length_range, List.getD_cons_zero, gt_iff_lt, h1, h2, hq1, hq2, Mv.cells, N1, src_eq2, chunks, List.replicate, List.flatten_nil, List.flatten_cons, buildSliceP, plain_mv, List.map_nil, List.nil_append, List.length_nil, buildP, putParts, structPlaces, setSeg, binP, fk57, cellsEq, cellEq, Option.bind_some, Option.map_some, Option.bind_eq_bind, hx0, hz0, hyl0, hzl0, List.getElem?_toArray]; rfl
           · with_reducible exact k_cyc hll e8
           · first | rfl | exact nb_rows (fun _ => rfl) _ _
           simp only [V.namesOf, V.namesOfL, List.foldl_cons, List.foldl_nil, List.nil_append, List.append_nil, List.cons_append])
        | (with_reducible refine call_data (k_specSeq hll e4) rfl ?_)
        | ((with_reducible apply call_auto (f := 34))
           · simp only [lendAL, lendA, Option.bind_some, Option.map_some, undd_dd, dd_length, dd_take, dd_drop, List.length_map, List.length_range, Nat.zero_add, Nat.add_zero, Nat.le_refl, true_and, and_true, and_self, take_len_map, take_marks, List.drop_zero, C.o.injEq, V.d.injEq, putSt, lk, Res.s.injEq, Res.r.injEq, reduceCtorEq, Nat.reduceEqDiff, if_true, if_false, lend_mv, lend_n1, lend_b1, take_len_map, take_marks, lend_mv, lend_n1, beq_self_eq_true, bne_self_eq_false, decide_true, Int.reduceNeg, Int.reduceLT, C.ren, V.ren, renLL_dd, objsP, List.length_map, List.length_range, List.getD_cons_zero, gt_iff_lt, h1, h2, hq1, hq2, Mv.cells, N1, src_eq2, chunks, List.replicate, List.flatten_nil, List.flatten_cons, buildSliceP, plain_mv, List.map_nil, List.nil_append, List.length_nil, buildP, putParts, structPlaces, setSeg, binP, fk57, cellsEq, cellEq, Option.bind_some, Option.map_some, Option.bind_eq_bind, hx0, hz0, hyl0, hzl0, List.getElem?_toArray]; rfl
           · with_reducible exact k_specSeq hll e4
           · first | rfl | exact nb_rows (fun _ => rfl) _ _
           simp only [V.namesOf, V.namesOfL, List.foldl_cons, List.foldl_nil, List.nil_append, List.append_nil, List.cons_append])
        | (with_reducible refine call_data (k_implSeq hll e4) rfl ?_)
        | ((with_reducible apply call_auto (f := 35))
           · simp only [lendAL, lendA, Option.bind_some, Option.map_some, undd_dd, dd_length, dd_take, dd_drop, List.length_map, List.length_range, Nat.zero_add, Nat.add_zero, Nat.le_refl, true_and, and_true, and_self, take_len_map, take_marks, List.drop_zero, C.o.injEq, V.d.injEq, putSt, lk, Res.s.injEq, Res.r.injEq, reduceCtorEq, Nat.reduceEqDiff, if_true, if_false, lend_mv, lend_n1, lend_b1, take_len_map, take_marks, lend_mv, lend_n1, beq_self_eq_true, bne_self_eq_false, decide_true, Int.reduceNeg, Int.reduceLT, C.ren, V.ren, renLL_dd, objsP, List.length_map, List.length_range, List.getD_cons_zero, gt_iff_lt, h1, h2, hq1, hq2, Mv.cells, N1, src_eq2, chunks, List.replicate, List.flatten_nil, List.flatten_cons, buildSliceP, plain_mv, List.map_nil, List.nil_append, List.length_nil, buildP, putParts, structPlaces, setSeg, binP, fk57, cellsEq, cellEq, Option.bind_some, Option.map_some, Option.bind_eq_bind, hx0, hz0, hyl0, hzl0, List.getElem?_toArray]; rfl
           · with_reducible exact k_implSeq hll e4
           · first | rfl | exact nb_rows (fun _ => rfl) _ _
           simp only [V.namesOf, V.namesOfL, List.foldl_cons, List.foldl_nil, List.nil_append, List.append_nil, List.cons_append])
        | (with_reducible refine call_data (k_dseq ha hva e1 e2) rfl ?_)
        | ((with_reducible apply call_auto (f := 37))
           · simp only [lendAL, lendA, Option.bind_some, Option.map_some, undd_dd, dd_length, dd_take, dd_drop, List.length_map, List.length_range, Nat.zero_add, Nat.add_zero, Nat.le_refl, true_and, and_true, and_self, take_len_map, take_marks, List.drop_zero, C.o.injEq, V.d.injEq, putSt, lk, Res.s.injEq, Res.r.injEq, reduceCtorEq, Nat.reduceEqDiff, if_true, if_false, lend_mv, lend_n1, lend_b1, take_len_map, take_marks, lend_mv, lend_n1, beq_self_eq_true, bne_self_eq_false, decide_true, Int.reduceNeg, Int.reduceLT, C.ren, V.ren, renLL_dd, objsP, List.length_map, List.length_range, List.getD_cons_zero, gt_iff_lt, h1, h2, hq1, hq2, Mv.cells, N1, src_eq2, chunks, List.replicate, List.flatten_nil, List.flatten_cons, buildSliceP, plain_mv, List.map_nil, List.nil_append, List.length_nil, buildP, putParts, structPlaces, setSeg, binP, fk57, cellsEq, cellEq, Option.bind_some, Option.map_some, Option.bind_eq_bind, hx0, hz0, hyl0, hzl0, List.getElem?_toArray]; rfl
           · with_reducible exact k_dseq ha hva e1 e2
           · first | rfl | exact nb_rows (fun _ => rfl) _ _
           simp only [V.namesOf, V.namesOfL, List.foldl_cons, List.foldl_nil, List.nil_append, List.append_nil, List.cons_append])
        | (with_reducible refine call_data (k_dlocs hb hvb e0 e3) rfl ?_)
        | ((with_reducible apply call_auto (f := 38))
           · simp only [lendAL, lendA, Option.bind_some, Option.map_some, undd_dd, dd_length, dd_take, dd_drop, List.length_map, List.length_range, Nat.zero_add, Nat.add_zero, Nat.le_refl, true_and, and_true, and_self, take_len_map, take_marks, List.drop_zero, C.o.injEq, V.d.injEq, putSt, lk, Res.s.injEq, Res.r.injEq, reduceCtorEq, Nat.reduceEqDiff, if_true, if_false, lend_mv, lend_n1, lend_b1, take_len_map, take_marks, lend_mv, lend_n1, beq_self_eq_true, bne_self_eq_false, decide_true, Int.reduceNeg, Int.reduceLT, C.ren, V.ren, renLL_dd, objsP, List.length_map, List.length_range, List.getD_cons_zero, gt_iff_lt, h1, h2, hq1, hq2, Mv.cells, N1, src_eq2, chunks, List.replicate, List.flatten_nil, List.flatten_cons, buildSliceP, plain_mv, List.map_nil, List.nil_append, List.length_nil, buildP, putParts, structPlaces, setSeg, binP, fk57, cellsEq, cellEq, Option.bind_some, Option.map_some, Option.bind_eq_bind, hx0, hz0, hyl0, hzl0, List.getElem?_toArray]; rfl
           · with_reducible exact k_dlocs hb hvb e0 e3
           · first | rfl | exact nb_rows (fun _ => rfl) _ _
           simp only [V.namesOf, V.namesOfL, List.foldl_cons, List.foldl_nil, List.nil_append, List.append_nil, List.cons_append])
        | (with_reducible apply regD_op
           · simp only [dstOk, Nat.reduceLT]
           · simp only [Nat.reduceAdd]; rfl
           intro k hk
           simp only [stepP])
        | (with_reducible apply regW_op
           · simp only [dstOk, Nat.reduceLT]
           · simp only [Nat.reduceAdd]; rfl
           intro k hk)
       try simp only [opC, opP, fetchN, fetchP, fetchAll, fetchO, Prog.bind, Prog.wp, Prog.wp_bind, lk, nameP, nameAll, Value.oneCell', putSt, stepP, putP, Res.s.injEq, Res.r.injEq, reduceCtorEq, V.lin, V.linL, D.lin, isNil, binP, unP, intBin, BinOp.isShift, Prog.ofO, true_and, and_true, Nat.reduceAdd, Nat.reduceMul, Nat.reduceSub, Nat.reduceLT, Nat.reduceLeDiff, Nat.reduceEqDiff, Nat.add_zero, Nat.zero_add, Nat.le_refl, if_true, if_false, ite_true, ite_false, Bool.false_eq_true, List.length_nil, List.length_cons, Bool.not_true, Bool.not_false, Bool.or_false, Bool.or_true, fieldAddrP, fieldP, indexAddrP, loadP, storeP, boxP, allocP, cellsP, asVal, setSeg, outP, TyK.field, TyK.agg, zeroRow, List.getElem?_cons_zero, List.getElem?_cons_succ, List.take_succ_cons, List.take_zero, List.drop_succ_cons, List.drop_zero, List.set_cons_zero, List.set_cons_succ, List.nil_append, List.cons_append, List.append_nil, List.map_cons, List.map_nil, V.ren, V.renL, List.forall_mem_cons, List.not_mem_nil, List.mem_cons, forall_eq_or_imp, implies_true, false_implies, forall_const, and_self, true_or, minmaxP, lenP, lenOf, lenStr, V.asInt, Int.toNat_natCast, List.length_map, List.getElem?_map, Option.map_some, Int.ofNat_lt, Int.natCast_nonneg, decide_true, decide_false, Int.cast_ofNat_Int, nat_lt_zero, nat_one, nat_zero, dd_length, dd_get, dd_take, dd_drop, resGo_dd, undd_dd, take_len_map, take_marks, List.length_replicate, sliceP, boundP, makeSliceP, convertP, appendP, rowsOfP, ontoP, sizeFits, V.rowSize, TyK.src, resV, resV.go, resV.gol, retP, retOne, retAll, resTo, objsAre, ty2, ty3, ty4, ty5, ty37, ty41, ty51, ty57, ty59, take_len_map, take_marks, lend_mv, lend_n1, beq_self_eq_true, bne_self_eq_false, decide_true, Int.reduceNeg, Int.reduceLT, C.ren, V.ren, renLL_dd, objsP, List.length_map, List.length_range, List.getD_cons_zero, gt_iff_lt, h1, h2, hq1, hq2, Mv.cells, N1, src_eq2, chunks, List.replicate, List.flatten_nil, List.flatten_cons, buildSliceP, plain_mv, List.map_nil, List.nil_append, List.length_nil, buildP, putParts, structPlaces, setSeg, binP, fk57, cellsEq, cellEq, Option.bind_some, Option.map_some, Option.bind_eq_bind, hx0, hz0, hyl0, hzl0, List.getElem?_toArray]
       try (refine hk _ _ _ _ ?_; clear hk k))
    | (with_reducible apply regW_skip
       · simp only [dstOk, Nat.reduceLT]
       · rfl
       · simp only [putSt, lk, Res.s.injEq, Res.r.injEq, reduceCtorEq, Nat.reduceEqDiff, if_true, if_false]; done)
    | (with_reducible apply regW_yesN
       · simp only [dstOk, Nat.reduceLT]
       · rfl
       · simp only [putSt, lk, Res.s.injEq, Res.r.injEq, reduceCtorEq, Nat.reduceEqDiff, if_true, if_false]; done)
    | (with_reducible apply regW_no
       · simp only [dstOk, Nat.reduceLT]
       · rfl
       · simp only [putSt, lk, Res.s.injEq, Res.r.injEq, reduceCtorEq, Nat.reduceEqDiff, if_true, if_false, Bool.not_true, Bool.not_false]; done)
    | (with_reducible apply regW_guardN
       · simp only [dstOk, Nat.reduceLT]
       · rfl
       · simp only [putSt, lk, Res.s.injEq, Res.r.injEq, reduceCtorEq, Nat.reduceEqDiff, if_true, if_false]; rfl
       intro hb
       rotate_left
       intro hb)
    | (with_reducible apply aw_cond
       · simp only [putSt, lk, Res.s.injEq, Res.r.injEq, reduceCtorEq, Nat.reduceEqDiff, if_true, if_false]; rfl
       all_goals (intro hc; try (cases hc; done))))

  all_goals (try (simp_all))
  all_goals (try rfl)
  all_goals (try (rw [Bool.eq_iff_iff]; simp; done))
  all_goals (try (rw [Bool.eq_iff_iff]; simp; omega))
  all_goals (try (intros; omega))
  all_goals (try grind)

theorem law_main (a b : List Int) (ha : a.length ≤ 1048576) (hb : b.length ≤ 1048576) (hva : ∀ z ∈ a, 0 ≤ z ∧ z < 256) (hvb : ∀ z ∈ b, 0 ≤ z ∧ z < 256) (l q : List Mv) (sp : Int) (locs : List Int) (e1 : (drawSeq a).1 = l) (e2 : (drawSeq a).2 = sp) (e0 : (movesOf (srcOf b)).2 = q) (e3 : drawLocs b = locs) (x : List Mv) (e4 : seqAns l sp = x) (z : List Int) (e5 : mao l locs = z) (hll : l.length ≤ 1048576) (hlo : locs.length ≤ 1048576) (hlx : x.length ≤ 1048576) (hx : x ≠ []) (hz : z ≠ []) (y : List Int) (e6 : mdone x locs = y) (e7 : (decide (x.length ≤ 40) && x.all movOk) = true) (cy : Int) (e8 : cycOf l = cy) (hlocs : locs.length = 22) (hlz : z.length = 22) (hly : y.length = 22) (hyz : ∀ i : Nat, i < 22 → (i : Int) ≠ sp → y.getD i 0 = z.getD i 0) (hfin : (x.length : Int) = ((flt l).length : Int) + cy) : Con Try.prog 10 [bRows 1 B1 a, bRows 1 B1 b] [] (V.bool true) [] := by
  have h_m : DUM = 0 := rfl
  have hw_m : DUM = 0 := rfl
  have hlt_m : DUM = 0 := rfl
  have hsm : DUM = 0 := rfl
  have hif : DUM = 0 := rfl
  have hw2 : DUM = 0 := rfl
  have h_k : DUM = 0 := rfl
  have hw_k : DUM = 0 := rfl
  have hlt_k : DUM = 0 := rfl
  have hwy : DUM = 0 := rfl
  have hwz : DUM = 0 := rfl
  have h_y : DUM = 0 := rfl
  have h_z : DUM = 0 := rfl
  have hne : DUM = 0 := rfl
  have hyz2 : DUM = 0 := rfl
  have hsub : DUM = 0 := rfl
  have hadd : DUM = 0 := rfl
  have h1 : DUM = 0 := rfl
  have h2 : DUM = 0 := rfl
  have hq1 : DUM = 0 := rfl
  have hq2 : DUM = 0 := rfl
  have hx0 : DUM = 0 := rfl
  have hz0 : DUM = 0 := rfl
  have hyl0 : DUM = 0 := rfl
  have hzl0 : DUM = 0 := rfl
  have hq1 : l.length * 24 ≤ 35184372088832 := by omega
  have hq2 : l.length ≤ 35184372088832 := by omega
  have h1 : ¬ (1048576 : Int) < a.length := by omega
  have h2 : ¬ (1048576 : Int) < b.length := by omega
  have hx0 : ((x.length : Int) == 0) = false := len_ne0 hx
  have hz0 : ((z.length : Int) == 0) = false := len_ne0 hz
  have hyl0 : ((y.length : Int) != (locs.length : Int)) = false := by rw [hly, hlocs]; rfl
  have hzl0 : ((z.length : Int) != (locs.length : Int)) = false := by rw [hlz, hlocs]; rfl

  refine con_of_aw Try.func10 rfl Try.call10 (by simp [Try.ntmps10]) (by simp [V.inNs, V.inN]) (by simp [C.inN, V.inNss, V.inNs, V.inN, inNss_dd]) (by simp [V.inNs, V.inN]) (by simp [C.inN, V.inNss, V.inNs, V.inN, inNss_dd]) rfl ?_
  rw [Try.ntmps10, Try.results10]
  simp only [entryS, entryO, Nat.reduceAdd, List.length_nil, List.length_cons]
  repeat' (first
    | with_reducible refine aw_seq ?_
    | with_reducible refine aw_reg ?_
    | with_reducible refine aw_ret ?_
    | with_reducible refine aw_skip ?_
    | with_reducible refine aw_block ?_
    | with_reducible refine aw_exit ?_
    | with_reducible refine seqQ_normal ?_
    | with_reducible refine seqQ_ret ?_
    | with_reducible refine seqQ_exit ?_
    | with_reducible refine blockQ_normal ?_
    | with_reducible refine blockQ_ret ?_
    | with_reducible refine blockQ_this ?_
    | with_reducible refine blockQ_other (by decide) ?_
    | with_reducible refine regW_nil ?_
    | with_reducible refine aw_draw mixed ?_
    | (with_reducible refine regD_nil ?_
       refine ⟨by kernel_rfl, ?_⟩)
    | with_reducible refine retQ_ret ?_
    | with_reducible refine retQ_normal ?_
    | ((with_reducible refine aw_loopA 1000000 (by decide) (fun u : Nat × Nat => [(.s 15, some (.v (V.int (u.1 : Nat)))), (.s 5, some (.v (.sl 640 3 0 l.length))), (.r 640, some (.o 3 (dd (l.map Mv.cells)))), (.s 6, some (.v (V.int sp))), (.s 8, some (.v (.sl 1089 1 0 locs.length))), (.r 1089, some (.o 1 (dd (locs.map N1)))), (.s 10, some (.v (.sl 1984 3 0 x.length))), (.r 1984, some (.o 3 (dd (x.map Mv.cells)))), (.s 11, some (.v (.sl 2560 1 0 z.length))), (.r 2560, some (.o 1 (dd (z.map N1)))), (.s 12, some (.v (.sl 3328 1 0 y.length))), (.r 3328, some (.o 1 (dd (y.map N1)))), (.s 13, some (.v (.sl 3584 1 0 z.length))), (.r 3584, some (.o 1 (dd (z.map N1)))), (.s 14, some (.v (V.int (u.2 : Nat))))]) (fun u => (l.length) - u.1) (fun u => u.1 ≤ l.length ∧ u.2 ≤ u.1 ∧ u.2 + (flt l).length = u.1 + (flt (l.drop u.1)).length) ((0, 0)) (by simp [slNL, C.inN, V.inN, V.inNs, V.inNss, inNss_dd, inNs_map_d, Src.cellsV]) (gh_to ?_) ?_ ?_)
       · simp only [SubL, putSt, lk, Res.s.injEq, Res.r.injEq, reduceCtorEq, Nat.reduceEqDiff, if_true, if_false, hif]; repeat' (first | apply And.intro | rfl | trivial)
       · simp
       intro u hJ
       have hb_m : u.1 < 4611686018427387904 := by omega
       have hw_m := wrapS hb_m
       rcases Nat.lt_or_ge u.1 (l.length) with hlt_m | hge_m
       obtain ⟨m, h_m⟩ := list_get hlt_m
       have hd_m := drop_cons h_m
       rotate_left
       have hd_m := drop_nil hge_m
       have hlt_m := Nat.not_lt.2 hge_m
       rotate_left
       have hstp := flt_step h_m
       have hw2 := wrapS (show u.2 < 4611686018427387904 by have := hJ.2.1; omega)
       rcases Decidable.em (m.src = ⟨1, m.to⟩) with hse | hse
       have hsm : decide (m.src = ⟨1, m.to⟩) = true := decide_eq_true hse
       have hif : (if m.src = ⟨1, m.to⟩ then 1 else 0) = 1 := if_pos hse
       rw [if_pos hse] at hstp
       rotate_left
       have hsm : decide (m.src = ⟨1, m.to⟩) = false := decide_eq_false hse
       have hif : (if m.src = ⟨1, m.to⟩ then 1 else 0) = 0 := if_neg hse
       rw [if_neg hse] at hstp
       rotate_left
)
    | ((with_reducible refine aw_loopA 2000000 (by decide) (fun w : Nat => [(.s 16, some (.v (V.int (w : Nat)))), (.s 5, some (.v (.sl 640 3 0 l.length))), (.r 640, some (.o 3 (dd (l.map Mv.cells)))), (.s 6, some (.v (V.int sp))), (.s 8, some (.v (.sl 1089 1 0 locs.length))), (.r 1089, some (.o 1 (dd (locs.map N1)))), (.s 10, some (.v (.sl 1984 3 0 x.length))), (.r 1984, some (.o 3 (dd (x.map Mv.cells)))), (.s 11, some (.v (.sl 2560 1 0 z.length))), (.r 2560, some (.o 1 (dd (z.map N1)))), (.s 12, some (.v (.sl 3328 1 0 y.length))), (.r 3328, some (.o 1 (dd (y.map N1)))), (.s 13, some (.v (.sl 3584 1 0 z.length))), (.r 3584, some (.o 1 (dd (z.map N1)))), (.s 14, some (.v (V.int (u.2 : Nat))))]) (fun w => (locs.length) - w) (fun w => w ≤ locs.length) (0) (by simp [slNL, C.inN, V.inN, V.inNs, V.inNss, inNss_dd, inNs_map_d, Src.cellsV]) (gh_to ?_) ?_ ?_)
       · simp only [SubL, putSt, lk, Res.s.injEq, Res.r.injEq, reduceCtorEq, Nat.reduceEqDiff, if_true, if_false]; repeat' (first | apply And.intro | rfl | trivial)
       · omega
       intro w hwJ
       have hb_k : w < 4611686018427387904 := by omega
       have hw_k := wrapS hb_k
       rcases Nat.lt_or_ge w (locs.length) with hlt_k | hge_k
       obtain ⟨k, h_k⟩ := list_get hlt_k
       have hd_k := drop_cons h_k
       rotate_left
       have hd_k := drop_nil hge_k
       have hlt_k := Nat.not_lt.2 hge_k
       rotate_left
       rotate_left
       have hlen0 : (flt (l.drop u.1)).length = 0 := by rw [hd_m]; rfl
       have hsub : IntKind.i64.wrap ((l.length : Int) - (u.2 : Nat)) = ((flt l).length : Int) := by rw [wrapIn] <;> omega
       have hadd : IntKind.i64.wrap (((flt l).length : Int) + cy) = (x.length : Int) := by rw [← hfin, wrapIn] <;> omega
       rotate_left
       have hwy : w < y.length := by omega
       have hwz : w < z.length := by omega
       obtain ⟨yv, h_y⟩ := list_get hwy
       obtain ⟨zv, h_z⟩ := list_get hwz
       rcases Int.decEq (w : Int) sp with hws | hws
       have hne : ((w : Int) != sp) = true := by simpa using hws
       have hyz2 : (yv != zv) = false := by have hh := hyz w (by omega) hws; simp only [List.getD_eq_getElem?_getD, h_y, h_z, Option.getD_some] at hh; simp [hh]
       rotate_left
       have hne : ((w : Int) != sp) = false := by simpa using hws
       rotate_left
)
    | ((with_reducible refine next_to ((u.1 + 1, u.2 + (if m.src = ⟨1, m.to⟩ then 1 else 0))) (by decide) (by simp [slNL, C.inN, V.inN, V.inNs, V.inNss, inNss_dd, inNs_map_d, Src.cellsV]) ?_ ?_ ?_)
       · simp only [SubL, putSt, lk, Res.s.injEq, Res.r.injEq, reduceCtorEq, Nat.reduceEqDiff, if_true, if_false, hif]; repeat' (first | apply And.intro | rfl | trivial)
       · first | omega | (simp only [hif]; omega)
       · first | omega | (simp only [hif]; omega))
    | ((with_reducible refine next_to (w + 1) (by decide) (by simp [slNL, C.inN, V.inN, V.inNs, V.inNss, inNss_dd, inNs_map_d, Src.cellsV]) ?_ ?_ ?_)
       · simp only [SubL, putSt, lk, Res.s.injEq, Res.r.injEq, reduceCtorEq, Nat.reduceEqDiff, if_true, if_false]; repeat' (first | apply And.intro | rfl | trivial)
       · omega
       · omega)
    | (first
        | ((with_reducible refine gh_ret ?_); simp only [RetW])
        | (with_reducible refine call_data (k_right hlx e7) rfl ?_)
        | ((with_reducible apply call_auto (f := 21))
           · simp only [lendAL, lendA, Option.bind_some, Option.map_some, undd_dd, dd_length, dd_take, dd_drop, List.length_map, List.length_range, Nat.zero_add, Nat.add_zero, Nat.le_refl, true_and, and_true, and_self, take_len_map, take_marks, List.drop_zero, C.o.injEq, V.d.injEq, putSt, lk, Res.s.injEq, Res.r.injEq, reduceCtorEq, Nat.reduceEqDiff, if_true, if_false, lend_mv, lend_n1, lend_b1, take_len_map, take_marks, lend_mv, lend_n1, beq_self_eq_true, bne_self_eq_false, decide_true, Int.reduceNeg, Int.reduceLT, C.ren, V.ren, renLL_dd, objsP, List.length_map, List.length_range, List.getD_cons_zero, gt_iff_lt, h1, h2, hq1, hq2, Mv.cells, N1, src_eq2, chunks, List.replicate, List.flatten_nil, List.flatten_cons, buildSliceP, plain_mv, List.map_nil, List.nil_append, List.length_nil, buildP, putParts, structPlaces, setSeg, binP, fk57, cellsEq, cellEq, Option.bind_some, Option.map_some, Option.bind_eq_bind, hx0, hz0, hyl0, hzl0, List.getElem?_toArray]; rfl
           · with_reducible exact k_right hlx e7
           · first | rfl | exact nb_rows (fun _ => rfl) _ _
           simp only [V.namesOf, V.namesOfL, List.foldl_cons, List.foldl_nil, List.nil_append, List.append_nil, List.cons_append])
        | (with_reducible refine call_data (k_done hlx hlo e6) rfl ?_)
        | ((with_reducible apply call_auto (f := 25))
           · simp only [lendAL, lendA, Option.bind_some, Option.map_some, undd_dd, dd_length, dd_take, dd_drop, List.length_map, List.length_range, Nat.zero_add, Nat.add_zero, Nat.le_refl, true_and, and_true, and_self, take_len_map, take_marks, List.drop_zero, C.o.injEq, V.d.injEq, putSt, lk, Res.s.injEq, Res.r.injEq, reduceCtorEq, Nat.reduceEqDiff, if_true, if_false, lend_mv, lend_n1, lend_b1, take_len_map, take_marks, lend_mv, lend_n1, beq_self_eq_true, bne_self_eq_false, decide_true, Int.reduceNeg, Int.reduceLT, C.ren, V.ren, renLL_dd, objsP, List.length_map, List.length_range, List.getD_cons_zero, gt_iff_lt, h1, h2, hq1, hq2, Mv.cells, N1, src_eq2, chunks, List.replicate, List.flatten_nil, List.flatten_cons, buildSliceP, plain_mv, List.map_nil, List.nil_append, List.length_nil, buildP, putParts, structPlaces, setSeg, binP, fk57, cellsEq, cellEq, Option.bind_some, Option.map_some, Option.bind_eq_bind, hx0, hz0, hyl0, hzl0, List.getElem?_toArray]; rfl
           · with_reducible exact k_done hlx hlo e6
           · first | rfl | exact nb_rows (fun _ => rfl) _ _
           simp only [V.namesOf, V.namesOfL, List.foldl_cons, List.foldl_nil, List.nil_append, List.append_nil, List.cons_append])
        | (with_reducible refine call_data (k_specMao hll hlo e5) rfl ?_)
        | ((with_reducible apply call_auto (f := 30))
           · simp only [lendAL, lendA, Option.bind_some, Option.map_some, undd_dd, dd_length, dd_take, dd_drop, List.length_map, List.length_range, Nat.zero_add, Nat.add_zero, Nat.le_refl, true_and, and_true, and_self, take_len_map, take_marks, List.drop_zero, C.o.injEq, V.d.injEq, putSt, lk, Res.s.injEq, Res.r.injEq, reduceCtorEq, Nat.reduceEqDiff, if_true, if_false, lend_mv, lend_n1, lend_b1, take_len_map, take_marks, lend_mv, lend_n1, beq_self_eq_true, bne_self_eq_false, decide_true, Int.reduceNeg, Int.reduceLT, C.ren, V.ren, renLL_dd, objsP, List.length_map, List.length_range, List.getD_cons_zero, gt_iff_lt, h1, h2, hq1, hq2, Mv.cells, N1, src_eq2, chunks, List.replicate, List.flatten_nil, List.flatten_cons, buildSliceP, plain_mv, List.map_nil, List.nil_append, List.length_nil, buildP, putParts, structPlaces, setSeg, binP, fk57, cellsEq, cellEq, Option.bind_some, Option.map_some, Option.bind_eq_bind, hx0, hz0, hyl0, hzl0, List.getElem?_toArray]; rfl
           · with_reducible exact k_specMao hll hlo e5
           · first | rfl | exact nb_rows (fun _ => rfl) _ _
           simp only [V.namesOf, V.namesOfL, List.foldl_cons, List.foldl_nil, List.nil_append, List.append_nil, List.cons_append])
        | (with_reducible refine call_data (k_implMao hll hlo e5) rfl ?_)
        | ((with_reducible apply call_auto (f := 31))
           · simp only [lendAL, lendA, Option.bind_some, Option.map_some, undd_dd, dd_length, dd_take, dd_drop, List.length_map, List.length_range, Nat.zero_add, Nat.add_zero, Nat.le_refl, true_and, and_true, and_self, take_len_map, take_marks, List.drop_zero, C.o.injEq, V.d.injEq, putSt, lk, Res.s.injEq, Res.r.injEq, reduceCtorEq, Nat.reduceEqDiff, if_true, if_false, lend_mv, lend_n1, lend_b1, take_len_map, take_marks, lend_mv, lend_n1, beq_self_eq_true, bne_self_eq_false, decide_true, Int.reduceNeg, Int.reduceLT, C.ren, V.ren, renLL_dd, objsP, List.length_map, List.length_range, List.getD_cons_zero, gt_iff_lt, h1, h2, hq1, hq2, Mv.cells, N1, src_eq2, chunks, List.replicate, List.flatten_nil, List.flatten_cons, buildSliceP, plain_mv, List.map_nil, List.nil_append, List.length_nil, buildP, putParts, structPlaces, setSeg, binP, fk57, cellsEq, cellEq, Option.bind_some, Option.map_some, Option.bind_eq_bind, hx0, hz0, hyl0, hzl0, List.getElem?_toArray]; rfl
           · with_reducible exact k_implMao hll hlo e5
           · first | rfl | exact nb_rows (fun _ => rfl) _ _
           simp only [V.namesOf, V.namesOfL, List.foldl_cons, List.foldl_nil, List.nil_append, List.append_nil, List.cons_append])
        | (with_reducible refine call_data (k_cyc hll e8) rfl ?_)
        | ((with_reducible apply call_auto (f := 33))
           · simp only [lendAL, lendA, Option.bind_some, Option.map_some, undd_dd, dd_length, dd_take, dd_drop, List.length_map, List.length_range, Nat.zero_add, Nat.add_zero, Nat.le_refl, true_and, and_true, and_self, take_len_map, take_marks, List.drop_zero, C.o.injEq, V.d.injEq, putSt, lk, Res.s.injEq, Res.r.injEq, reduceCtorEq, Nat.reduceEqDiff, if_true, if_false, lend_mv, lend_n1, lend_b1, take_len_map, take_marks, lend_mv, lend_n1, beq_self_eq_true, bne_self_eq_false, decide_true, Int.reduceNeg, Int.reduceLT, C.ren, V.ren, renLL_dd, objsP, List.length_map, List.length_range, List.getD_cons_zero, gt_iff_lt, h1, h2, hq1, hq2, Mv.cells, N1, src_eq2, chunks, List.replicate, List.flatten_nil, List.flatten_cons, buildSliceP, plain_mv, List.map_nil, List.nil_append, List.length_nil, buildP, putParts, structPlaces, setSeg, binP, fk57, cellsEq, cellEq, Option.bind_some, Option.map_some, Option.bind_eq_bind, hx0, hz0, hyl0, hzl0, List.getElem?_toArray]; rfl
           · with_reducible exact k_cyc hll e8
           · first | rfl | exact nb_rows (fun _ => rfl) _ _
           simp only [V.namesOf, V.namesOfL, List.foldl_cons, List.foldl_nil, List.nil_append, List.append_nil, List.cons_append])
        | (with_reducible refine call_data (k_specSeq hll e4) rfl ?_)
        | ((with_reducible apply call_auto (f := 34))
           · simp only [lendAL, lendA, Option.bind_some, Option.map_some, undd_dd, dd_length, dd_take, dd_drop, List.length_map, List.length_range, Nat.zero_add, Nat.add_zero, Nat.le_refl, true_and, and_true, and_self, take_len_map, take_marks, List.drop_zero, C.o.injEq, V.d.injEq, putSt, lk, Res.s.injEq, Res.r.injEq, reduceCtorEq, Nat.reduceEqDiff, if_true, if_false, lend_mv, lend_n1, lend_b1, take_len_map, take_marks, lend_mv, lend_n1, beq_self_eq_true, bne_self_eq_false, decide_true, Int.reduceNeg, Int.reduceLT, C.ren, V.ren, renLL_dd, objsP, List.length_map, List.length_range, List.getD_cons_zero, gt_iff_lt, h1, h2, hq1, hq2, Mv.cells, N1, src_eq2, chunks, List.replicate, List.flatten_nil, List.flatten_cons, buildSliceP, plain_mv, List.map_nil, List.nil_append, List.length_nil, buildP, putParts, structPlaces, setSeg, binP, fk57, cellsEq, cellEq, Option.bind_some, Option.map_some, Option.bind_eq_bind, hx0, hz0, hyl0, hzl0, List.getElem?_toArray]; rfl
           · with_reducible exact k_specSeq hll e4
           · first | rfl | exact nb_rows (fun _ => rfl) _ _
           simp only [V.namesOf, V.namesOfL, List.foldl_cons, List.foldl_nil, List.nil_append, List.append_nil, List.cons_append])
        | (with_reducible refine call_data (k_implSeq hll e4) rfl ?_)
        | ((with_reducible apply call_auto (f := 35))
           · simp only [lendAL, lendA, Option.bind_some, Option.map_some, undd_dd, dd_length, dd_take, dd_drop, List.length_map, List.length_range, Nat.zero_add, Nat.add_zero, Nat.le_refl, true_and, and_true, and_self, take_len_map, take_marks, List.drop_zero, C.o.injEq, V.d.injEq, putSt, lk, Res.s.injEq, Res.r.injEq, reduceCtorEq, Nat.reduceEqDiff, if_true, if_false, lend_mv, lend_n1, lend_b1, take_len_map, take_marks, lend_mv, lend_n1, beq_self_eq_true, bne_self_eq_false, decide_true, Int.reduceNeg, Int.reduceLT, C.ren, V.ren, renLL_dd, objsP, List.length_map, List.length_range, List.getD_cons_zero, gt_iff_lt, h1, h2, hq1, hq2, Mv.cells, N1, src_eq2, chunks, List.replicate, List.flatten_nil, List.flatten_cons, buildSliceP, plain_mv, List.map_nil, List.nil_append, List.length_nil, buildP, putParts, structPlaces, setSeg, binP, fk57, cellsEq, cellEq, Option.bind_some, Option.map_some, Option.bind_eq_bind, hx0, hz0, hyl0, hzl0, List.getElem?_toArray]; rfl
           · with_reducible exact k_implSeq hll e4
           · first | rfl | exact nb_rows (fun _ => rfl) _ _
           simp only [V.namesOf, V.namesOfL, List.foldl_cons, List.foldl_nil, List.nil_append, List.append_nil, List.cons_append])
        | (with_reducible refine call_data (k_dseq ha hva e1 e2) rfl ?_)
        | ((with_reducible apply call_auto (f := 37))
           · simp only [lendAL, lendA, Option.bind_some, Option.map_some, undd_dd, dd_length, dd_take, dd_drop, List.length_map, List.length_range, Nat.zero_add, Nat.add_zero, Nat.le_refl, true_and, and_true, and_self, take_len_map, take_marks, List.drop_zero, C.o.injEq, V.d.injEq, putSt, lk, Res.s.injEq, Res.r.injEq, reduceCtorEq, Nat.reduceEqDiff, if_true, if_false, lend_mv, lend_n1, lend_b1, take_len_map, take_marks, lend_mv, lend_n1, beq_self_eq_true, bne_self_eq_false, decide_true, Int.reduceNeg, Int.reduceLT, C.ren, V.ren, renLL_dd, objsP, List.length_map, List.length_range, List.getD_cons_zero, gt_iff_lt, h1, h2, hq1, hq2, Mv.cells, N1, src_eq2, chunks, List.replicate, List.flatten_nil, List.flatten_cons, buildSliceP, plain_mv, List.map_nil, List.nil_append, List.length_nil, buildP, putParts, structPlaces, setSeg, binP, fk57, cellsEq, cellEq, Option.bind_some, Option.map_some, Option.bind_eq_bind, hx0, hz0, hyl0, hzl0, List.getElem?_toArray]; rfl
           · with_reducible exact k_dseq ha hva e1 e2
           · first | rfl | exact nb_rows (fun _ => rfl) _ _
           simp only [V.namesOf, V.namesOfL, List.foldl_cons, List.foldl_nil, List.nil_append, List.append_nil, List.cons_append])
        | (with_reducible refine call_data (k_dlocs hb hvb e0 e3) rfl ?_)
        | ((with_reducible apply call_auto (f := 38))
           · simp only [lendAL, lendA, Option.bind_some, Option.map_some, undd_dd, dd_length, dd_take, dd_drop, List.length_map, List.length_range, Nat.zero_add, Nat.add_zero, Nat.le_refl, true_and, and_true, and_self, take_len_map, take_marks, List.drop_zero, C.o.injEq, V.d.injEq, putSt, lk, Res.s.injEq, Res.r.injEq, reduceCtorEq, Nat.reduceEqDiff, if_true, if_false, lend_mv, lend_n1, lend_b1, take_len_map, take_marks, lend_mv, lend_n1, beq_self_eq_true, bne_self_eq_false, decide_true, Int.reduceNeg, Int.reduceLT, C.ren, V.ren, renLL_dd, objsP, List.length_map, List.length_range, List.getD_cons_zero, gt_iff_lt, h1, h2, hq1, hq2, Mv.cells, N1, src_eq2, chunks, List.replicate, List.flatten_nil, List.flatten_cons, buildSliceP, plain_mv, List.map_nil, List.nil_append, List.length_nil, buildP, putParts, structPlaces, setSeg, binP, fk57, cellsEq, cellEq, Option.bind_some, Option.map_some, Option.bind_eq_bind, hx0, hz0, hyl0, hzl0, List.getElem?_toArray]; rfl
           · with_reducible exact k_dlocs hb hvb e0 e3
           · first | rfl | exact nb_rows (fun _ => rfl) _ _
           simp only [V.namesOf, V.namesOfL, List.foldl_cons, List.foldl_nil, List.nil_append, List.append_nil, List.cons_append])
        | (with_reducible apply regD_op
           · simp only [dstOk, Nat.reduceLT]
           · simp only [Nat.reduceAdd]; rfl
           intro k hk
           simp only [stepP])
        | (with_reducible apply regW_op
           · simp only [dstOk, Nat.reduceLT]
           · simp only [Nat.reduceAdd]; rfl
           intro k hk)
       try simp only [opC, opP, fetchN, fetchP, fetchAll, fetchO, Prog.bind, Prog.wp, Prog.wp_bind, lk, nameP, nameAll, Value.oneCell', putSt, stepP, putP, Res.s.injEq, Res.r.injEq, reduceCtorEq, V.lin, V.linL, D.lin, isNil, binP, unP, intBin, BinOp.isShift, Prog.ofO, true_and, and_true, Nat.reduceAdd, Nat.reduceMul, Nat.reduceSub, Nat.reduceLT, Nat.reduceLeDiff, Nat.reduceEqDiff, Nat.add_zero, Nat.zero_add, Nat.le_refl, if_true, if_false, ite_true, ite_false, Bool.false_eq_true, List.length_nil, List.length_cons, Bool.not_true, Bool.not_false, Bool.or_false, Bool.or_true, fieldAddrP, fieldP, indexAddrP, loadP, storeP, boxP, allocP, cellsP, asVal, setSeg, outP, TyK.field, TyK.agg, zeroRow, List.getElem?_cons_zero, List.getElem?_cons_succ, List.take_succ_cons, List.take_zero, List.drop_succ_cons, List.drop_zero, List.set_cons_zero, List.set_cons_succ, List.nil_append, List.cons_append, List.append_nil, List.map_cons, List.map_nil, V.ren, V.renL, List.forall_mem_cons, List.not_mem_nil, List.mem_cons, forall_eq_or_imp, implies_true, false_implies, forall_const, and_self, true_or, minmaxP, lenP, lenOf, lenStr, V.asInt, Int.toNat_natCast, List.length_map, List.getElem?_map, Option.map_some, Int.ofNat_lt, Int.natCast_nonneg, decide_true, decide_false, Int.cast_ofNat_Int, nat_lt_zero, nat_one, nat_zero, dd_length, dd_get, dd_take, dd_drop, resGo_dd, undd_dd, take_len_map, take_marks, List.length_replicate, sliceP, boundP, makeSliceP, convertP, appendP, rowsOfP, ontoP, sizeFits, V.rowSize, TyK.src, resV, resV.go, resV.gol, retP, retOne, retAll, resTo, objsAre, ty2, ty3, ty4, ty5, ty37, ty41, ty51, ty57, ty59, take_len_map, take_marks, lend_mv, lend_n1, beq_self_eq_true, bne_self_eq_false, decide_true, Int.reduceNeg, Int.reduceLT, C.ren, V.ren, renLL_dd, objsP, List.length_map, List.length_range, List.getD_cons_zero, gt_iff_lt, h1, h2, hq1, hq2, Mv.cells, N1, src_eq2, chunks, List.replicate, List.flatten_nil, List.flatten_cons, buildSliceP, plain_mv, List.map_nil, List.nil_append, List.length_nil, buildP, putParts, structPlaces, setSeg, binP, fk57, cellsEq, cellEq, Option.bind_some, Option.map_some, Option.bind_eq_bind, hx0, hz0, hyl0, hzl0, List.getElem?_toArray, h_m, hw_m, hlt_m, hsm, hif, hw2, h_k, hw_k, hlt_k, hwy, hwz, h_y, h_z, hne, hyz2, hsub, hadd]
       try (refine hk _ _ _ _ ?_; clear hk k))
    | (with_reducible apply regW_skip
       · simp only [dstOk, Nat.reduceLT]
       · rfl
       · simp only [putSt, lk, Res.s.injEq, Res.r.injEq, reduceCtorEq, Nat.reduceEqDiff, if_true, if_false]; done)
    | (with_reducible apply regW_yesN
       · simp only [dstOk, Nat.reduceLT]
       · rfl
       · simp only [putSt, lk, Res.s.injEq, Res.r.injEq, reduceCtorEq, Nat.reduceEqDiff, if_true, if_false]; done)
    | (with_reducible apply regW_no
       · simp only [dstOk, Nat.reduceLT]
       · rfl
       · simp only [putSt, lk, Res.s.injEq, Res.r.injEq, reduceCtorEq, Nat.reduceEqDiff, if_true, if_false, Bool.not_true, Bool.not_false]; done)
    | (with_reducible apply regW_guardN
       · simp only [dstOk, Nat.reduceLT]
       · rfl
       · simp only [putSt, lk, Res.s.injEq, Res.r.injEq, reduceCtorEq, Nat.reduceEqDiff, if_true, if_false]; rfl
       intro hb
       rotate_left
       intro hb)
    | (with_reducible apply aw_cond
       · simp only [putSt, lk, Res.s.injEq, Res.r.injEq, reduceCtorEq, Nat.reduceEqDiff, if_true, if_false]; rfl
       all_goals (intro hc; try (cases hc; done))))

  all_goals (try (simp_all))
  all_goals (try rfl)
  all_goals (try (rw [Bool.eq_iff_iff]; simp; done))
  all_goals (try (rw [Bool.eq_iff_iff]; simp; omega))
  all_goals (try (intros; omega))
  all_goals (try grind)

theorem shp_u8 (m : Nat) (ds : List D) (h : Shp Try.prog m 5 ds) : ∃ z : Int, ds = B1 z ∧ (0 ≤ z ∧ z < 256) := by
  cases m with
  | zero => cases h
  | succ m =>
    simp only [Shp, show Try.prog.underlying 5 = some (.int .u8) from Try.underlying5] at h
    obtain ⟨z, e, hw⟩ := h
    refine ⟨z, e, ?_⟩
    simp [Lit.wf, IntKind.has, IntKind.min, IntKind.max, IntKind.bits, IntKind.signed] at hw
    omega
theorem shp_bytes {m : Nat} {x : V} (h : ShpV Try.prog m 51 x) : ∃ l : List Int, x = bRows 1 B1 l ∧ l.length ≤ 9223372036854775807 ∧ ∀ v ∈ l, 0 ≤ v ∧ v < 256 :=
  shpV_slice Try.underlying51 (by kernel_rfl) shp_u8 h

theorem fnMoves_con (xs : List V) (hs : All2 (ShpV Try.prog 4) Try.f10.params.toList xs) : Con Try.prog 10 xs [] (V.bool true) [] := by
  rw [Try.params10] at hs
  cases hs with
  | cons h1 h => cases h with
    | cons h2 h =>
      cases h
      obtain ⟨a, rfl, ha, hva⟩ := shp_bytes h1
      obtain ⟨b, rfl, hb, hvb⟩ := shp_bytes h2
      rcases Nat.lt_or_ge 1048576 a.length with hc | hc
      · exact law_bigA a b ha hb hc
      rcases Nat.lt_or_ge 1048576 b.length with hd | hd
      · exact law_bigB a b ha hb hc hd
      have hll : (drawSeq a).1.length ≤ 1048576 := by
        have h := moves_len (srcOf a)
        show (movesOf (srcOf a)).2.length ≤ 1048576
        omega
      have hlo : (drawLocs b).length ≤ 1048576 := by have := drawLocs_len b; omega
      have hlx := seqAns_len (drawSeq a).1 (drawSeq a).2
      by_cases hx : seqAns (drawSeq a).1 (drawSeq a).2 = []
      · exact law_zx a b hc hd hva hvb _ _ _ _ rfl rfl rfl rfl _ rfl _ rfl hll hlo hlx hx
      by_cases hz : mao (drawSeq a).1 (drawLocs b) = []
      · exact law_zz a b hc hd hva hvb _ _ _ _ rfl rfl rfl rfl _ rfl _ rfl hll hlo hlx hx hz
      obtain ⟨p1, p2, p3, p4, p5, p6⟩ := plain (fun e => hx (List.eq_nil_of_length_eq_zero e)) (fun e => hz (List.eq_nil_of_length_eq_zero e))
      exact law_main a b hc hd hva hvb _ _ _ _ rfl rfl rfl rfl _ rfl _ rfl hll hlo hlx hx hz _ rfl p5 _ rfl p1 p2 p3 p4 p6

theorem fnMoves_read : ∀ t ∈ Try.f10.params.toList, Try.prog.readableRec t = true ∧ t < Try.prog.types.size := by
  rw [Try.params10]
  intro t ht
  simp at ht
  rcases ht with rfl <;> exact ⟨by kernel_rfl, of_decide_eq_true (by kernel_rfl)⟩

theorem fnMoves_plain : ∀ t ∈ Try.f10.params.toList, plainT Try.prog 4 t = true := by
  rw [Try.params10]
  intro t ht
  simp at ht
  rcases ht with rfl <;> kernel_rfl

theorem fnMoves_lifted (os : Os) (started : os.Started) (H : Type) (enc : TypeId × Value → H) :
    ReturnsInHanded {} Try.checked os 10 .any (Rows.fnMovesSpec.pre6 enc Try.prog Try.f10 Rows.fnMovesRow.domain false) (Rows.fnMovesSpec.post enc Try.prog Try.f10 false true false false) := by
  refine returnsInHanded_of_change (C := Try.checked) Try.own started (by kernel_rfl) Try.func10
    (ChangeSpec.witness6 (enc := enc) (C := Try.checked) false ⟨#[], #[.slice none 0 0, .slice none 0 0], []⟩ 8 (by kernel_rfl) (by kernel_rfl) (by kernel_rfl) (by kernel_rfl)) ?_
  intro W base args ds gs before hval hW hcnd _
  obtain ⟨p, q, hA0, -⟩ := id hW
  have hB0 : DataW.TrodAll enc Try.prog W 0 (fun _ => true) true Try.f10.params.toList args.toList ds p := hA0
  rw [Try.params10] at hB0
  obtain ⟨v0, vs0, d0, ds0, pa0, pb0, -, rfl, -, -, hB1⟩ := trodAll_cons hB0
  obtain ⟨v1, vs1, d1, ds1, pa1, pb1, -, rfl, -, -, hB2⟩ := trodAll_cons hB1
  obtain ⟨-, rfl, -⟩ := trodAll_nil hB2
  exact row_contract Try.laidOut fnMoves_con fnMoves_plain fnMoves_read rfl rfl Try.underlying4 rfl hval hW

theorem fnMoves_holds : Rows.FnMovesSaid :=
  OpenClaim.holds_of_wide 10 Try.f10 rfl rfl rfl rfl rfl rfl rfl ⟨rfl, rfl, rfl, rfl, rfl⟩ rfl rfl rfl rfl rfl (by kernel_rfl) Try.func10 (by kernel_rfl)
    (of_decide_eq_true (by kernel_rfl)) (by unfold Func.isWrapper; first | (rw [if_pos (by decide +kernel)]; kernel_rfl) | (rw [if_neg (by decide +kernel)]; exact ⟨rfl, rfl⟩))
    (fun os started H enc _ => fnMoves_lifted os started H enc)

end Go.Proofs.Ytdoboiiilcgbnaa
