/- WHAT IS PROVED: contracts of functions of the program, each by a walk of its code. Conditions: none. -/
import Derived.Test.YtdoboiiilcgbnaaQ5
namespace Go.Proofs.Ytdoboiiilcgbnaa
open Go.Proofs Go.Proofs.Ytdoboiiilcgbnaa.L
set_option maxHeartbeats 1000000
set_option linter.unusedSimpArgs false
set_option linter.unusedVariables false

theorem c_spec_l16Sequence (l : List Mv) (sp : Int) (h : l.length ≤ 40) (hn : (l.map Mv.to).Nodup) (ha : ∀ m ∈ l, m.to ≠ sp) : Con Try.prog 56 [bRows 3 Mv.cells l, V.int sp] [] (.tup [oRows 3 Mv.cells (seqOf sp l).1, V.int (seqOf sp l).2]) [] := by
  have h_m : DUM = 0 := rfl
  have hw_m : DUM = 0 := rfl
  have hlt_m : DUM = 0 := rfl
  have hsrc : DUM = 0 := rfl
  have hft : DUM = 0 := rfl
  have hbl1 : DUM = 0 := rfl
  have hbl2 : DUM = 0 := rfl
  have hz0 : DUM = 0 := rfl
  have hgt : DUM = 0 := rfl
  have hw_y : DUM = 0 := rfl
  have hlt_y : DUM = 0 := rfl
  have h_q : DUM = 0 := rfl
  have hy1 : DUM = 0 := rfl
  have hs1 : DUM = 0 := rfl
  have hs2 : DUM = 0 := rfl
  have hs3 : DUM = 0 := rfl
  have hs4 : DUM = 0 := rfl
  have hs5 : DUM = 0 := rfl
  have hs6 : DUM = 0 := rfl
  have hne0 : DUM = 0 := rfl
  have h_m0 : DUM = 0 := rfl
  have hwc : DUM = 0 := rfl
  have hyn : DUM = 0 := rfl
  have hyle : DUM = 0 := rfl
  have hdt : DUM = 0 := rfl
  have hsb : DUM = 0 := rfl
  have hw_w : DUM = 0 := rfl
  have hlt_w : DUM = 0 := rfl
  have h_r : DUM = 0 := rfl
  have hmg : DUM = 0 := rfl
  have hml : DUM = 0 := rfl
  have hsrc2 : DUM = 0 := rfl
  have hms : DUM = 0 := rfl
  have hms2 : DUM = 0 := rfl
  have hmt : DUM = 0 := rfl
  have hxl : DUM = 0 := rfl
  have hGB : ∀ z : Nat × List Mv × List Mv × Int, Gh ((fun z : Nat × List Mv × List Mv × Int => [(.s 6, some (.v (oRows 3 Mv.cells z.2.1))), (.s 8, some (.v (oRows 3 Mv.cells z.2.2.1))), (.s 9, some (.v (V.int z.2.2.2))), (.s 1, some (.v (V.int sp)))]) z) 1000000 fun st' n' => st' = (fun z : Nat × List Mv × List Mv × Int => [(.s 6, some (.v (.sl 1000000 3 0 z.2.1.length))), (.r 1000000, some (.o 3 (dd (z.2.1.map Mv.cells)))), (.s 8, some (.v (oRows 3 Mv.cells z.2.2.1))), (.s 9, some (.v (V.int z.2.2.2))), (.s 1, some (.v (V.int sp)))]) z ∧ n' = 1000064 := by
    intro z
    refine gh_nameSlot 6 ?_
    simp only [List.length_nil, List.take_length, List.take_nil, List.take_zero, List.drop_nil, List.map_nil, List.map_cons, resSlotP, nameSlotP, Prog.wp, Prog.wp_bind, Prog.bind, Prog.ofO, putSt, lk, Res.s.injEq, Res.r.injEq, reduceCtorEq, Nat.reduceEqDiff, if_true, if_false, resV, resV.go, resV.gol, resGo_dd, dd_length, dd_take, dd_drop, dd_get, List.drop_zero, take_len_map, List.length_map, Nat.zero_add, Nat.le_refl, true_and, and_true, and_self, nameAll, nameP, V.lin, D.lin]
    refine gh_too ?_
    simp only [SubL, putSt, lk, Res.s.injEq, Res.r.injEq, reduceCtorEq, Nat.reduceEqDiff, if_true, if_false]; repeat' (first | apply And.intro | rfl | trivial)

  refine con_of_aw Try.func56 rfl Try.call56 (by simp [Try.ntmps56]) (by simp [V.inNs, V.inN]) (by simp [C.inN, V.inNss, V.inNs, V.inN, inNss_dd]) (by simp [V.inNs, V.inN]) (by simp [C.inN, V.inNss, V.inNs, V.inN, inNss_dd]) rfl ?_
  rw [Try.ntmps56, Try.results56]
  simp only [entryS, entryO, Nat.reduceAdd, List.length_nil, List.length_cons]
  repeat' (first
    | with_reducible refine aw_seq ?_
    | with_reducible refine aw_reg ?_
    | with_reducible refine aw_ret ?_
    | with_reducible refine aw_skip ?_
    | with_reducible refine aw_block ?_
    | with_reducible refine aw_exit ?_
    | with_reducible refine seqQ_normal ?_
    | with_reducible refine seqQ_ret ?_
    | with_reducible refine seqQ_exit ?_
    | with_reducible refine blockQ_normal ?_
    | with_reducible refine blockQ_ret ?_
    | with_reducible refine blockQ_this ?_
    | with_reducible refine blockQ_other (by decide) ?_
    | with_reducible refine regW_nil ?_
    | with_reducible refine aw_draw mixed ?_
    | (with_reducible refine regD_nil ?_
       refine ⟨by kernel_rfl, ?_⟩)
    | with_reducible refine retQ_ret ?_
    | with_reducible refine retQ_normal ?_
    | ((with_reducible refine aw_loopA _ (Nat.le_refl _) (fun x : Nat => [(.s 7, some (.v (V.int (x : Nat)))), (.s 0, some (.v (bRows 3 Mv.cells l))), (.s 1, some (.v (V.int sp))), (.s 6, some (.v (oRows 3 Mv.cells (flt (l.take x)))))]) (fun x => (l.length) - x) (fun x => x ≤ l.length) (0) (by simp [slNL, C.inN, V.inN, V.inNs, V.inNss, inNss_dd, inNs_map_d]) ?_ ?_ ?_)
       · refine gh_resSlot 6 ?_
         simp only [List.length_nil, List.take_length, List.take_nil, List.take_zero, List.drop_nil, List.map_nil, List.map_cons, resSlotP, nameSlotP, Prog.wp, Prog.wp_bind, Prog.bind, Prog.ofO, putSt, lk, Res.s.injEq, Res.r.injEq, reduceCtorEq, Nat.reduceEqDiff, if_true, if_false, resV, resV.go, resV.gol, resGo_dd, dd_length, dd_take, dd_drop, dd_get, List.drop_zero, take_len_map, List.length_map, Nat.zero_add, Nat.le_refl, true_and, and_true, and_self, nameAll, nameP, V.lin, D.lin]
         refine gh_to ?_
         simp only [SubL, putSt, lk, Res.s.injEq, Res.r.injEq, reduceCtorEq, Nat.reduceEqDiff, if_true, if_false, oRows, hft, List.take_zero, flt_nil, List.map_nil]; repeat' (first | apply And.intro | rfl | trivial)
       · exact Nat.zero_le _
       intro x hJ
       have hb_m : x < 4611686018427387904 := by omega
       have hw_m := wrapS hb_m
       rcases Nat.lt_or_ge x (l.length) with hlt_m | hge_m
       obtain ⟨m, h_m⟩ := list_get hlt_m
       have hd_m := drop_cons h_m
       rotate_left
       have hd_m := drop_nil hge_m
       have hlt_m := Nat.not_lt.2 hge_m
       rotate_left
       have hfl := flt_len l x
       have hbl1 : ((flt (l.take x)).length + 1) * 24 ≤ 35184372088832 := by omega
       have hbl2 : (flt (l.take x)).length ≤ 35184372088831 := by omega
       by_cases hs : m.src = ⟨1, m.to⟩
       have hsrc : (m.src = ⟨1, m.to⟩) = True := eq_true hs
       have hft : (flt (l.take (x + 1))).map Mv.cells = (flt (l.take x)).map Mv.cells := by rw [flt_skip h_m hs]
       rotate_left
       have hsrc : (m.src = ⟨1, m.to⟩) = False := eq_false hs
       have hft : (flt (l.take (x + 1))).map Mv.cells = (flt (l.take x)).map Mv.cells ++ [[D.p (.int .i64 m.to), D.p (.int .i64 m.src.kind), D.p (.int .i64 m.src.n)]] := by rw [flt_keep h_m hs, List.map_append]; rfl
       rotate_left
       have hxl : l.take x = l := List.take_of_length_le hge_m
       rotate_left
)
    | ((with_reducible refine aw_loopG 1000000 1000064 (by decide) (fun z : Nat × List Mv × List Mv × Int => [(.s 6, some (.v (oRows 3 Mv.cells z.2.1))), (.s 8, some (.v (oRows 3 Mv.cells z.2.2.1))), (.s 9, some (.v (V.int z.2.2.2))), (.s 1, some (.v (V.int sp)))]) (fun z : Nat × List Mv × List Mv × Int => [(.s 6, some (.v (.sl 1000000 3 0 z.2.1.length))), (.r 1000000, some (.o 3 (dd (z.2.1.map Mv.cells)))), (.s 8, some (.v (oRows 3 Mv.cells z.2.2.1))), (.s 9, some (.v (V.int z.2.2.2))), (.s 1, some (.v (V.int sp)))]) (fun z => z.1) (fun z => SeqJ sp (seqOf sp l) z.1 z.2.1 z.2.2.1 z.2.2.2) ((2 * l.length + 1, flt l, [], 0)) (by simp [slNL, C.inN, V.inN, V.inNs, V.inNss, inNss_dd, inNs_map_d]) (fun _ => hGB _) ?_ ?_ ?_)
       · refine gh_resSlot 8 ?_
         simp only [List.length_nil, List.take_length, List.take_nil, List.take_zero, List.drop_nil, List.map_nil, List.map_cons, resSlotP, nameSlotP, Prog.wp, Prog.wp_bind, Prog.bind, Prog.ofO, putSt, lk, Res.s.injEq, Res.r.injEq, reduceCtorEq, Nat.reduceEqDiff, if_true, if_false, resV, resV.go, resV.gol, resGo_dd, dd_length, dd_take, dd_drop, dd_get, List.drop_zero, take_len_map, List.length_map, Nat.zero_add, Nat.le_refl, true_and, and_true, and_self, nameAll, nameP, V.lin, D.lin]
         refine gh_to ?_
         simp only [SubL, putSt, lk, Res.s.injEq, Res.r.injEq, reduceCtorEq, Nat.reduceEqDiff, if_true, if_false, oRows, List.map_nil, List.map_cons, List.map_append, Mv.cells, cut, hxl, List.take_length]; repeat' (first | apply And.intro | rfl | trivial)
       · exact seq_begin h hn ha
       intro z hz
       have hgt : ((0 : Int) < (z.2.1.length : Int)) = (0 < z.2.1.length) := by simp
)
    | (fail)
    | ((with_reducible refine aw_loopA 2000000 (by decide) (fun y : Nat => [(.s 10, some (.v (V.int (y : Nat)))), (.s 6, some (.v (.sl 1000000 3 0 z.2.1.length))), (.r 1000000, some (.o 3 (dd (z.2.1.map Mv.cells)))), (.s 8, some (.v (oRows 3 Mv.cells z.2.2.1))), (.s 9, some (.v (V.int z.2.2.2))), (.s 1, some (.v (V.int sp)))]) (fun y => z.2.1.length - y) (fun y => y ≤ z.2.1.length ∧ ∀ n ∈ z.2.1.take y, blk z.2.1 n = true) (0) (by simp [slNL, C.inN, V.inN, V.inNs, V.inNss, inNss_dd, inNs_map_d]) (gh_to ?_) ?_ ?_)
       · simp only [SubL, putSt, lk, Res.s.injEq, Res.r.injEq, reduceCtorEq, Nat.reduceEqDiff, if_true, if_false]; repeat' (first | apply And.intro | rfl | trivial)
       · simp
       intro y hy
       have hne0 : 0 < z.2.1.length := of_decide_eq_true hc
       have hyle := hy.1
       have hL := hz.lenL
       have hO := hz.lenO
       have hc0 := hz.cyc0
       have hc1 := hz.cyc1
       have hnd := hz.nodup
       have hw_y := wrapS (show y < 4611686018427387904 by omega)
       have hs1 : (z.2.2.1.length + 1) * 24 ≤ 35184372088832 := by omega
       have hs2 : z.2.2.1.length ≤ 35184372088831 := by omega
       rcases Nat.lt_or_ge y z.2.1.length with hlt_y | hge_y
       obtain ⟨q, h_q⟩ := list_get hlt_y
       have hy1 : y + 1 ≤ z.2.1.length := hlt_y
       have htl : (z.2.1.take y).length = y := by simp; omega
       have hs3 : (z.2.1.take y).length * 24 ≤ 35184372088832 := by omega
       have hs4 : (z.2.1.take y).length ≤ 35184372088832 := by omega
       have hdt : (z.2.1.drop (y + 1)).take (z.2.1.length - (y + 1)) = z.2.1.drop (y + 1) := List.take_of_length_le (by simp)
       have hdl : (z.2.1.drop (y + 1)).length ≤ 40 := by simp; omega
       have hs5 : ((z.2.1.take y).length + (z.2.1.drop (y + 1)).length) * 24 ≤ 35184372088832 := by omega
       have hs6 : (z.2.1.take y).length + (z.2.1.drop (y + 1)).length ≤ 35184372088832 := by omega
       have hsb : y + 1 + (z.2.1.length - (y + 1)) ≤ z.2.1.length := by omega
       rotate_left
       have hlt_y := Nat.not_lt.2 hge_y
       obtain ⟨m0, h_m0⟩ := list_get hne0
       have hnf : ¬ freeIdx z.2.1 < z.2.1.length := by rw [freeIdx_none (fun n hn => hy.2 n (by rw [List.take_of_length_le hge_y]; exact hn))]; omega
       have hwc : IntKind.i64.wrap (z.2.2.2 + 1) = z.2.2.2 + 1 := by rw [wrapIn] <;> omega
       rotate_left
)
    | ((with_reducible refine aw_loopA 3000000 (by decide) (fun w : Nat => [(.s 12, some (.v (V.int (w : Nat)))), (.s 6, some (.v (.sl 1000000 3 0 z.2.1.length))), (.r 1000000, some (.o 3 (dd ((mapTo (fixS sp m0.to) z.2.1 w).map Mv.cells)))), (.s 8, some (.v (oRows 3 Mv.cells (z.2.2.1 ++ [⟨sp, ⟨1, m0.to⟩⟩])))), (.s 9, some (.v (V.int (z.2.2.2 + 1)))), (.s 1, some (.v (V.int sp))), (.s 11, some (.v (.mp 2001152 2 0 0))), (.r 2001152, some (.o 2 [[V.int 1, V.int m0.to]]))]) (fun w => z.2.1.length - w) (fun w => w ≤ z.2.1.length) (0) (by simp [slNL, C.inN, V.inN, V.inNs, V.inNss, inNss_dd, inNs_map_d]) ?_ ?_ ?_)
       · refine gh_resSlot 8 ?_
         simp only [List.length_nil, List.take_length, List.take_nil, List.take_zero, List.drop_nil, List.map_nil, List.map_cons, resSlotP, nameSlotP, Prog.wp, Prog.wp_bind, Prog.bind, Prog.ofO, putSt, lk, Res.s.injEq, Res.r.injEq, reduceCtorEq, Nat.reduceEqDiff, if_true, if_false, resV, resV.go, resV.gol, resGo_dd, dd_length, dd_take, dd_drop, dd_get, List.drop_zero, take_len_map, List.length_map, Nat.zero_add, Nat.le_refl, true_and, and_true, and_self, nameAll, nameP, V.lin, D.lin]
         refine gh_to ?_
         simp only [SubL, putSt, lk, Res.s.injEq, Res.r.injEq, reduceCtorEq, Nat.reduceEqDiff, if_true, if_false, oRows, mapTo_zero, List.map_append, List.map_cons, List.map_nil, Mv.cells, hms2]; repeat' (first | apply And.intro | rfl | trivial)
       · exact Nat.zero_le _
       intro w hwl
       have hw_w := wrapS (show w < 4611686018427387904 by omega)
       have hml := mapTo_length (fixS sp m0.to) z.2.1 w
       rcases Nat.lt_or_ge w z.2.1.length with hlt_w | hge_w
       obtain ⟨r, h_r⟩ := list_get hlt_w
       have hmg := mapTo_get (f := fixS sp m0.to) h_r
       by_cases hs : r.src = ⟨1, m0.to⟩
       have hsrc2 : (r.src = ⟨1, m0.to⟩) = True := eq_true hs
       have hfx : fixS sp m0.to r = ⟨r.to, ⟨1, sp⟩⟩ := if_pos hs
       have hms : (dd ((mapTo (fixS sp m0.to) z.2.1 w).map Mv.cells)).set w [V.d (D.p (.int .i64 r.to)), V.d (D.p (.int .i64 1)), V.d (D.p (.int .i64 sp))] = dd ((mapTo (fixS sp m0.to) z.2.1 (w + 1)).map Mv.cells) := by rw [set_dd_cells, ← hfx, mapTo_set h_r]
       rotate_left
       have hsrc2 : (r.src = ⟨1, m0.to⟩) = False := eq_false hs
       have hms2 : mapTo (fixS sp m0.to) z.2.1 (w + 1) = mapTo (fixS sp m0.to) z.2.1 w := mapTo_same h_r (if_neg hs)
       rotate_left
       have hlt_w := Nat.not_lt.2 hge_w
       have hmt : (mapTo (fixS sp m0.to) z.2.1 w).take z.2.1.length = z.2.1.map (fixS sp m0.to) := by rw [mapTo_all hge_w, List.take_of_length_le (by simp)]
       rotate_left
)
    | ((with_reducible refine next_here ?_)
       refine gh_resSlot 6 ?_
       simp only [List.length_nil, List.take_length, List.take_nil, List.take_zero, List.drop_nil, List.map_nil, List.map_cons, resSlotP, nameSlotP, Prog.wp, Prog.wp_bind, Prog.bind, Prog.ofO, putSt, lk, Res.s.injEq, Res.r.injEq, reduceCtorEq, Nat.reduceEqDiff, if_true, if_false, resV, resV.go, resV.gol, resGo_dd, dd_length, dd_take, dd_drop, dd_get, List.drop_zero, take_len_map, List.length_map, Nat.zero_add, Nat.le_refl, true_and, and_true, and_self, nameAll, nameP, V.lin, D.lin, List.take_length]
       (with_reducible refine next_to (x + 1) (Nat.le_refl _) (by simp [slNL, C.inN, V.inN, V.inNs, V.inNss, inNss_dd, inNs_map_d]) ?_ ?_ ?_)
       · simp only [SubL, putSt, lk, Res.s.injEq, Res.r.injEq, reduceCtorEq, Nat.reduceEqDiff, if_true, if_false, oRows, hft, List.take_zero, flt_nil, List.map_nil]; repeat' (first | apply And.intro | rfl | trivial)
       · omega
       · omega)
    | ((with_reducible refine next_here ?_)
       refine gh_resSlot 6 ?_
       simp only [List.length_nil, List.take_length, List.take_nil, List.take_zero, List.drop_nil, List.map_nil, List.map_cons, resSlotP, nameSlotP, Prog.wp, Prog.wp_bind, Prog.bind, Prog.ofO, putSt, lk, Res.s.injEq, Res.r.injEq, reduceCtorEq, Nat.reduceEqDiff, if_true, if_false, resV, resV.go, resV.gol, resGo_dd, dd_length, dd_take, dd_drop, dd_get, List.drop_zero, take_len_map, List.length_map, Nat.zero_add, Nat.le_refl, true_and, and_true, and_self, nameAll, nameP, V.lin, D.lin, ← List.map_take, ← List.map_drop, List.take_length]
       refine gh_resSlot 8 ?_
       simp only [List.length_nil, List.take_length, List.take_nil, List.take_zero, List.drop_nil, List.map_nil, List.map_cons, resSlotP, nameSlotP, Prog.wp, Prog.wp_bind, Prog.bind, Prog.ofO, putSt, lk, Res.s.injEq, Res.r.injEq, reduceCtorEq, Nat.reduceEqDiff, if_true, if_false, resV, resV.go, resV.gol, resGo_dd, dd_length, dd_take, dd_drop, dd_get, List.drop_zero, take_len_map, List.length_map, Nat.zero_add, Nat.le_refl, true_and, and_true, and_self, nameAll, nameP, V.lin, D.lin]
       (with_reducible refine next_toG (fun z : Nat × List Mv × List Mv × Int => [(.s 6, some (.v (oRows 3 Mv.cells z.2.1))), (.s 8, some (.v (oRows 3 Mv.cells z.2.2.1))), (.s 9, some (.v (V.int z.2.2.2))), (.s 1, some (.v (V.int sp)))]) 1000000 ((z.1 - 1, cut z.2.1 y, z.2.2.1 ++ [q], z.2.2.2)) (by decide) (by simp [slNL, C.inN, V.inN, V.inNs, V.inNss, inNss_dd, inNs_map_d]) (fun _ => hGB _) ?_ ?_ ?_)
       · simp only [SubL, putSt, lk, Res.s.injEq, Res.r.injEq, reduceCtorEq, Nat.reduceEqDiff, if_true, if_false, oRows, List.map_nil, List.map_cons, List.map_append, Mv.cells, cut, hxl, List.take_length]; repeat' (first | apply And.intro | rfl | trivial)
       · first | (have := (seq_free hz (freeIdx_eq h_q (by assumption) hy.2) h_q).1; omega) | exact (seq_free hz (freeIdx_eq h_q (by assumption) hy.2) h_q).2
       · first | (have := (seq_free hz (freeIdx_eq h_q (by assumption) hy.2) h_q).1; omega) | exact (seq_free hz (freeIdx_eq h_q (by assumption) hy.2) h_q).2)
    | ((with_reducible refine next_here ?_)
       refine gh_resSlot 6 ?_
       simp only [List.length_nil, List.take_length, List.take_nil, List.take_zero, List.drop_nil, List.map_nil, List.map_cons, resSlotP, nameSlotP, Prog.wp, Prog.wp_bind, Prog.bind, Prog.ofO, putSt, lk, Res.s.injEq, Res.r.injEq, reduceCtorEq, Nat.reduceEqDiff, if_true, if_false, resV, resV.go, resV.gol, resGo_dd, dd_length, dd_take, dd_drop, dd_get, List.drop_zero, take_len_map, List.length_map, Nat.zero_add, Nat.le_refl, true_and, and_true, and_self, nameAll, nameP, V.lin, D.lin, ← List.map_take, hmt, hml]
       refine gh_resSlot 8 ?_
       simp only [List.length_nil, List.take_length, List.take_nil, List.take_zero, List.drop_nil, List.map_nil, List.map_cons, resSlotP, nameSlotP, Prog.wp, Prog.wp_bind, Prog.bind, Prog.ofO, putSt, lk, Res.s.injEq, Res.r.injEq, reduceCtorEq, Nat.reduceEqDiff, if_true, if_false, resV, resV.go, resV.gol, resGo_dd, dd_length, dd_take, dd_drop, dd_get, List.drop_zero, take_len_map, List.length_map, Nat.zero_add, Nat.le_refl, true_and, and_true, and_self, nameAll, nameP, V.lin, D.lin]
       (with_reducible refine next_toG (fun z : Nat × List Mv × List Mv × Int => [(.s 6, some (.v (oRows 3 Mv.cells z.2.1))), (.s 8, some (.v (oRows 3 Mv.cells z.2.2.1))), (.s 9, some (.v (V.int z.2.2.2))), (.s 1, some (.v (V.int sp)))]) 1000000 ((z.1 - 1, z.2.1.map (fixS sp m0.to), z.2.2.1 ++ [⟨sp, ⟨1, m0.to⟩⟩], z.2.2.2 + 1)) (by decide) (by simp [slNL, C.inN, V.inN, V.inNs, V.inNss, inNss_dd, inNs_map_d]) (fun _ => hGB _) ?_ ?_ ?_)
       · simp only [SubL, putSt, lk, Res.s.injEq, Res.r.injEq, reduceCtorEq, Nat.reduceEqDiff, if_true, if_false, oRows, List.map_nil, List.map_cons, List.map_append, Mv.cells, hxl, List.take_length]; repeat' (first | apply And.intro | rfl | trivial)
       · first | (have := (seq_cyc hz hnf h_m0).1; omega) | exact (seq_cyc hz hnf h_m0).2
       · first | (have := (seq_cyc hz hnf h_m0).1; omega) | exact (seq_cyc hz hnf h_m0).2)
    | ((with_reducible refine next_to (y + 1) (by decide) (by simp [slNL, C.inN, V.inN, V.inNs, V.inNss, inNss_dd, inNs_map_d]) ?_ ?_ ?_)
       · simp only [SubL, putSt, lk, Res.s.injEq, Res.r.injEq, reduceCtorEq, Nat.reduceEqDiff, if_true, if_false]; repeat' (first | apply And.intro | rfl | trivial)
       · first | omega | exact ⟨by omega, by rw [← take_blk h_q]; exact take_all hy.2 (by simpa using hc)⟩
       · first | omega | exact ⟨by omega, by rw [← take_blk h_q]; exact take_all hy.2 (by simpa using hc)⟩)
    | ((with_reducible refine next_to (w + 1) (by decide) (by simp [slNL, C.inN, V.inN, V.inNs, V.inNss, inNss_dd, inNs_map_d]) ?_ ?_ ?_)
       · simp only [SubL, putSt, lk, Res.s.injEq, Res.r.injEq, reduceCtorEq, Nat.reduceEqDiff, if_true, if_false, oRows, mapTo_zero, List.map_append, List.map_cons, List.map_nil, Mv.cells, hms2]; repeat' (first | apply And.intro | rfl | trivial)
       · omega
       · omega)
    | (first
        | ((with_reducible refine gh_ret ?_); simp only [RetW])
        | (with_reducible refine call_data (c_spec_l16Blocked _ _ _ (by first | assumption | omega) (by assumption) (by assumption)) rfl ?_)
        | ((with_reducible apply call_auto (f := 71))
           · simp only [lendAL, lendA, Option.bind_some, Option.map_some, undd_dd, dd_length, dd_take, dd_drop, List.length_map, List.length_range, Nat.zero_add, Nat.add_zero, Nat.le_refl, true_and, and_true, and_self, take_len_map, take_marks, List.drop_zero, C.o.injEq, V.d.injEq, putSt, lk, Res.s.injEq, Res.r.injEq, reduceCtorEq, Nat.reduceEqDiff, if_true, if_false, lend_mv, lend_n1, Mv.cells, src_eq2, hxl, List.getElem?_toArray, Option.bind_some, buildSliceP, chunks, List.replicate, List.flatten_cons, List.flatten_nil, Nat.zero_add, gt_iff_lt, decide_not, Int.ofNat_le, Nat.sub_zero, Int.le_refl, Int.toNat_zero, ← List.map_take, ← List.map_drop, List.take_length, plain_mv, buildP, putParts, structPlaces, setSeg, binP, fk57, cellsEq, cellEq, Option.bind_some, Option.map_some, Option.bind_eq_bind]; rfl
           · with_reducible exact c_spec_l16Blocked _ _ _ (by first | assumption | omega) (by assumption) (by assumption)
           · first | rfl | exact nb_rows (fun _ => rfl) _ _
           simp only [V.namesOf, V.namesOfL, List.foldl_cons, List.foldl_nil, List.nil_append, List.append_nil, List.cons_append])
        | (with_reducible apply regD_op
           · simp only [dstOk, Nat.reduceLT]
           · simp only [Nat.reduceAdd]; rfl
           intro k hk
           simp only [stepP])
        | (with_reducible apply regW_op
           · simp only [dstOk, Nat.reduceLT]
           · simp only [Nat.reduceAdd]; rfl
           intro k hk)
       try simp only [opC, opP, fetchN, fetchP, fetchAll, fetchO, Prog.bind, Prog.wp, Prog.wp_bind, lk, nameP, nameAll, Value.oneCell', putSt, stepP, putP, Res.s.injEq, Res.r.injEq, reduceCtorEq, V.lin, V.linL, D.lin, isNil, binP, unP, intBin, BinOp.isShift, Prog.ofO, true_and, and_true, Nat.reduceAdd, Nat.reduceMul, Nat.reduceSub, Nat.reduceLT, Nat.reduceLeDiff, Nat.reduceEqDiff, Nat.add_zero, Nat.zero_add, Nat.le_refl, if_true, if_false, ite_true, ite_false, Bool.false_eq_true, List.length_nil, List.length_cons, Bool.not_true, Bool.not_false, Bool.or_false, Bool.or_true, fieldAddrP, fieldP, indexAddrP, loadP, storeP, boxP, allocP, cellsP, asVal, setSeg, outP, TyK.field, TyK.agg, zeroRow, List.getElem?_cons_zero, List.getElem?_cons_succ, List.take_succ_cons, List.take_zero, List.drop_succ_cons, List.drop_zero, List.set_cons_zero, List.set_cons_succ, List.nil_append, List.cons_append, List.append_nil, List.map_cons, List.map_nil, V.ren, V.renL, List.forall_mem_cons, List.not_mem_nil, List.mem_cons, forall_eq_or_imp, implies_true, false_implies, forall_const, and_self, true_or, minmaxP, lenP, lenOf, lenStr, V.asInt, Int.toNat_natCast, List.length_map, List.getElem?_map, Option.map_some, Int.ofNat_lt, Int.natCast_nonneg, decide_true, decide_false, Int.cast_ofNat_Int, nat_lt_zero, nat_one, nat_zero, dd_length, dd_get, dd_take, dd_drop, resGo_dd, undd_dd, take_len_map, take_marks, List.length_replicate, sliceP, boundP, makeSliceP, convertP, appendP, rowsOfP, ontoP, sizeFits, V.rowSize, TyK.src, resV, resV.go, resV.gol, retP, retOne, retAll, resTo, objsAre, ty2, ty3, ty4, ty37, ty57, ty59, Mv.cells, src_eq2, hxl, List.getElem?_toArray, Option.bind_some, buildSliceP, chunks, List.replicate, List.flatten_cons, List.flatten_nil, Nat.zero_add, gt_iff_lt, decide_not, Int.ofNat_le, Nat.sub_zero, Int.le_refl, Int.toNat_zero, ← List.map_take, ← List.map_drop, List.take_length, plain_mv, buildP, putParts, structPlaces, setSeg, binP, fk57, cellsEq, cellEq, Option.bind_some, Option.map_some, Option.bind_eq_bind, h_m, hw_m, hlt_m, hsrc, hft, hbl1, hbl2, hz0, hgt, hw_y, hlt_y, h_q, hy1, hs1, hs2, hs3, hs4, hs5, hs6, hne0, h_m0, hwc, hyn, hyle, hdt, hsb, hw_w, hlt_w, h_r, hmg, hml, hsrc2, hms, hms2, hmt]
       try (refine hk _ _ _ _ ?_; clear hk k))
    | (with_reducible apply regW_skip
       · simp only [dstOk, Nat.reduceLT]
       · rfl
       · simp only [putSt, lk, Res.s.injEq, Res.r.injEq, reduceCtorEq, Nat.reduceEqDiff, if_true, if_false]; done)
    | (with_reducible apply regW_yesN
       · simp only [dstOk, Nat.reduceLT]
       · rfl
       · simp only [putSt, lk, Res.s.injEq, Res.r.injEq, reduceCtorEq, Nat.reduceEqDiff, if_true, if_false]; done)
    | (with_reducible apply regW_no
       · simp only [dstOk, Nat.reduceLT]
       · rfl
       · simp only [putSt, lk, Res.s.injEq, Res.r.injEq, reduceCtorEq, Nat.reduceEqDiff, if_true, if_false, Bool.not_true, Bool.not_false]; done)
    | (with_reducible apply regW_guardN
       · simp only [dstOk, Nat.reduceLT]
       · rfl
       · simp only [putSt, lk, Res.s.injEq, Res.r.injEq, reduceCtorEq, Nat.reduceEqDiff, if_true, if_false]; rfl
       intro hb
       rotate_left
       intro hb)
    | (with_reducible apply aw_cond
       · simp only [putSt, lk, Res.s.injEq, Res.r.injEq, reduceCtorEq, Nat.reduceEqDiff, if_true, if_false]; rfl
       all_goals (intro hc; try (cases hc; done))))

  all_goals (try (first | (have e1 := hz; rw [nil_of_hc hc] at e1; rw [seq_end e1]; exact ⟨rfl, rfl⟩) | simp_all))
  all_goals (try rfl)
  all_goals (try (rw [Bool.eq_iff_iff]; simp; done))
  all_goals (try (rw [Bool.eq_iff_iff]; simp; omega))
  all_goals (try (intros; omega))
  all_goals (try grind)

end Go.Proofs.Ytdoboiiilcgbnaa
