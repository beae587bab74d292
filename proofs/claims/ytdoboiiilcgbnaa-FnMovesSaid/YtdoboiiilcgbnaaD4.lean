/- WHAT IS PROVED: contracts of functions of the program, each by a walk of its code. Conditions: none. -/
import Derived.Test.YtdoboiiilcgbnaaD3
namespace Go.Proofs.Ytdoboiiilcgbnaa
open Go.Proofs Go.Proofs.Ytdoboiiilcgbnaa.L
set_option maxHeartbeats 1000000
set_option linter.unusedSimpArgs false
set_option linter.unusedVariables false

def Src.cellsD (s : Src) : List D := [.row .bor 1 (s.b.map B1), .p (.int .i64 s.pos), .p (.int .u64 s.mix), .p (.int .i64 s.size)]
theorem mapD (s : Src) : s.cellsD.map V.d = s.cellsV := rfl
theorem cellsD_len (s : Src) : s.cellsD.length = 4 := rfl
def mixStep (m z : Int) : Int := IntKind.u64.wrap (xorU m z * 1099511628211)
def mixFold : List Int → Int → Int
  | [], m => m
  | z :: l, m => mixFold l (mixStep m z)
def srcOf (l : List Int) : Src := ⟨l, 0, mixFold (l.take 64) 88172645463325252, if 12 < l.length / 20 then 12 else (l.length / 20 : Nat)⟩
theorem src_big {l : List Int} {mx : Int} (e : mixFold (l.take 64) 88172645463325252 = mx) (h : 12 < l.length / 20) : D.ptr .own [.row .bor 1 (l.map B1), .p (.int .i64 0), .p (.int .u64 mx), .p (.int .i64 12)] = D.ptr .own (srcOf l).cellsD := by
  simp [srcOf, Src.cellsD, e, h]
theorem src_small {l : List Int} {mx : Int} (e : mixFold (l.take 64) 88172645463325252 = mx) (h : ¬ 12 < l.length / 20) : D.ptr .own [.row .bor 1 (l.map B1), .p (.int .i64 0), .p (.int .u64 mx), .p (.int .i64 ((l.length / 20 : Nat) : Int))] = D.ptr .own (srcOf l).cellsD := by
  simp [srcOf, Src.cellsD, e, h]

theorem c_spec_l01Source (l : List Int) (h : l.length ≤ 1048576) (hv : ∀ z ∈ l, 0 ≤ z ∧ z < 256) : Con Try.prog 60 [bRows 1 B1 l] [] (.d (.ptr .own (srcOf l).cellsD)) [] := by
  have hw_m : DUM = 0 := rfl
  have hlt_m : DUM = 0 := rfl
  have h_m : DUM = 0 := rfl
  have h64 : DUM = 0 := rfl
  have hc8 : DUM = 0 := rfl
  have hq : IntKind.i64.wrap (Int.tdiv (l.length : Int) 20) = ((l.length / 20 : Nat) : Int) := by
    show IntKind.i64.wrap ((l.length / 20 : Nat) : Int) = _
    rw [wrapIn] <;> omega
  have hsz : DUM = 0 := rfl
  have hd12 : DUM = 0 := rfl

  refine con_of_aw Try.func60 rfl Try.call60 (by simp [Try.ntmps60]) (by simp [V.inNs, V.inN]) (by simp [C.inN, V.inNss, V.inNs, V.inN, inNss_dd]) (by simp [V.inNs, V.inN]) (by simp [C.inN, V.inNss, V.inNs, V.inN, inNss_dd]) rfl ?_
  rw [Try.ntmps60, Try.results60]
  simp only [entryS, entryO, Nat.reduceAdd, List.length_nil, List.length_cons]
  repeat' (first
    | with_reducible refine aw_seq ?_
    | with_reducible refine aw_reg ?_
    | with_reducible refine aw_ret ?_
    | with_reducible refine aw_skip ?_
    | with_reducible refine aw_block ?_
    | with_reducible refine aw_exit ?_
    | with_reducible refine seqQ_normal ?_
    | with_reducible refine seqQ_ret ?_
    | with_reducible refine seqQ_exit ?_
    | with_reducible refine blockQ_normal ?_
    | with_reducible refine blockQ_ret ?_
    | with_reducible refine blockQ_this ?_
    | with_reducible refine blockQ_other (by decide) ?_
    | with_reducible refine regW_nil ?_
    | with_reducible refine aw_draw mixed ?_
    | (with_reducible refine regD_nil ?_
       refine ⟨by kernel_rfl, ?_⟩)
    | with_reducible refine retQ_ret ?_
    | with_reducible refine retQ_normal ?_
    | ((with_reducible refine aw_loopA 1000000 (by decide) (fun x : Nat × Int => [(.s 4, some (.v (V.int (x.1 : Nat)))), (.s 0, some (.v (bRows 1 B1 l))), (.s 3, some (.v (.mp 192 4 0 0))), (.r 192, some (.o 4 [[.d (.row .bor 1 (l.map B1)), V.int 0, .d (.p (.int .u64 x.2)), V.int 0]]))]) (fun x => l.length - x.1) (fun x => x.1 ≤ l.length ∧ mixFold (l.take 64) 88172645463325252 = mixFold ((l.take 64).drop x.1) x.2) ((0, 88172645463325252)) (by simp [slNL, C.inN, V.inN, V.inNs, V.inNss, inNss_dd, inNs_map_d]) (gh_to ?_) ?_ ?_)
       · simp only [SubL, putSt, lk, Res.s.injEq, Res.r.injEq, reduceCtorEq, Nat.reduceEqDiff, if_true, if_false, mixStep, xorU]; repeat' (first | apply And.intro | rfl | trivial)
       · exact ⟨Nat.zero_le _, rfl⟩
       intro x hJ
       have hw_m := wrapS (show x.1 < 4611686018427387904 by omega)
       rcases Nat.lt_or_ge x.1 l.length with hlt_m | hge_m
       obtain ⟨m, h_m⟩ := list_get hlt_m
       have hmr := hv m (List.mem_of_getElem? h_m)
       have hc8 : IntKind.u64.wrap m = m := Go.IntWalk.u64_in _ (by omega)
       rcases Nat.lt_or_ge x.1 64 with h6 | h6
       have h64 : ((x.1 : Int) < 64) = True := eq_true (by omega)
       have hdm : (l.take 64).drop x.1 = m :: (l.take 64).drop (x.1 + 1) := drop_cons (by rw [List.getElem?_take_of_lt h6]; exact h_m)
       rotate_left
       have h64 : ((x.1 : Int) < 64) = False := eq_false (by omega)
       have hend : (l.take 64).drop x.1 = [] := List.drop_eq_nil_of_le (by simp; omega)
       rotate_left
       have hlt_m := Nat.not_lt.2 hge_m
       have hend : (l.take 64).drop x.1 = [] := List.drop_eq_nil_of_le (by simp; omega)
       rotate_left
)
    | ((with_reducible refine next_to ((x.1 + 1, mixStep x.2 m)) (by decide) (by simp [slNL, C.inN, V.inN, V.inNs, V.inNss, inNss_dd, inNs_map_d]) ?_ ?_ ?_)
       · simp only [SubL, putSt, lk, Res.s.injEq, Res.r.injEq, reduceCtorEq, Nat.reduceEqDiff, if_true, if_false, mixStep, xorU]; repeat' (first | apply And.intro | rfl | trivial)
       · first | omega | exact ⟨by omega, by rw [hJ.2, hdm]; rfl⟩
       · first | omega | exact ⟨by omega, by rw [hJ.2, hdm]; rfl⟩)
    | (first
        | ((with_reducible refine gh_ret ?_); simp only [RetW])
        | (with_reducible apply regD_op
           · simp only [dstOk, Nat.reduceLT]
           · simp only [Nat.reduceAdd]; rfl
           intro k hk
           simp only [stepP])
        | (with_reducible apply regW_op
           · simp only [dstOk, Nat.reduceLT]
           · simp only [Nat.reduceAdd]; rfl
           intro k hk)
       try simp only [opC, opP, fetchN, fetchP, fetchAll, fetchO, Prog.bind, Prog.wp, Prog.wp_bind, lk, nameP, nameAll, Value.oneCell', putSt, stepP, putP, Res.s.injEq, Res.r.injEq, reduceCtorEq, V.lin, V.linL, D.lin, isNil, binP, unP, intBin, BinOp.isShift, Prog.ofO, true_and, and_true, Nat.reduceAdd, Nat.reduceMul, Nat.reduceSub, Nat.reduceLT, Nat.reduceLeDiff, Nat.reduceEqDiff, Nat.add_zero, Nat.zero_add, Nat.le_refl, if_true, if_false, ite_true, ite_false, Bool.false_eq_true, List.length_nil, List.length_cons, Bool.not_true, Bool.not_false, Bool.or_false, Bool.or_true, fieldAddrP, fieldP, indexAddrP, loadP, storeP, boxP, allocP, cellsP, asVal, setSeg, outP, TyK.field, TyK.agg, zeroRow, List.getElem?_cons_zero, List.getElem?_cons_succ, List.take_succ_cons, List.take_zero, List.drop_succ_cons, List.drop_zero, List.set_cons_zero, List.set_cons_succ, List.nil_append, List.cons_append, List.append_nil, List.map_cons, List.map_nil, V.ren, V.renL, List.forall_mem_cons, List.not_mem_nil, List.mem_cons, forall_eq_or_imp, implies_true, false_implies, forall_const, and_self, true_or, minmaxP, lenP, lenOf, lenStr, V.asInt, Int.toNat_natCast, List.length_map, List.getElem?_map, Option.map_some, Int.ofNat_lt, Int.natCast_nonneg, decide_true, decide_false, Int.cast_ofNat_Int, nat_lt_zero, nat_one, nat_zero, dd_length, dd_get, dd_take, dd_drop, resGo_dd, undd_dd, take_len_map, take_marks, List.length_replicate, sliceP, boundP, makeSliceP, convertP, appendP, rowsOfP, ontoP, sizeFits, V.rowSize, TyK.src, resV, resV.go, resV.gol, retP, retOne, retAll, resTo, objsAre, ty2, ty3, ty4, ty5, ty51, ty78, ty92, ty94, B1, V.some?, hq, hsz, hd12, hc8, List.getElem?_toArray, Option.bind_some, buildP, putParts, structPlaces, setSeg, binP, cellsEq, cellEq, Option.bind_some, Option.map_some, Option.bind_eq_bind, hw_m, hlt_m, h_m, h64, hc8]
       try (refine hk _ _ _ _ ?_; clear hk k))
    | (with_reducible apply regW_skip
       · simp only [dstOk, Nat.reduceLT]
       · rfl
       · simp only [putSt, lk, Res.s.injEq, Res.r.injEq, reduceCtorEq, Nat.reduceEqDiff, if_true, if_false]; done)
    | (with_reducible apply regW_yesN
       · simp only [dstOk, Nat.reduceLT]
       · rfl
       · simp only [putSt, lk, Res.s.injEq, Res.r.injEq, reduceCtorEq, Nat.reduceEqDiff, if_true, if_false]; done)
    | (with_reducible apply regW_no
       · simp only [dstOk, Nat.reduceLT]
       · rfl
       · simp only [putSt, lk, Res.s.injEq, Res.r.injEq, reduceCtorEq, Nat.reduceEqDiff, if_true, if_false, Bool.not_true, Bool.not_false]; done)
    | (with_reducible apply regW_guardN
       · simp only [dstOk, Nat.reduceLT]
       · rfl
       · simp only [putSt, lk, Res.s.injEq, Res.r.injEq, reduceCtorEq, Nat.reduceEqDiff, if_true, if_false]; rfl
       intro hb
       rotate_left
       intro hb)
    | (with_reducible apply aw_cond
       · simp only [putSt, lk, Res.s.injEq, Res.r.injEq, reduceCtorEq, Nat.reduceEqDiff, if_true, if_false]; rfl
       all_goals (intro hc; try (cases hc; done))))

  all_goals (try (first | exact src_big (by rw [hJ.2, hend]; rfl) (by simp at hc; omega) | exact src_small (by rw [hJ.2, hend]; rfl) (by simp at hc; omega)))
  all_goals (try rfl)
  all_goals (try (rw [Bool.eq_iff_iff]; simp; done))
  all_goals (try (rw [Bool.eq_iff_iff]; simp; omega))
  all_goals (try (intros; omega))
  all_goals (try grind)

end Go.Proofs.Ytdoboiiilcgbnaa
