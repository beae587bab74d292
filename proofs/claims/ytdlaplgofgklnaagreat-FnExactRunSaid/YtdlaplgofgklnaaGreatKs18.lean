/- WHAT IS PROVED: an abstract walker over the model, what some functions of the program answer, and laws of these answers. Conditions: none. -/
import Derived.Test.YtdlaplgofgklnaaGreatKs17
namespace Go.Proofs.YtdlaplgofgklnaaGreat
open Go.Proofs Go.Proofs.YtdlaplgofgklnaaGreat.L
set_option maxHeartbeats 8000000
set_option linter.unusedSimpArgs false
set_option linter.unusedVariables false
set_option maxRecDepth 100000
set_option linter.defProp false
def laws_FnExactRun.a1 (k : Nat) (a1 : (List GFunc)) (a2 : (List GFrame)) (a3 : (List (List Int))) (a4 : (List Int)) (a5 : Int) (a6 : Bool) (a7 : Int) (a8 : Int) (a9 : GState) (a10 : GState) (a11 : Int) : Option ((Bool) ⊕ ((List GFunc) × (List GFrame) × (List (List Int)) × (List Int) × Int × Bool × Int × Int × GState × GState)) :=
  cond ((decide (a11 < 0))) (some (.inl (false))) ((laws_eqState k a10 a9).bind fun t16 => cond ((!t16)) (some (.inl (false))) (some (.inr (a1, a2, a3, a4, a5, a6, a7, a8, a9, a10))))
def laws_FnExactRun (k : Nat) (p0 : GProgram) (p1 : GState) : Option (Bool) :=
  (laws_szProgram k p0 1048576).bind fun t1 => cond ((decide (t1 < 0))) (some true) ((laws_szState k p1 t1).bind fun t2 => cond ((decide (t2 < 0))) (some true) ((laws_toProgram k p0).bind fun t3 => (laws_toState k p1).bind fun t4 => (spec_Run k t3 t4).bind fun t5 => (laws_toProgram k p0).bind fun t6 => (laws_toState k p1).bind fun t7 => (impl_Run k t6 t7).bind fun t8 => (laws_eqState k t8 t5).bind fun t9 => cond ((!t9)) (some false) ((laws_toProgram k p0).bind fun t10 => (laws_eqProgram k t6 t10).bind fun t11 => cond ((!t11)) (some false) ((laws_toState k p1).bind fun t12 => (laws_eqState k t7 t12).bind fun t13 => cond ((!t13)) (some false) ((laws_markProgram k t6 1).bind fun t14 => gd (t14.2.length = t6.funcs.length) ((laws_markState k t7 t14.1).bind fun t15 => gd (t15.2.1.length = t7.frames.length) (gd (t15.2.2.1.length = t7.heap.length) (gd (t15.2.2.2.length = t7.out.length) ((laws_FnExactRun.a1 k p0.funcs p1.frames p1.heap p1.out p1.fuel0 p1.done p1.value p1.trap t5 t8 t15.1).bind fun o1 => Sum.elim (fun o1l => some o1l) (fun o1r => (laws_markState k o1r.2.2.2.2.2.2.2.2.2 1).bind fun t17 => gd (t17.2.1.length = o1r.2.2.2.2.2.2.2.2.2.frames.length) (gd (t17.2.2.1.length = o1r.2.2.2.2.2.2.2.2.2.heap.length) (gd (t17.2.2.2.length = o1r.2.2.2.2.2.2.2.2.2.out.length) ((laws_heldState k ((⟨t17.2.1, t17.2.2.1, t17.2.2.2, o1r.2.2.2.2.2.2.2.2.2.fuel0, o1r.2.2.2.2.2.2.2.2.2.done, o1r.2.2.2.2.2.2.2.2.2.value, o1r.2.2.2.2.2.2.2.2.2.trap⟩ : GState)) 1).bind fun t18 => cond ((decide (t18 < 0))) (some false) (cond ((t18 != t17.1)) (some false) ((laws_toProgram k ((⟨o1r.1⟩ : GProgram))).bind fun t19 => (laws_toState k ((⟨o1r.2.1, o1r.2.2.1, o1r.2.2.2.1, o1r.2.2.2.2.1, o1r.2.2.2.2.2.1, o1r.2.2.2.2.2.2.1, o1r.2.2.2.2.2.2.2.1⟩ : GState))).bind fun t20 => (impl_Run k t19 t20).bind fun t21 => (laws_eqState k t21 o1r.2.2.2.2.2.2.2.2.1).bind fun t22 => cond ((!t22)) (some false) ((laws_heldState k ((⟨t17.2.1, t17.2.2.1, t17.2.2.2, o1r.2.2.2.2.2.2.2.2.2.fuel0, o1r.2.2.2.2.2.2.2.2.2.done, o1r.2.2.2.2.2.2.2.2.2.value, o1r.2.2.2.2.2.2.2.2.2.trap⟩ : GState)) 1).bind fun t23 => cond ((decide (t23 < 0))) (some false) (cond ((t23 != t17.1)) (some false) (some true))))))))) o1)))))))))
theorem c_laws_FnExactRun : (∀ {k : Nat} {p0 : GProgram} {p1 : GState} {r : Bool}, laws_FnExactRun k p0 p1 = some r → Con Tryz.prog 5 [.agg [.d (.row .bor 3 (Rw (GFunc.cells .bor) p0.funcs))], .agg [.d (.row .bor 4 (Rw (GFrame.cells .bor) p1.frames)), .d (.row .bor 1 (Rw (cL .bor 1 (cI .i64)) p1.heap)), .d (.row .bor 1 (Rw (cI .i64) p1.out)), V.int p1.fuel0, V.bool p1.done, V.int p1.value, V.int p1.trap]] [] (V.bool r) []) := by
  all_goals intros
  all_goals rename_i h
  all_goals first
    | (with_reducible refine isf 5 ?_
       refine csw Tryz.func5 Tryz.call5 (by simp [Tryz.ntmps5]) (h := ?_)
       refine mkf 5 fun hF => ?_
       rw [Tryz.ntmps5, Tryz.results5]
       unfold laws_FnExactRun at h)
  all_goals (replace h := Yes.mk h; simp only [entryS, entryO, Nat.reduceAdd, List.length_nil, List.length_cons])
  repeat' (first
 | (with_reducible (first | refine sw_reg ?_ | refine sw_ret ?_ | refine sw_skip ?_ | refine sw_block ?_ | refine sw_exit ?_ | refine seqQ_normal ?_ | refine blockQ_normal ?_ | refine blockQ_ret ?_ | refine blockQ_this ?_ | refine blockQ_other (by decide) ?_ | refine regW_nil ?_ | refine sw_draw mixed ?_ | refine retQ_ret ?_ | refine retQ_normal ?_))
 | (with_reducible refine regD_nil ?_
    refine ⟨by kernel_rfl, ?_⟩)
 | (revert h; (first | ((with_reducible refine idx_elim ?_); intro m hm1 hm2 hm3 h; (try (simp only [Int.reduceToNat] at hm3)); (try (revert hm3; (with_reducible apply same_elim); (focus (with_reducible assumption)); rintro rfl)); (try (simp only [List.length_set, List.length_cons, List.length_nil, List.length_replicate, Nat.reduceAdd, Int.cast_ofNat_Int, Nat.zero_add, List.length_append] at hm2))) | (with_reducible refine sidx_elim ?_; intro m hm1 hm3 h) | (with_reducible refine gd_elim ?_; intro hg h; try (have hg2 := hg.2; have hg := hg.1; (try (simp only [Nat.reduceLeDiff] at hg2)); (try (revert hg2; (with_reducible refine toNat_elim hg ?_); intro hg2 hg4)); try (have hg3 := hg2.2; have hg2 := hg2.1; (try (simp only [Nat.reduceLeDiff] at hg3))))) | (with_reducible refine condt_elim ?_ ?_; (focus (with_reducible assumption)); intro h) | (with_reducible refine condf_elim ?_ ?_; (focus (with_reducible assumption)); intro h)))
 | ((with_reducible first | refine pnR ?_ | refine pnE ?_ | refine pmR ?_ | refine pmE ?_)
    obtain rfl := h.get
    have h := hK
    clear hK
    (try (simp only [Sum.elim_inl, Sum.elim_inr] at h)))
 | ((with_reducible refine fi 5 ?_ ?_); (focus (with_reducible assumption))
    first
    | (with_reducible refine here_join (a := (.seq (.region 21 _ _) _)) (b := (.seq (.region 23 _ _) _)) ?_
       revert h
       with_reducible refine bind_elimY ?_
       intro o1 h hK
       unfold laws_FnExactRun.a1 at h
       refine sw_join (ι := (List GFunc) × (List GFrame) × (List (List Int)) × (List Int) × Int × Bool × Int × Int × GState × GState) 10000000 (fun x => [(.s 2, some (.v (.mp 0 1 0 0))), (.s 3, some (.v (.mp 64 7 0 0))), (.s 6, some (.v (.mp 1344 7 0 0))), (.s 9, some (.v (.mp 2176 7 0 0))), (.r 0, some (.o 1 [[.d (.row .bor 3 (Rw (GFunc.cells .bor) x.1))]])), (.r 64, some (.o 7 [[.d (.row .bor 4 (Rw (GFrame.cells .bor) x.2.1)), .d (.row .bor 1 (Rw (cL .bor 1 (cI .i64)) x.2.2.1)), .d (.row .bor 1 (Rw (cI .i64) x.2.2.2.1)), V.int x.2.2.2.2.1, V.bool x.2.2.2.2.2.1, V.int x.2.2.2.2.2.2.1, V.int x.2.2.2.2.2.2.2.1]])), (.r 1344, some (.o 7 [[.d (.row .own 4 (Rw (GFrame.cells .own) x.2.2.2.2.2.2.2.2.1.frames)), .d (.row .own 1 (Rw (cL .own 1 (cI .i64)) x.2.2.2.2.2.2.2.2.1.heap)), .d (.row .own 1 (Rw (cI .i64) x.2.2.2.2.2.2.2.2.1.out)), V.int x.2.2.2.2.2.2.2.2.1.fuel0, V.bool x.2.2.2.2.2.2.2.2.1.done, V.int x.2.2.2.2.2.2.2.2.1.value, V.int x.2.2.2.2.2.2.2.2.1.trap]])), (.r 2176, some (.o 7 [[.d (.row .own 4 (Rw (GFrame.cells .own) x.2.2.2.2.2.2.2.2.2.frames)), .d (.row .own 1 (Rw (cL .own 1 (cI .i64)) x.2.2.2.2.2.2.2.2.2.heap)), .d (.row .own 1 (Rw (cI .i64) x.2.2.2.2.2.2.2.2.2.out)), V.int x.2.2.2.2.2.2.2.2.2.fuel0, V.bool x.2.2.2.2.2.2.2.2.2.done, V.int x.2.2.2.2.2.2.2.2.2.value, V.int x.2.2.2.2.2.2.2.2.2.trap]]))]) (fun x => Yes (some (.inr x)) o1) ?_ ?_
       rotate_left
       rintro ⟨b1, b2, b3, b4, b5, b6, b7, b8, b9, b10⟩ h
       obtain rfl := h.get
       have h := hK
       clear hK
       (try (simp only [Sum.elim_inl, Sum.elim_inr] at h))
       refine sw_gh ?_
       refine gh_sw ?_)
    | (with_reducible refine here_meet (N0 := 10000000) ?_
       (try (apply gh_resObj 1344; (focus (simp only [putSt, lk, lkb, reduceCtorEq, Nat.reduceEqDiff]; try rfl)); simp only [rxb, Nat.reduceAdd, Nat.reduceLeDiff, rxd, putSt, lk, lkb, reduceCtorEq, Nat.reduceEqDiff, *, mmb, GFrame_Dset, GState_Dset, GI2_Dset, GFunc_Dset, GProgram_Dset, LcIi64_Dset]))
       (try (apply gh_resObj 2176; (focus (simp only [putSt, lk, lkb, reduceCtorEq, Nat.reduceEqDiff]; try rfl)); simp only [rxb, Nat.reduceAdd, Nat.reduceLeDiff, rxd, putSt, lk, lkb, reduceCtorEq, Nat.reduceEqDiff, *, mmb, GFrame_Dset, GState_Dset, GI2_Dset, GFunc_Dset, GProgram_Dset, LcIi64_Dset]))
       refine mtA (_, _, _, _, _, _, _, _, _, _) h))
 | with_reducible refine sw_seq ?_
 | with_reducible refine seqQ_ret ?_
 | with_reducible refine seqQ_exit ?_
 | ((with_reducible refine wp_ite ?_ ?_)
    all_goals (intro hc; (try (simp only [Bool.not_eq_true, Bool.not_eq_false] at hc)); simp only [hc]))
 | (with_reducible refine rskip (hs := ?_) (h2 := ?_)
    · simp only [putSt, lk, lkb, reduceCtorEq, Nat.reduceEqDiff]; done)
 | (with_reducible refine ryes (hs := ?_) (h := ?_)
    · simp only [putSt, lk, lkb, reduceCtorEq, Nat.reduceEqDiff]; done)
 | (with_reducible refine rno (hs := ?_) (h := ?_)
    · simp only [putSt, lk, lkb, reduceCtorEq, Nat.reduceEqDiff, Bool.not_true, Bool.not_false]; done)
 | (with_reducible apply regW_guardN
    · simp only [dstOk, Nat.reduceLT]
    · rfl
    · simp only [putSt, lk, lkb, reduceCtorEq, Nat.reduceEqDiff]; rfl
    all_goals (intro hc; (try (simp only [Bool.not_true, Bool.not_false] at hc))))
 | (with_reducible apply sw_cond
    · simp only [putSt, lk, lkb, reduceCtorEq, Nat.reduceEqDiff]; rfl
    all_goals (intro hc; try (cases hc; done)))
 | ((first
     | ((with_reducible refine gh_ret ?_)
        revert h
        with_reducible refine some_elim ?_
        rintro rfl)
     | (with_reducible refine here_call ?_
        revert h
        with_reducible refine bind_elim ?_
        intro t ht h
        (first
          | ((first
              | ((with_reducible refine here_call (f := 9) ?_); refine call_autoE (c_impl_Run ht) ?_ ?_ ?_)
              | ((with_reducible refine here_call (f := 11) ?_); refine call_autoE (c_spec_Run ht) ?_ ?_ ?_)
              | ((with_reducible refine here_call (f := 20) ?_); refine call_autoE (c_laws_eqState ht) ?_ ?_ ?_)
              | ((with_reducible refine here_call (f := 21) ?_); refine call_autoE (c_laws_eqProgram ht) ?_ ?_ ?_)
              | ((with_reducible refine here_call (f := 24) ?_); refine call_autoE (c_laws_heldState ht) ?_ ?_ ?_))
             · simp only [hyb, hyd, GFrame_lend, GState_lend, GI2_lend, GFunc_lend, GProgram_lend, LcIi64_lend, List.take_of_length_le, putSt, lk, lkb, reduceCtorEq, Nat.reduceEqDiff, *]; first | rfl | done
             · first | rfl | (simp only [nbd, nbb, GFrame_nb, GState_nb, GI2_nb, GFunc_nb, GProgram_nb, LcIi64_nb]; done)
             simp only [V.namesOf, V.namesOfL, List.foldl_cons, List.foldl_nil, List.nil_append, List.append_nil, List.cons_append])
          | ((first
              | ((with_reducible refine here_call (f := 15) ?_); refine call_dataE (c_laws_szProgram ht) ?_ rfl ?_)
              | ((with_reducible refine here_call (f := 16) ?_); refine call_dataE (c_laws_szState ht) ?_ rfl ?_)
              | ((with_reducible refine here_call (f := 18) ?_); refine call_dataE (c_laws_toProgram ht) ?_ rfl ?_)
              | ((with_reducible refine here_call (f := 19) ?_); refine call_dataE (c_laws_toState ht) ?_ rfl ?_))
             · first | rfl | (simp; done))
          | ((first
              | ((with_reducible refine here_call (f := 22) ?_); refine call_obj [1536] (c_laws_markProgram ht) (by decide) ?_ ?_)
              | ((with_reducible refine here_call (f := 23) ?_); refine call_obj [10000064, 10000065, 10000066] (c_laws_markState ht) (by decide) ?_ ?_))
             · first | exact .inl rfl | (refine .inr ⟨?_, ?_⟩; (focus (first | rfl | (simp only [nbd, nbb, GFrame_nb, GState_nb, GI2_nb, GFunc_nb, GProgram_nb, LcIi64_nb]; done))); (focus (simp [C.nb, V.nbLL, V.nbL, V.nb, D.nb]; done)))
             simp only [obd, hyb, hyd, GFrame_lend, GState_lend, GI2_lend, GFunc_lend, GProgram_lend, LcIi64_lend, putSt, lk, lkb, reduceCtorEq, Nat.reduceEqDiff, Prog.wp, Prog.wp_bind, Prog.bind, Prog.ofO, List.take_of_length_le, *])
          | ((with_reducible refine here_call (f := 23) ?_); refine call_obj [1792, 1793, 1794] (c_laws_markState ht) (by decide) ?_ ?_
             · first | exact .inl rfl | (refine .inr ⟨?_, ?_⟩; (focus (first | rfl | (simp only [nbd, nbb, GFrame_nb, GState_nb, GI2_nb, GFunc_nb, GProgram_nb, LcIi64_nb]; done))); (focus (simp [C.nb, V.nbLL, V.nbL, V.nb, D.nb]; done)))
             simp only [obd, hyb, hyd, GFrame_lend, GState_lend, GI2_lend, GFunc_lend, GProgram_lend, LcIi64_lend, putSt, lk, lkb, reduceCtorEq, Nat.reduceEqDiff, Prog.wp, Prog.wp_bind, Prog.bind, Prog.ofO, List.take_of_length_le, *])))
     | (with_reducible (first | refine ropD (h := ?_) | refine ropW (h := ?_))
        intro k hk)
     | skip)
    simp only [RetW, bn, lkb, evb, opC, opP, fetchN, fetchP, fetchAll, fetchO, Prog.bind, Prog.wp, Prog.wp_bind, lk, nameP, nameAll, Value.oneCell', putSt, stepP, putP, reduceCtorEq, V.lin, V.linL, D.lin, isNil, binP, unP, BinOp.isShift, Prog.ofO, Nat.reduceAdd, Nat.reduceMul, Nat.reduceSub, Nat.reduceLT, Nat.reduceLeDiff, Nat.reduceEqDiff, ite_true, ite_false, fieldAddrP, fieldP, indexAddrP, loadP, storeP, boxP, allocP, cellsP, asVal, setSeg, outP, outT, cntT, TyK.field, TyK.agg, zeroRow, V.ren, V.renL, forall_eq_or_imp, forall_const, minmaxP, lenP, lenOf, lenStr, V.asInt, decide_true, decide_false, sliceP, boundP, makeSliceP, convertP, appendP, rowsOfP, ontoP, sizeFits, V.rowSize, TyK.src, resV, resV.go, resV.gol, retP, retOne, retAll, resTo, objsAre, Option.map_eq_map, Function.const_apply, Int.reduceNeg, Int.reduceToNat, ty2, ty3, ty4, ty23, ty25, ty26, ty27, ty28, ty30, ty38, ty40, ty41, ty43, ty56, ty92, ty94, ty98, ty129, ty131, ty133, ty183, GFrame.cells, GFunc.cells, GI2.cells, GProgram.cells, GState.cells, cI, cB, cS, cL, GFrame_e, GState_e, GI2_e, GFunc_e, GProgram_e, LcIi64_e, *]
    try (refine hk.use _ _ _ _ ?_; clear hk k))
 | fail)
  all_goals (try rfl)
  all_goals (try (simp; done))
  all_goals (try (simp_all; done))
set_option linter.defProp false
def laws_FnExactStep.a1 (k : Nat) (a1 : (List GFunc)) (a2 : (List GFrame)) (a3 : (List (List Int))) (a4 : (List Int)) (a5 : Int) (a6 : Bool) (a7 : Int) (a8 : Int) (a9 : GState) (a10 : GState) (a11 : Int) : Option ((Bool) ⊕ ((List GFunc) × (List GFrame) × (List (List Int)) × (List Int) × Int × Bool × Int × Int × GState × GState)) :=
  cond ((decide (a11 < 0))) (some (.inl (false))) ((laws_eqState k a10 a9).bind fun t16 => cond ((!t16)) (some (.inl (false))) (some (.inr (a1, a2, a3, a4, a5, a6, a7, a8, a9, a10))))
def laws_FnExactStep (k : Nat) (p0 : GProgram) (p1 : GState) : Option (Bool) :=
  (laws_szProgram k p0 1048576).bind fun t1 => cond ((decide (t1 < 0))) (some true) ((laws_szState k p1 t1).bind fun t2 => cond ((decide (t2 < 0))) (some true) ((laws_toProgram k p0).bind fun t3 => (laws_toState k p1).bind fun t4 => (spec_Step k t3 t4).bind fun t5 => (laws_toProgram k p0).bind fun t6 => (laws_toState k p1).bind fun t7 => (impl_Step k t6 t7).bind fun t8 => (laws_eqState k t8 t5).bind fun t9 => cond ((!t9)) (some false) ((laws_toProgram k p0).bind fun t10 => (laws_eqProgram k t6 t10).bind fun t11 => cond ((!t11)) (some false) ((laws_toState k p1).bind fun t12 => (laws_eqState k t7 t12).bind fun t13 => cond ((!t13)) (some false) ((laws_markProgram k t6 1).bind fun t14 => gd (t14.2.length = t6.funcs.length) ((laws_markState k t7 t14.1).bind fun t15 => gd (t15.2.1.length = t7.frames.length) (gd (t15.2.2.1.length = t7.heap.length) (gd (t15.2.2.2.length = t7.out.length) ((laws_FnExactStep.a1 k p0.funcs p1.frames p1.heap p1.out p1.fuel0 p1.done p1.value p1.trap t5 t8 t15.1).bind fun o1 => Sum.elim (fun o1l => some o1l) (fun o1r => (laws_markState k o1r.2.2.2.2.2.2.2.2.2 1).bind fun t17 => gd (t17.2.1.length = o1r.2.2.2.2.2.2.2.2.2.frames.length) (gd (t17.2.2.1.length = o1r.2.2.2.2.2.2.2.2.2.heap.length) (gd (t17.2.2.2.length = o1r.2.2.2.2.2.2.2.2.2.out.length) ((laws_heldState k ((⟨t17.2.1, t17.2.2.1, t17.2.2.2, o1r.2.2.2.2.2.2.2.2.2.fuel0, o1r.2.2.2.2.2.2.2.2.2.done, o1r.2.2.2.2.2.2.2.2.2.value, o1r.2.2.2.2.2.2.2.2.2.trap⟩ : GState)) 1).bind fun t18 => cond ((decide (t18 < 0))) (some false) (cond ((t18 != t17.1)) (some false) ((laws_toProgram k ((⟨o1r.1⟩ : GProgram))).bind fun t19 => (laws_toState k ((⟨o1r.2.1, o1r.2.2.1, o1r.2.2.2.1, o1r.2.2.2.2.1, o1r.2.2.2.2.2.1, o1r.2.2.2.2.2.2.1, o1r.2.2.2.2.2.2.2.1⟩ : GState))).bind fun t20 => (impl_Step k t19 t20).bind fun t21 => (laws_eqState k t21 o1r.2.2.2.2.2.2.2.2.1).bind fun t22 => cond ((!t22)) (some false) ((laws_heldState k ((⟨t17.2.1, t17.2.2.1, t17.2.2.2, o1r.2.2.2.2.2.2.2.2.2.fuel0, o1r.2.2.2.2.2.2.2.2.2.done, o1r.2.2.2.2.2.2.2.2.2.value, o1r.2.2.2.2.2.2.2.2.2.trap⟩ : GState)) 1).bind fun t23 => cond ((decide (t23 < 0))) (some false) (cond ((t23 != t17.1)) (some false) (some true))))))))) o1)))))))))
theorem c_laws_FnExactStep : (∀ {k : Nat} {p0 : GProgram} {p1 : GState} {r : Bool}, laws_FnExactStep k p0 p1 = some r → Con Tryz.prog 4 [.agg [.d (.row .bor 3 (Rw (GFunc.cells .bor) p0.funcs))], .agg [.d (.row .bor 4 (Rw (GFrame.cells .bor) p1.frames)), .d (.row .bor 1 (Rw (cL .bor 1 (cI .i64)) p1.heap)), .d (.row .bor 1 (Rw (cI .i64) p1.out)), V.int p1.fuel0, V.bool p1.done, V.int p1.value, V.int p1.trap]] [] (V.bool r) []) := by
  all_goals intros
  all_goals rename_i h
  all_goals first
    | (with_reducible refine isf 4 ?_
       refine csw Tryz.func4 Tryz.call4 (by simp [Tryz.ntmps4]) (h := ?_)
       refine mkf 4 fun hF => ?_
       rw [Tryz.ntmps4, Tryz.results4]
       unfold laws_FnExactStep at h)
  all_goals (replace h := Yes.mk h; simp only [entryS, entryO, Nat.reduceAdd, List.length_nil, List.length_cons])
  repeat' (first
 | (with_reducible (first | refine sw_reg ?_ | refine sw_ret ?_ | refine sw_skip ?_ | refine sw_block ?_ | refine sw_exit ?_ | refine seqQ_normal ?_ | refine blockQ_normal ?_ | refine blockQ_ret ?_ | refine blockQ_this ?_ | refine blockQ_other (by decide) ?_ | refine regW_nil ?_ | refine sw_draw mixed ?_ | refine retQ_ret ?_ | refine retQ_normal ?_))
 | (with_reducible refine regD_nil ?_
    refine ⟨by kernel_rfl, ?_⟩)
 | (revert h; (first | ((with_reducible refine idx_elim ?_); intro m hm1 hm2 hm3 h; (try (simp only [Int.reduceToNat] at hm3)); (try (revert hm3; (with_reducible apply same_elim); (focus (with_reducible assumption)); rintro rfl)); (try (simp only [List.length_set, List.length_cons, List.length_nil, List.length_replicate, Nat.reduceAdd, Int.cast_ofNat_Int, Nat.zero_add, List.length_append] at hm2))) | (with_reducible refine sidx_elim ?_; intro m hm1 hm3 h) | (with_reducible refine gd_elim ?_; intro hg h; try (have hg2 := hg.2; have hg := hg.1; (try (simp only [Nat.reduceLeDiff] at hg2)); (try (revert hg2; (with_reducible refine toNat_elim hg ?_); intro hg2 hg4)); try (have hg3 := hg2.2; have hg2 := hg2.1; (try (simp only [Nat.reduceLeDiff] at hg3))))) | (with_reducible refine condt_elim ?_ ?_; (focus (with_reducible assumption)); intro h) | (with_reducible refine condf_elim ?_ ?_; (focus (with_reducible assumption)); intro h)))
 | ((with_reducible first | refine pnR ?_ | refine pnE ?_ | refine pmR ?_ | refine pmE ?_)
    obtain rfl := h.get
    have h := hK
    clear hK
    (try (simp only [Sum.elim_inl, Sum.elim_inr] at h)))
 | ((with_reducible refine fi 4 ?_ ?_); (focus (with_reducible assumption))
    first
    | (with_reducible refine here_join (a := (.seq (.region 21 _ _) _)) (b := (.seq (.region 23 _ _) _)) ?_
       revert h
       with_reducible refine bind_elimY ?_
       intro o1 h hK
       unfold laws_FnExactStep.a1 at h
       refine sw_join (ι := (List GFunc) × (List GFrame) × (List (List Int)) × (List Int) × Int × Bool × Int × Int × GState × GState) 10000000 (fun x => [(.s 2, some (.v (.mp 0 1 0 0))), (.s 3, some (.v (.mp 64 7 0 0))), (.s 6, some (.v (.mp 1344 7 0 0))), (.s 9, some (.v (.mp 2176 7 0 0))), (.r 0, some (.o 1 [[.d (.row .bor 3 (Rw (GFunc.cells .bor) x.1))]])), (.r 64, some (.o 7 [[.d (.row .bor 4 (Rw (GFrame.cells .bor) x.2.1)), .d (.row .bor 1 (Rw (cL .bor 1 (cI .i64)) x.2.2.1)), .d (.row .bor 1 (Rw (cI .i64) x.2.2.2.1)), V.int x.2.2.2.2.1, V.bool x.2.2.2.2.2.1, V.int x.2.2.2.2.2.2.1, V.int x.2.2.2.2.2.2.2.1]])), (.r 1344, some (.o 7 [[.d (.row .own 4 (Rw (GFrame.cells .own) x.2.2.2.2.2.2.2.2.1.frames)), .d (.row .own 1 (Rw (cL .own 1 (cI .i64)) x.2.2.2.2.2.2.2.2.1.heap)), .d (.row .own 1 (Rw (cI .i64) x.2.2.2.2.2.2.2.2.1.out)), V.int x.2.2.2.2.2.2.2.2.1.fuel0, V.bool x.2.2.2.2.2.2.2.2.1.done, V.int x.2.2.2.2.2.2.2.2.1.value, V.int x.2.2.2.2.2.2.2.2.1.trap]])), (.r 2176, some (.o 7 [[.d (.row .own 4 (Rw (GFrame.cells .own) x.2.2.2.2.2.2.2.2.2.frames)), .d (.row .own 1 (Rw (cL .own 1 (cI .i64)) x.2.2.2.2.2.2.2.2.2.heap)), .d (.row .own 1 (Rw (cI .i64) x.2.2.2.2.2.2.2.2.2.out)), V.int x.2.2.2.2.2.2.2.2.2.fuel0, V.bool x.2.2.2.2.2.2.2.2.2.done, V.int x.2.2.2.2.2.2.2.2.2.value, V.int x.2.2.2.2.2.2.2.2.2.trap]]))]) (fun x => Yes (some (.inr x)) o1) ?_ ?_
       rotate_left
       rintro ⟨b1, b2, b3, b4, b5, b6, b7, b8, b9, b10⟩ h
       obtain rfl := h.get
       have h := hK
       clear hK
       (try (simp only [Sum.elim_inl, Sum.elim_inr] at h))
       refine sw_gh ?_
       refine gh_sw ?_)
    | (with_reducible refine here_meet (N0 := 10000000) ?_
       (try (apply gh_resObj 1344; (focus (simp only [putSt, lk, lkb, reduceCtorEq, Nat.reduceEqDiff]; try rfl)); simp only [rxb, Nat.reduceAdd, Nat.reduceLeDiff, rxd, putSt, lk, lkb, reduceCtorEq, Nat.reduceEqDiff, *, mmb, GFrame_Dset, GState_Dset, GI2_Dset, GFunc_Dset, GProgram_Dset, LcIi64_Dset]))
       (try (apply gh_resObj 2176; (focus (simp only [putSt, lk, lkb, reduceCtorEq, Nat.reduceEqDiff]; try rfl)); simp only [rxb, Nat.reduceAdd, Nat.reduceLeDiff, rxd, putSt, lk, lkb, reduceCtorEq, Nat.reduceEqDiff, *, mmb, GFrame_Dset, GState_Dset, GI2_Dset, GFunc_Dset, GProgram_Dset, LcIi64_Dset]))
       refine mtA (_, _, _, _, _, _, _, _, _, _) h))
 | with_reducible refine sw_seq ?_
 | with_reducible refine seqQ_ret ?_
 | with_reducible refine seqQ_exit ?_
 | ((with_reducible refine wp_ite ?_ ?_)
    all_goals (intro hc; (try (simp only [Bool.not_eq_true, Bool.not_eq_false] at hc)); simp only [hc]))
 | (with_reducible refine rskip (hs := ?_) (h2 := ?_)
    · simp only [putSt, lk, lkb, reduceCtorEq, Nat.reduceEqDiff]; done)
 | (with_reducible refine ryes (hs := ?_) (h := ?_)
    · simp only [putSt, lk, lkb, reduceCtorEq, Nat.reduceEqDiff]; done)
 | (with_reducible refine rno (hs := ?_) (h := ?_)
    · simp only [putSt, lk, lkb, reduceCtorEq, Nat.reduceEqDiff, Bool.not_true, Bool.not_false]; done)
 | (with_reducible apply regW_guardN
    · simp only [dstOk, Nat.reduceLT]
    · rfl
    · simp only [putSt, lk, lkb, reduceCtorEq, Nat.reduceEqDiff]; rfl
    all_goals (intro hc; (try (simp only [Bool.not_true, Bool.not_false] at hc))))
 | (with_reducible apply sw_cond
    · simp only [putSt, lk, lkb, reduceCtorEq, Nat.reduceEqDiff]; rfl
    all_goals (intro hc; try (cases hc; done)))
 | ((first
     | ((with_reducible refine gh_ret ?_)
        revert h
        with_reducible refine some_elim ?_
        rintro rfl)
     | (with_reducible refine here_call ?_
        revert h
        with_reducible refine bind_elim ?_
        intro t ht h
        (first
          | ((first
              | ((with_reducible refine here_call (f := 12) ?_); refine call_autoE (c_impl_Step ht) ?_ ?_ ?_)
              | ((with_reducible refine here_call (f := 17) ?_); refine call_autoE (c_spec_Step ht) ?_ ?_ ?_)
              | ((with_reducible refine here_call (f := 20) ?_); refine call_autoE (c_laws_eqState ht) ?_ ?_ ?_)
              | ((with_reducible refine here_call (f := 21) ?_); refine call_autoE (c_laws_eqProgram ht) ?_ ?_ ?_)
              | ((with_reducible refine here_call (f := 24) ?_); refine call_autoE (c_laws_heldState ht) ?_ ?_ ?_))
             · simp only [hyb, hyd, GFrame_lend, GState_lend, GI2_lend, GFunc_lend, GProgram_lend, LcIi64_lend, List.take_of_length_le, putSt, lk, lkb, reduceCtorEq, Nat.reduceEqDiff, *]; first | rfl | done
             · first | rfl | (simp only [nbd, nbb, GFrame_nb, GState_nb, GI2_nb, GFunc_nb, GProgram_nb, LcIi64_nb]; done)
             simp only [V.namesOf, V.namesOfL, List.foldl_cons, List.foldl_nil, List.nil_append, List.append_nil, List.cons_append])
          | ((first
              | ((with_reducible refine here_call (f := 15) ?_); refine call_dataE (c_laws_szProgram ht) ?_ rfl ?_)
              | ((with_reducible refine here_call (f := 16) ?_); refine call_dataE (c_laws_szState ht) ?_ rfl ?_)
              | ((with_reducible refine here_call (f := 18) ?_); refine call_dataE (c_laws_toProgram ht) ?_ rfl ?_)
              | ((with_reducible refine here_call (f := 19) ?_); refine call_dataE (c_laws_toState ht) ?_ rfl ?_))
             · first | rfl | (simp; done))
          | ((first
              | ((with_reducible refine here_call (f := 22) ?_); refine call_obj [1536] (c_laws_markProgram ht) (by decide) ?_ ?_)
              | ((with_reducible refine here_call (f := 23) ?_); refine call_obj [10000064, 10000065, 10000066] (c_laws_markState ht) (by decide) ?_ ?_))
             · first | exact .inl rfl | (refine .inr ⟨?_, ?_⟩; (focus (first | rfl | (simp only [nbd, nbb, GFrame_nb, GState_nb, GI2_nb, GFunc_nb, GProgram_nb, LcIi64_nb]; done))); (focus (simp [C.nb, V.nbLL, V.nbL, V.nb, D.nb]; done)))
             simp only [obd, hyb, hyd, GFrame_lend, GState_lend, GI2_lend, GFunc_lend, GProgram_lend, LcIi64_lend, putSt, lk, lkb, reduceCtorEq, Nat.reduceEqDiff, Prog.wp, Prog.wp_bind, Prog.bind, Prog.ofO, List.take_of_length_le, *])
          | ((with_reducible refine here_call (f := 23) ?_); refine call_obj [1792, 1793, 1794] (c_laws_markState ht) (by decide) ?_ ?_
             · first | exact .inl rfl | (refine .inr ⟨?_, ?_⟩; (focus (first | rfl | (simp only [nbd, nbb, GFrame_nb, GState_nb, GI2_nb, GFunc_nb, GProgram_nb, LcIi64_nb]; done))); (focus (simp [C.nb, V.nbLL, V.nbL, V.nb, D.nb]; done)))
             simp only [obd, hyb, hyd, GFrame_lend, GState_lend, GI2_lend, GFunc_lend, GProgram_lend, LcIi64_lend, putSt, lk, lkb, reduceCtorEq, Nat.reduceEqDiff, Prog.wp, Prog.wp_bind, Prog.bind, Prog.ofO, List.take_of_length_le, *])))
     | (with_reducible (first | refine ropD (h := ?_) | refine ropW (h := ?_))
        intro k hk)
     | skip)
    simp only [RetW, bn, lkb, evb, opC, opP, fetchN, fetchP, fetchAll, fetchO, Prog.bind, Prog.wp, Prog.wp_bind, lk, nameP, nameAll, Value.oneCell', putSt, stepP, putP, reduceCtorEq, V.lin, V.linL, D.lin, isNil, binP, unP, BinOp.isShift, Prog.ofO, Nat.reduceAdd, Nat.reduceMul, Nat.reduceSub, Nat.reduceLT, Nat.reduceLeDiff, Nat.reduceEqDiff, ite_true, ite_false, fieldAddrP, fieldP, indexAddrP, loadP, storeP, boxP, allocP, cellsP, asVal, setSeg, outP, outT, cntT, TyK.field, TyK.agg, zeroRow, V.ren, V.renL, forall_eq_or_imp, forall_const, minmaxP, lenP, lenOf, lenStr, V.asInt, decide_true, decide_false, sliceP, boundP, makeSliceP, convertP, appendP, rowsOfP, ontoP, sizeFits, V.rowSize, TyK.src, resV, resV.go, resV.gol, retP, retOne, retAll, resTo, objsAre, Option.map_eq_map, Function.const_apply, Int.reduceNeg, Int.reduceToNat, ty2, ty3, ty4, ty23, ty25, ty26, ty27, ty28, ty30, ty38, ty40, ty41, ty43, ty56, ty92, ty94, ty98, ty129, ty131, ty133, ty183, GFrame.cells, GFunc.cells, GI2.cells, GProgram.cells, GState.cells, cI, cB, cS, cL, GFrame_e, GState_e, GI2_e, GFunc_e, GProgram_e, LcIi64_e, *]
    try (refine hk.use _ _ _ _ ?_; clear hk k))
 | fail)
  all_goals (try rfl)
  all_goals (try (simp; done))
  all_goals (try (simp_all; done))
end Go.Proofs.YtdlaplgofgklnaaGreat