/- WHAT IS PROVED: an abstract walker over the model, what some functions of the program answer, and laws of these answers. Conditions: none. -/
import Derived.Test.YtdlaplgofgklnaaGreatKs14
namespace Go.Proofs.YtdlaplgofgklnaaGreat
open Go.Proofs Go.Proofs.YtdlaplgofgklnaaGreat.L
set_option maxHeartbeats 8000000
set_option linter.unusedSimpArgs false
set_option linter.unusedVariables false
set_option maxRecDepth 100000
set_option linter.defProp false
def impl_known (k : Nat) (p0 : GProgram) : Option (Gprog × Bool) :=
  (impl_verify k p0).bind fun t1 => some ((⟨p0, t1.2⟩ : Gprog), (t1.1.c == 0))
def spec_l04Right (k : Nat) (p0 : GProgram) : Option (Bool) :=
  (spec_Verify k p0).bind fun t1 => some ((t1.c == 0))
theorem gs27 : (∀ {k : Nat} {p0 : GProgram} {r : Gprog × Bool}, impl_known k p0 = some r → Con Tryz.prog 30 [.agg [.d (.row .bor 3 (Rw (GFunc.cells .bor) p0.funcs))]] [] (.tup [.d (.ptr .own [.row .bor 3 (Rw (GFunc.cells .bor) r.1.program.funcs), .row .own 1 (Rw (cL .own 1 (cI .i64)) r.1.h)]), V.bool r.2]) []) ∧
  (∀ {k : Nat} {p0 : GProgram} {r : Bool}, spec_l04Right k p0 = some r → Con Tryz.prog 26 [.agg [.d (.row .bor 3 (Rw (GFunc.cells .bor) p0.funcs))]] [] (V.bool r) []) := by
  refine ⟨?_, ?_⟩
  all_goals intros
  all_goals rename_i h
  all_goals first
    | (with_reducible refine isf 30 ?_
       refine csw Tryz.func30 Tryz.call30 (by simp [Tryz.ntmps30]) (h := ?_)
       refine mkf 30 fun hF => ?_
       rw [Tryz.ntmps30, Tryz.results30]
       unfold impl_known at h)
    | (with_reducible refine isf 26 ?_
       refine csw Tryz.func26 Tryz.call26 (by simp [Tryz.ntmps26]) (h := ?_)
       refine mkf 26 fun hF => ?_
       rw [Tryz.ntmps26, Tryz.results26]
       unfold spec_l04Right at h)
  all_goals (replace h := Yes.mk h; simp only [entryS, entryO, Nat.reduceAdd, List.length_nil, List.length_cons])
  repeat' (first
 | (with_reducible (first | refine sw_reg ?_ | refine sw_ret ?_ | refine sw_skip ?_ | refine sw_block ?_ | refine sw_exit ?_ | refine seqQ_normal ?_ | refine blockQ_normal ?_ | refine blockQ_ret ?_ | refine blockQ_this ?_ | refine blockQ_other (by decide) ?_ | refine regW_nil ?_ | refine sw_draw mixed ?_ | refine retQ_ret ?_ | refine retQ_normal ?_))
 | (with_reducible refine regD_nil ?_
    refine ⟨by kernel_rfl, ?_⟩)
 | (revert h; (first | ((with_reducible refine idx_elim ?_); intro m hm1 hm2 hm3 h; (try (simp only [Int.reduceToNat] at hm3)); (try (revert hm3; (with_reducible apply same_elim); (focus (with_reducible assumption)); rintro rfl)); (try (simp only [List.length_set, List.length_cons, List.length_nil, List.length_replicate, Nat.reduceAdd, Int.cast_ofNat_Int, Nat.zero_add, List.length_append] at hm2))) | (with_reducible refine sidx_elim ?_; intro m hm1 hm3 h) | (with_reducible refine gd_elim ?_; intro hg h; try (have hg2 := hg.2; have hg := hg.1; (try (simp only [Nat.reduceLeDiff] at hg2)); (try (revert hg2; (with_reducible refine toNat_elim hg ?_); intro hg2 hg4)); try (have hg3 := hg2.2; have hg2 := hg2.1; (try (simp only [Nat.reduceLeDiff] at hg3))))) | (with_reducible refine condt_elim ?_ ?_; (focus (with_reducible assumption)); intro h) | (with_reducible refine condf_elim ?_ ?_; (focus (with_reducible assumption)); intro h)))
 | with_reducible refine sw_seq ?_
 | with_reducible refine seqQ_ret ?_
 | with_reducible refine seqQ_exit ?_
 | ((with_reducible refine wp_ite ?_ ?_)
    all_goals (intro hc; (try (simp only [Bool.not_eq_true, Bool.not_eq_false] at hc)); simp only [hc]))
 | (with_reducible refine rskip (hs := ?_) (h2 := ?_)
    · simp only [putSt, lk, lkb, reduceCtorEq, Nat.reduceEqDiff]; done)
 | (with_reducible refine ryes (hs := ?_) (h := ?_)
    · simp only [putSt, lk, lkb, reduceCtorEq, Nat.reduceEqDiff]; done)
 | (with_reducible refine rno (hs := ?_) (h := ?_)
    · simp only [putSt, lk, lkb, reduceCtorEq, Nat.reduceEqDiff, Bool.not_true, Bool.not_false]; done)
 | (with_reducible apply regW_guardN
    · simp only [dstOk, Nat.reduceLT]
    · rfl
    · simp only [putSt, lk, lkb, reduceCtorEq, Nat.reduceEqDiff]; rfl
    all_goals (intro hc; (try (simp only [Bool.not_true, Bool.not_false] at hc))))
 | (with_reducible apply sw_cond
    · simp only [putSt, lk, lkb, reduceCtorEq, Nat.reduceEqDiff]; rfl
    all_goals (intro hc; try (cases hc; done)))
 | ((first
     | ((with_reducible refine gh_ret ?_)
        revert h
        with_reducible refine some_elim ?_
        rintro rfl)
     | (with_reducible refine here_call ?_
        revert h
        with_reducible refine bind_elim ?_
        intro t ht h
        (first
          | ((first
              | ((with_reducible refine here_call (f := 70) ?_); refine call_dataE (c_impl_verify ht) ?_ rfl ?_)
              | ((with_reducible refine here_call (f := 68) ?_); refine call_dataE (c_spec_Verify ht) ?_ rfl ?_))
             · first | rfl | (simp; done))))
     | (with_reducible (first | refine ropD (h := ?_) | refine ropW (h := ?_))
        intro k hk)
     | skip)
    simp only [RetW, bn, lkb, evb, opC, opP, fetchN, fetchP, fetchAll, fetchO, Prog.bind, Prog.wp, Prog.wp_bind, lk, nameP, nameAll, Value.oneCell', putSt, stepP, putP, reduceCtorEq, V.lin, V.linL, D.lin, isNil, binP, unP, BinOp.isShift, Prog.ofO, Nat.reduceAdd, Nat.reduceMul, Nat.reduceSub, Nat.reduceLT, Nat.reduceLeDiff, Nat.reduceEqDiff, ite_true, ite_false, fieldAddrP, fieldP, indexAddrP, loadP, storeP, boxP, allocP, cellsP, asVal, setSeg, outP, outT, cntT, TyK.field, TyK.agg, zeroRow, V.ren, V.renL, forall_eq_or_imp, forall_const, minmaxP, lenP, lenOf, lenStr, V.asInt, decide_true, decide_false, sliceP, boundP, makeSliceP, convertP, appendP, rowsOfP, ontoP, sizeFits, V.rowSize, TyK.src, resV, resV.go, resV.gol, retP, retOne, retAll, resTo, objsAre, Option.map_eq_map, Function.const_apply, Int.reduceNeg, Int.reduceToNat, ty2, ty4, ty23, ty25, ty27, ty28, ty58, ty90, ty92, ty94, ty98, ty102, GFunc.cells, GI2.cells, GI3.cells, GProgram.cells, Gprog.cells, cI, cB, cS, cL, GI2_e, GFunc_e, GProgram_e, Gprog_e, GI3_e, LcIi64_e, buildP, buildSliceP, putParts, structPlaces, chunks, List.replicate, List.flatten_nil, List.flatten_cons, Option.bind_some, nilEqP, ne_eq, not_false_eq_true, not_true_eq_false, *]
    try (refine hk.use _ _ _ _ ?_; clear hk k))
 | fail)
  all_goals (try rfl)
  all_goals (try (simp; done))
  all_goals (try (simp_all; done))
def c_impl_known := @And.left _ _ gs27
def c_spec_l04Right := (@And.right _ _ gs27)
end Go.Proofs.YtdlaplgofgklnaaGreat