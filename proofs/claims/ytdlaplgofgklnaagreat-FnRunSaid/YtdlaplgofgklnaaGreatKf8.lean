/- WHAT IS PROVED: an abstract walker over the model, what some functions of the program answer, and laws of these answers. Conditions: none. -/
import Derived.Test.YtdlaplgofgklnaaGreatKf5
namespace Go.Proofs.YtdlaplgofgklnaaGreat
open Go.Proofs Go.Proofs.YtdlaplgofgklnaaGreat.L
set_option maxHeartbeats 8000000
set_option linter.unusedSimpArgs false
set_option linter.unusedVariables false
set_option maxRecDepth 100000
set_option linter.defProp false
def impl_prog_first (p0 : Gprog) (p1 : Int) (p2 : (List Int)) : Option (GFrame) :=
  (idx p0.program.funcs p1).bind fun m1 => gd (0 ≤ m1.locals ∧ m1.locals * 8 ≤ 35184372088832 ∧ m1.locals ≤ 35184372088832) (some ((⟨p1, 0, (cpyL ((List.replicate m1.locals.toNat 0)) 0 m1.locals.toNat p2), []⟩ : GFrame)))
def spec_l06Frame (p0 : GProgram) (p1 : Int) (p2 : (List Int)) : Option (GFrame) :=
  (idx p0.funcs p1).bind fun m1 => gd (0 ≤ m1.locals ∧ m1.locals * 8 ≤ 35184372088832 ∧ m1.locals ≤ 35184372088832) (some ((⟨p1, 0, (cpyL ((List.replicate m1.locals.toNat 0)) 0 m1.locals.toNat p2), []⟩ : GFrame)))
theorem gr7 : (∀ {p0 : Gprog} {p1 : Int} {p2 : (List Int)} {r : GFrame}, impl_prog_first p0 p1 p2 = some r → Con Tryz.prog 80 [.d (.ptr .bor [.row .bor 3 (Rw (GFunc.cells .bor) p0.program.funcs), .row .bor 1 (Rw (cL .bor 1 (cI .i64)) p0.h)]), V.int p1, .d (.row .bor 1 (Rw (cI .i64) p2))] [] (.agg [V.int r.func0, V.int r.pc, .d (.row .own 1 (Rw (cI .i64) r.locals)), .d (.row .own 1 (Rw (cI .i64) r.stack))]) []) ∧
  (∀ {p0 : GProgram} {p1 : Int} {p2 : (List Int)} {r : GFrame}, spec_l06Frame p0 p1 p2 = some r → Con Tryz.prog 87 [.agg [.d (.row .bor 3 (Rw (GFunc.cells .bor) p0.funcs))], V.int p1, .d (.row .bor 1 (Rw (cI .i64) p2))] [] (.agg [V.int r.func0, V.int r.pc, .d (.row .own 1 (Rw (cI .i64) r.locals)), .d (.row .own 1 (Rw (cI .i64) r.stack))]) []) := by
  refine ⟨?_, ?_⟩
  all_goals intros
  all_goals rename_i h
  all_goals first
    | (with_reducible refine isf 80 ?_
       refine csw Tryz.func80 Tryz.call80 (by simp [Tryz.ntmps80]) (h := ?_)
       refine mkf 80 fun hF => ?_
       rw [Tryz.ntmps80, Tryz.results80]
       unfold impl_prog_first at h)
    | (with_reducible refine isf 87 ?_
       refine csw Tryz.func87 Tryz.call87 (by simp [Tryz.ntmps87]) (h := ?_)
       refine mkf 87 fun hF => ?_
       rw [Tryz.ntmps87, Tryz.results87]
       unfold spec_l06Frame at h)
  all_goals (replace h := Yes.mk h; simp only [entryS, entryO, Nat.reduceAdd, List.length_nil, List.length_cons])
  repeat' (first
 | (with_reducible (first | refine sw_reg ?_ | refine sw_ret ?_ | refine sw_skip ?_ | refine sw_block ?_ | refine sw_exit ?_ | refine seqQ_normal ?_ | refine blockQ_normal ?_ | refine blockQ_ret ?_ | refine blockQ_this ?_ | refine blockQ_other (by decide) ?_ | refine regW_nil ?_ | refine sw_draw mixed ?_ | refine retQ_ret ?_ | refine retQ_normal ?_))
 | (with_reducible refine regD_nil ?_
    refine ⟨by kernel_rfl, ?_⟩)
 | (revert h; (first | ((with_reducible refine idx_elim ?_); intro m hm1 hm2 hm3 h; (try (simp only [Int.reduceToNat] at hm3)); (try (revert hm3; (with_reducible apply same_elim); (focus (with_reducible assumption)); rintro rfl)); (try (simp only [List.length_set, List.length_cons, List.length_nil, List.length_replicate, Nat.reduceAdd, Int.cast_ofNat_Int, Nat.zero_add, List.length_append] at hm2))) | (with_reducible refine sidx_elim ?_; intro m hm1 hm3 h) | (with_reducible refine gd_elim ?_; intro hg h; try (have hg2 := hg.2; have hg := hg.1; (try (simp only [Nat.reduceLeDiff] at hg2)); (try (revert hg2; (with_reducible refine toNat_elim hg ?_); intro hg2 hg4)); try (have hg3 := hg2.2; have hg2 := hg2.1; (try (simp only [Nat.reduceLeDiff] at hg3))))) | (with_reducible refine condt_elim ?_ ?_; (focus (with_reducible assumption)); intro h) | (with_reducible refine condf_elim ?_ ?_; (focus (with_reducible assumption)); intro h)))
 | with_reducible refine sw_seq ?_
 | with_reducible refine seqQ_ret ?_
 | with_reducible refine seqQ_exit ?_
 | ((with_reducible refine fi 80 ?_ ?_); (focus (with_reducible assumption))
    first
    | (with_reducible refine here_retw ?_
       with_reducible apply gh_conv 0
       · simp only [lkd, lkb, reduceCtorEq, Nat.reduceEqDiff]; rfl
       · exact .cons (.cons .same (.cons .same (.cons .same (.cons (.nil (m := .own) (s := 1)) (.nil))))) .nil
       skip))
 | ((with_reducible refine fi 87 ?_ ?_); (focus (with_reducible assumption))
    first
    | (with_reducible refine here_retw ?_
       with_reducible apply gh_conv 64
       · simp only [lkd, lkb, reduceCtorEq, Nat.reduceEqDiff]; rfl
       · exact .cons (.cons .same (.cons .same (.cons .same (.cons (.nil (m := .own) (s := 1)) (.nil))))) .nil
       skip))
 | ((with_reducible refine wp_ite ?_ ?_)
    all_goals (intro hc; (try (simp only [Bool.not_eq_true, Bool.not_eq_false] at hc)); simp only [hc]))
 | (with_reducible refine rskip (hs := ?_) (h2 := ?_)
    · simp only [lkd, lkb, reduceCtorEq, Nat.reduceEqDiff]; done)
 | (with_reducible refine ryes (hs := ?_) (h := ?_)
    · simp only [lkd, lkb, reduceCtorEq, Nat.reduceEqDiff]; done)
 | (with_reducible refine rno (hs := ?_) (h := ?_)
    · simp only [lkd, lkb, reduceCtorEq, Nat.reduceEqDiff, Bool.not_true, Bool.not_false]; done)
 | (with_reducible apply regW_guardN
    · simp only [dstOk, Nat.reduceLT]
    · rfl
    · simp only [lkd, lkb, reduceCtorEq, Nat.reduceEqDiff]; rfl
    all_goals (intro hc; (try (simp only [Bool.not_true, Bool.not_false] at hc))))
 | (with_reducible apply sw_cond
    · simp only [lkd, lkb, reduceCtorEq, Nat.reduceEqDiff]; rfl
    all_goals (intro hc; try (cases hc; done)))
 | ((first
     | ((with_reducible refine gh_ret ?_)
        revert h
        with_reducible refine some_elim ?_
        rintro rfl)
     | (with_reducible (first | refine ropD (h := ?_) | refine ropW (h := ?_))
        intro k hk)
     | skip)
    simp only [bn, lkb, evb, evd, Value.oneCell', setSegV, reduceCtorEq, Nat.reduceAdd, Nat.reduceMul, Nat.reduceSub, Nat.reduceLT, Nat.reduceLeDiff, Nat.reduceEqDiff, Int.reduceNeg, Int.reduceToNat, ty2, ty23, ty25, ty27, ty28, ty56, ty58, ty92, ty94, ty98, ty102, GFrame.cells, GFunc.cells, GI2.cells, GProgram.cells, Gprog.cells, cI, cB, cS, cL, GI2_e, GFunc_e, GProgram_e, GFrame_e, Gprog_e, LcIi64_e, buildP, buildSliceP, putParts, structPlaces, chunks, List.replicate, List.flatten_nil, List.flatten_cons, Option.bind_some, nilEqP, ne_eq, not_false_eq_true, not_true_eq_false, copyP, Rw_copy, Rw_copy', cpyL_length, cpyL_take, *]
    try (refine hk.use _ _ _ _ ?_; clear hk k))
 | fail)
  all_goals (try rfl)
  all_goals (try (simp; done))
  all_goals (try (simp_all; done))
def c_impl_prog_first := @And.left _ _ gr7
def c_spec_l06Frame := (@And.right _ _ gr7)
end Go.Proofs.YtdlaplgofgklnaaGreat