/- WHAT IS PROVED: an abstract walker over the model, what some functions of the program answer, and laws of these answers. Conditions: none. -/
import Derived.Test.YtfdgjiifeijjfaaGreatDoorKe13
namespace Go.Proofs.YtfdgjiifeijjfaaGreatDoor
open Go.Proofs Go.Proofs.YtfdgjiifeijjfaaGreatDoor.L
set_option maxHeartbeats 8000000
set_option linter.unusedSimpArgs false
set_option linter.unusedVariables false
set_option maxRecDepth 100000
set_option linter.defProp false
def laws_FnExactAsmText (k : Nat) (p0 : GProgram) (p1 : GAsm) : Option (Bool) :=
  (laws_szProgram k p0 1048576).bind fun t1 => cond ((decide (t1 < 0))) (some true) ((laws_szAsm k p1 t1).bind fun t2 => cond ((decide (t2 < 0))) (some true) ((laws_toProgram k p0).bind fun t3 => (laws_toAsm k p1).bind fun t4 => (spec_AsmText k t3 t4).bind fun t5 => (laws_toProgram k p0).bind fun t6 => (laws_toAsm k p1).bind fun t7 => (impl_AsmText k t6 t7).bind fun t8 => cond ((!(t8.toList == t5.toList))) (some false) ((laws_toProgram k p0).bind fun t9 => (laws_eqProgram k t6 t9).bind fun t10 => cond ((!t10)) (some false) ((laws_toAsm k p1).bind fun t11 => (laws_eqAsm k t7 t11).bind fun t12 => cond ((!t12)) (some false) (some true)))))
theorem c_laws_FnExactAsmText : (∀ {k : Nat} {p0 : GProgram} {p1 : GAsm} {r : Bool}, laws_FnExactAsmText k p0 p1 = some r → Con Tryz.prog 3 [.agg [.d (.row .bor 3 (Rw (GFunc.cells .bor) p0.funcs))], .agg [V.int p1.func0, .d (.row .bor 5 (Rw (GAsmIns.cells .bor) p1.code)), .d (.row .bor 1 (Rw (cL .bor 2 GI2.cells) p1.maps))]] [] (V.bool r) []) := by
  all_goals intros
  all_goals rename_i h
  all_goals first
    | (with_reducible refine isf 3 ?_
       refine csw Tryz.func3 Tryz.call3 (by simp [Tryz.ntmps3]) (h := ?_)
       refine mkf 3 fun hF => ?_
       rw [Tryz.ntmps3, Tryz.results3]
       unfold laws_FnExactAsmText at h)
  all_goals (replace h := Yes.mk h; simp only [entryS, entryO, Nat.reduceAdd, List.length_nil, List.length_cons])
  repeat' (first
 | (with_reducible (first | refine sw_reg ?_ | refine sw_ret ?_ | refine sw_skip ?_ | refine sw_block ?_ | refine sw_exit ?_ | refine seqQ_normal ?_ | refine blockQ_normal ?_ | refine blockQ_ret ?_ | refine blockQ_this ?_ | refine blockQ_other (by decide) ?_ | refine regW_nil ?_ | refine sw_draw mixed ?_ | refine retQ_ret ?_ | refine retQ_normal ?_))
 | (with_reducible refine regD_nil ?_
    refine ⟨by kernel_rfl, ?_⟩)
 | (revert h; (first | ((with_reducible refine idx_elim ?_); intro m hm1 hm2 hm3 h; (try (simp only [Int.reduceToNat] at hm3)); (try (revert hm3; (with_reducible apply same_elim); (focus (with_reducible assumption)); rintro rfl)); (try (simp only [List.length_set, List.length_cons, List.length_nil, List.length_replicate, Nat.reduceAdd, Int.cast_ofNat_Int, Nat.zero_add, List.length_append] at hm2))) | (with_reducible refine sidx_elim ?_; intro m hm1 hm3 h) | (with_reducible refine gd_elim ?_; intro hg h; try (have hg2 := hg.2; have hg := hg.1; (try (simp only [Nat.reduceLeDiff] at hg2)); (try (revert hg2; (with_reducible refine toNat_elim hg ?_); intro hg2 hg4)); try (have hg3 := hg2.2; have hg2 := hg2.1; (try (simp only [Nat.reduceLeDiff] at hg3))))) | (with_reducible refine condt_elim ?_ ?_; (focus (with_reducible assumption)); intro h) | (with_reducible refine condf_elim ?_ ?_; (focus (with_reducible assumption)); intro h)))
 | with_reducible refine sw_seq ?_
 | with_reducible refine seqQ_ret ?_
 | with_reducible refine seqQ_exit ?_
 | ((with_reducible refine wp_ite ?_ ?_)
    all_goals (intro hc; (try (simp only [Bool.not_eq_true, Bool.not_eq_false] at hc)); simp only [hc]))
 | (with_reducible refine rskip (hs := ?_) (h2 := ?_)
    · simp only [lkd, lkb, reduceCtorEq, Nat.reduceEqDiff]; done)
 | (with_reducible refine ryes (hs := ?_) (h := ?_)
    · simp only [lkd, lkb, reduceCtorEq, Nat.reduceEqDiff]; done)
 | (with_reducible refine rno (hs := ?_) (h := ?_)
    · simp only [lkd, lkb, reduceCtorEq, Nat.reduceEqDiff, Bool.not_true, Bool.not_false]; done)
 | (with_reducible apply regW_guardN
    · simp only [dstOk, Nat.reduceLT]
    · rfl
    · simp only [lkd, lkb, reduceCtorEq, Nat.reduceEqDiff]; rfl
    all_goals (intro hc; (try (simp only [Bool.not_true, Bool.not_false] at hc))))
 | (with_reducible apply sw_cond
    · simp only [lkd, lkb, reduceCtorEq, Nat.reduceEqDiff]; rfl
    all_goals (intro hc; try (cases hc; done)))
 | ((first
     | ((with_reducible refine gh_ret ?_)
        revert h
        with_reducible refine some_elim ?_
        rintro rfl)
     | (with_reducible refine here_call ?_
        revert h
        with_reducible refine bind_elim ?_
        intro t ht h
        (first
          | ((first
              | ((with_reducible refine here_call (f := 4) ?_); refine call_dataE (c_laws_szProgram ht) ?_ rfl ?_)
              | ((with_reducible refine here_call (f := 5) ?_); refine call_dataE (c_laws_szAsm ht) ?_ rfl ?_)
              | ((with_reducible refine here_call (f := 7) ?_); refine call_dataE (c_laws_toProgram ht) ?_ rfl ?_)
              | ((with_reducible refine here_call (f := 8) ?_); refine call_dataE (c_laws_toAsm ht) ?_ rfl ?_))
             · first | rfl | (simp; done))
          | ((first
              | ((with_reducible refine here_call (f := 6) ?_); refine call_autoE (c_spec_AsmText ht) ?_ ?_ ?_)
              | ((with_reducible refine here_call (f := 9) ?_); refine call_autoE (c_impl_AsmText ht) ?_ ?_ ?_)
              | ((with_reducible refine here_call (f := 10) ?_); refine call_autoE (c_laws_eqProgram ht) ?_ ?_ ?_)
              | ((with_reducible refine here_call (f := 11) ?_); refine call_autoE (c_laws_eqAsm ht) ?_ ?_ ?_))
             · simp only [hyb, hyd, GI2_lend, GFunc_lend, GProgram_lend, GMov_lend, GAsmIns_lend, GAsm_lend, LGI2_lend, List.take_of_length_le, lkd, lkb, reduceCtorEq, Nat.reduceEqDiff, *]; first | rfl | done
             · first | rfl | (simp only [nbd, nbb, GI2_nb, GFunc_nb, GProgram_nb, GMov_nb, GAsmIns_nb, GAsm_nb, LGI2_nb]; done)
             simp only [V.namesOf, V.namesOfL, List.foldl_cons, List.foldl_nil, List.nil_append, List.append_nil, List.cons_append])))
     | (with_reducible (first | refine ropD (h := ?_) | refine ropW (h := ?_))
        intro k hk)
     | skip)
    simp only [bn, lkb, evb, evd, Value.oneCell', setSeg, reduceCtorEq, Nat.reduceAdd, Nat.reduceMul, Nat.reduceSub, Nat.reduceLT, Nat.reduceLeDiff, Nat.reduceEqDiff, Int.reduceNeg, Int.reduceToNat, ty2, ty3, ty4, ty9, ty22, ty24, ty25, ty26, ty28, ty32, ty34, ty36, ty37, ty39, ty50, ty51, ty53, ty56, ty58, ty67, ty69, ty71, ty72, ty74, ty77, ty79, ty105, ty113, ty132, ty135, GAsm.cells, GAsmIns.cells, GFunc.cells, GI2.cells, GMov.cells, GProgram.cells, cI, cB, cS, cL, GI2_e, GFunc_e, GProgram_e, GMov_e, GAsmIns_e, GAsm_e, LGI2_e, *]
    try (refine hk.use _ _ _ _ ?_; clear hk k))
 | fail)
  all_goals (try rfl)
  all_goals (try (simp; done))
  all_goals (try (simp_all; done))
end Go.Proofs.YtfdgjiifeijjfaaGreatDoor