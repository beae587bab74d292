/- WHAT IS PROVED: an abstract walker over the model, what some functions of the program answer, and laws of these answers. Conditions: none. -/
import Derived.Test.YtdlaplgofgklnaaGreatKf19
namespace Go.Proofs.YtdlaplgofgklnaaGreat
open Go.Proofs Go.Proofs.YtdlaplgofgklnaaGreat.L
set_option maxHeartbeats 8000000
set_option linter.unusedSimpArgs false
set_option linter.unusedVariables false
set_option maxRecDepth 100000
set_option linter.defProp false
def spec_Step (k : Nat) (p0 : GProgram) (p1 : GState) : Option (GState) :=
  (spec_l06Copy k p1).bind fun t1 => (spec_StateRight k p0 p1).bind fun t2 => cond t2 ((spec_l06Goes p1).bind fun t3 => cond t3 ((spec_l06Step k p0 t1).bind fun t4 => some t4) (some t1)) (some t1)
theorem c_spec_Step {k : Nat} {p0 : GProgram} {p1 : GState} {r : GState} (h : spec_Step k p0 p1 = some r) : Con Tryz.prog 17 [.agg [.d (.row .bor 3 (Rw (GFunc.cells .bor) p0.funcs))], .agg [.d (.row .bor 4 (Rw (GFrame.cells .bor) p1.frames)), .d (.row .bor 1 (Rw (cL .bor 1 (cI .i64)) p1.heap)), .d (.row .bor 1 (Rw (cI .i64) p1.out)), V.int p1.fuel0, V.bool p1.done, V.int p1.value, V.int p1.trap]] [] (.agg [.d (.row .own 4 (Rw (GFrame.cells .own) r.frames)), .d (.row .own 1 (Rw (cL .own 1 (cI .i64)) r.heap)), .d (.row .own 1 (Rw (cI .i64) r.out)), V.int r.fuel0, V.bool r.done, V.int r.value, V.int r.trap]) [] := by
  refine csw Tryz.func17 Tryz.call17 (by simp [Tryz.ntmps17]) (h := ?_)
  rw [Tryz.ntmps17, Tryz.results17]
  unfold spec_Step at h
  replace h := Yes.mk h
  simp only [entryS, entryO, Nat.reduceAdd, List.length_nil, List.length_cons]
  repeat' (first
 | (with_reducible (first | refine sw_reg ?_ | refine sw_ret ?_ | refine sw_skip ?_ | refine sw_block ?_ | refine sw_exit ?_ | refine seqQ_normal ?_ | refine blockQ_normal ?_ | refine blockQ_ret ?_ | refine blockQ_this ?_ | refine blockQ_other (by decide) ?_ | refine regW_nil ?_ | refine sw_draw mixed ?_ | refine retQ_ret ?_ | refine retQ_normal ?_))
 | (with_reducible refine regD_nil ?_
    refine ⟨by kernel_rfl, ?_⟩)
 | (revert h; (first | ((with_reducible refine idx_elim ?_); intro m hm1 hm2 hm3 h; (try (simp only [Int.reduceToNat] at hm3)); (try (revert hm3; (with_reducible apply same_elim); (focus (with_reducible assumption)); rintro rfl)); (try (simp only [List.length_set, List.length_cons, List.length_nil, List.length_replicate, Nat.reduceAdd, Int.cast_ofNat_Int, Nat.zero_add, List.length_append] at hm2))) | (with_reducible refine sidx_elim ?_; intro m hm1 hm3 h) | (with_reducible refine gd_elim ?_; intro hg h; try (have hg2 := hg.2; have hg := hg.1; (try (simp only [Nat.reduceLeDiff] at hg2)); (try (revert hg2; (with_reducible refine toNat_elim hg ?_); intro hg2 hg4)); try (have hg3 := hg2.2; have hg2 := hg2.1; (try (simp only [Nat.reduceLeDiff] at hg3))))) | (with_reducible refine condt_elim ?_ ?_; (focus (with_reducible assumption)); intro h) | (with_reducible refine condf_elim ?_ ?_; (focus (with_reducible assumption)); intro h)))
 | with_reducible refine sw_seq ?_
 | with_reducible refine seqQ_ret ?_
 | with_reducible refine seqQ_exit ?_
 | ((with_reducible refine wp_ite ?_ ?_)
    all_goals (intro hc; (try (simp only [Bool.not_eq_true, Bool.not_eq_false] at hc)); simp only [hc]))
 | (with_reducible refine rskip (hs := ?_) (h2 := ?_)
    · simp only [lkd, lkb, reduceCtorEq, Nat.reduceEqDiff]; done)
 | (with_reducible refine ryes (hs := ?_) (h := ?_)
    · simp only [lkd, lkb, reduceCtorEq, Nat.reduceEqDiff]; done)
 | (with_reducible refine rno (hs := ?_) (h := ?_)
    · simp only [lkd, lkb, reduceCtorEq, Nat.reduceEqDiff, Bool.not_true, Bool.not_false]; done)
 | (with_reducible apply regW_guardN
    · simp only [dstOk, Nat.reduceLT]
    · rfl
    · simp only [lkd, lkb, reduceCtorEq, Nat.reduceEqDiff]; rfl
    all_goals (intro hc; (try (simp only [Bool.not_true, Bool.not_false] at hc))))
 | (with_reducible apply sw_cond
    · simp only [lkd, lkb, reduceCtorEq, Nat.reduceEqDiff]; rfl
    all_goals (intro hc; try (cases hc; done)))
 | ((first
     | ((with_reducible refine gh_ret ?_)
        revert h
        with_reducible refine some_elim ?_
        rintro rfl)
     | (with_reducible refine here_call ?_
        revert h
        with_reducible refine bind_elim ?_
        intro t ht h
        (first
          | ((with_reducible refine here_call (f := 7) ?_)
             refine call_dataE (c_spec_StateRight ht) ?_ rfl ?_
             · first | rfl | (simp; done))
          | ((with_reducible refine here_call (f := 39) ?_)
             refine call_dataE (c_spec_l06Copy ht) ?_ rfl ?_
             · first | rfl | (simp; done))
          | ((with_reducible refine here_call (f := 40) ?_)
             refine call_dataE (c_spec_l06Goes ht) ?_ rfl ?_
             · first | rfl | (simp; done))
          | ((with_reducible refine here_call (f := 41) ?_)
             refine call_obj [320] (c_spec_l06Step ht) (by decide) ?_ ?_
             · first | exact .inl rfl | (refine .inr ⟨?_, ?_⟩; (focus (first | rfl | (simp only [nbd, nbb, GI2_nb, GFunc_nb, GProgram_nb, GFrame_nb, GState_nb, LcIi64_nb]; done))); (focus (simp [C.nb, V.nbLL, V.nbL, V.nb, D.nb]; done)))
             simp only [obd, hyb, hyd, GI2_lend, GFunc_lend, GProgram_lend, GFrame_lend, GState_lend, LcIi64_lend, lkd, lkb, reduceCtorEq, Nat.reduceEqDiff, Prog.wp, Prog.wp_bind, Prog.bind, Prog.ofO, List.take_of_length_le, *]
             try (refine ⟨rfl, ?_⟩))))
     | ((first | with_reducible apply regD_opLK [(320, none)] (dst := some 16) (op := .call { callee := .value (.func 41), args := _, argTypes := _ }) | with_reducible apply regW_opLK [(320, none)] (dst := some 16) (op := .call { callee := .value (.func 41), args := _, argTypes := _ }))
        · simp only [dstOk, Nat.reduceLT]
        · simp only [Nat.reduceAdd]; rfl
        intro k hk
        with_reducible apply pre_obj 320
        · simp only [lkd, lkb, reduceCtorEq, Nat.reduceEqDiff]; rfl
        simp only [rxb, Nat.reduceAdd, Nat.reduceLeDiff, rxd, lkd, lkb, reduceCtorEq, Nat.reduceEqDiff, GI2_Dset, GFunc_Dset, GProgram_Dset, GFrame_Dset, GState_Dset, LcIi64_Dset, *]
        with_reducible apply pre_nil)
     | (with_reducible (first | refine ropD (h := ?_) | refine ropW (h := ?_))
        intro k hk)
     | skip)
    simp only [bn, lkb, evb, evd, Value.oneCell', setSeg, reduceCtorEq, Nat.reduceAdd, Nat.reduceMul, Nat.reduceSub, Nat.reduceLT, Nat.reduceLeDiff, Nat.reduceEqDiff, Int.reduceNeg, Int.reduceToNat, ty2, ty4, ty23, ty25, ty26, ty27, ty28, ty30, ty56, ty70, ty92, ty94, ty98, GFrame.cells, GFunc.cells, GI2.cells, GProgram.cells, GState.cells, cI, cB, cS, cL, GI2_e, GFunc_e, GProgram_e, GFrame_e, GState_e, LcIi64_e, *]
    try (refine hk.use _ _ _ _ ?_; clear hk k))
 | fail)
  all_goals (try rfl)
  all_goals (try (simp; done))
  all_goals (try (simp_all; done))
set_option linter.defProp false
def spec_Run.l1 : Nat → (List GFunc) → GState → GState → Option (GState × GState)
  | 0, _, _, _ => none
  | k + 1, a1, a2, a3 => (spec_l06Goes a3).bind fun t3 => cond t3 ((spec_l06Step k ((⟨a1⟩ : GProgram)) a3).bind fun t4 => spec_Run.l1 k a1 a2 t4) (some (a2, a3))
def spec_Run (k : Nat) (p0 : GProgram) (p1 : GState) : Option (GState) :=
  (spec_l06Copy k p1).bind fun t1 => (spec_StateRight k p0 p1).bind fun t2 => cond ((!t2)) (some t1) ((spec_Run.l1 k p0.funcs ((⟨[], [], [], 0, false, 0, 0⟩ : GState)) t1).bind fun o1 => some o1.2)
theorem c_spec_Run {k : Nat} {p0 : GProgram} {p1 : GState} {r : GState} (h : spec_Run k p0 p1 = some r) : Con Tryz.prog 11 [.agg [.d (.row .bor 3 (Rw (GFunc.cells .bor) p0.funcs))], .agg [.d (.row .bor 4 (Rw (GFrame.cells .bor) p1.frames)), .d (.row .bor 1 (Rw (cL .bor 1 (cI .i64)) p1.heap)), .d (.row .bor 1 (Rw (cI .i64) p1.out)), V.int p1.fuel0, V.bool p1.done, V.int p1.value, V.int p1.trap]] [] (.agg [.d (.row .own 4 (Rw (GFrame.cells .own) r.frames)), .d (.row .own 1 (Rw (cL .own 1 (cI .i64)) r.heap)), .d (.row .own 1 (Rw (cI .i64) r.out)), V.int r.fuel0, V.bool r.done, V.int r.value, V.int r.trap]) [] := by
  refine csw Tryz.func11 Tryz.call11 (by simp [Tryz.ntmps11]) (h := ?_)
  rw [Tryz.ntmps11, Tryz.results11]
  unfold spec_Run at h
  replace h := Yes.mk h
  simp only [entryS, entryO, Nat.reduceAdd, List.length_nil, List.length_cons]
  repeat' (first
 | (with_reducible (first | refine sw_reg ?_ | refine sw_ret ?_ | refine sw_skip ?_ | refine sw_block ?_ | refine sw_exit ?_ | refine seqQ_normal ?_ | refine blockQ_normal ?_ | refine blockQ_ret ?_ | refine blockQ_this ?_ | refine blockQ_other (by decide) ?_ | refine regW_nil ?_ | refine sw_draw mixed ?_ | refine retQ_ret ?_ | refine retQ_normal ?_))
 | (with_reducible refine regD_nil ?_
    refine ⟨by kernel_rfl, ?_⟩)
 | (revert h; (first | ((with_reducible refine idx_elim ?_); intro m hm1 hm2 hm3 h; (try (simp only [Int.reduceToNat] at hm3)); (try (revert hm3; (with_reducible apply same_elim); (focus (with_reducible assumption)); rintro rfl)); (try (simp only [List.length_set, List.length_cons, List.length_nil, List.length_replicate, Nat.reduceAdd, Int.cast_ofNat_Int, Nat.zero_add, List.length_append] at hm2))) | (with_reducible refine sidx_elim ?_; intro m hm1 hm3 h) | (with_reducible refine gd_elim ?_; intro hg h; try (have hg2 := hg.2; have hg := hg.1; (try (simp only [Nat.reduceLeDiff] at hg2)); (try (revert hg2; (with_reducible refine toNat_elim hg ?_); intro hg2 hg4)); try (have hg3 := hg2.2; have hg2 := hg2.1; (try (simp only [Nat.reduceLeDiff] at hg3))))) | (with_reducible refine condt_elim ?_ ?_; (focus (with_reducible assumption)); intro h) | (with_reducible refine condf_elim ?_ ?_; (focus (with_reducible assumption)); intro h)))
 | ((first | with_reducible refine seqQ_ret (K := (fun st1 n1 => Gh st1 n1 (NextS _ 10000000 _ _ _ _))) ?_ | with_reducible refine seqQ_exit (K := (fun st1 n1 => Gh st1 n1 (NextS _ 10000000 _ _ _ _))) ?_)
    obtain rfl := h.get
    have h := hK1
    (try (simp only [Sum.elim_inl, Sum.elim_inr] at h)))
 | (with_reducible refine here_loop (c := (.seq (.seq (.region 4 _ _) _) _)) ?_
    skip
    revert h
    with_reducible refine bind_elimY ?_
    intro o1 h hK1
    refine sw_gh ?_
    (try (apply gh_conv 128; (focus (simp only [lkd, lkb, reduceCtorEq, Nat.reduceEqDiff]; try rfl)); (focus (apply All2.cons; (focus (apply All2.cons; (focus (first | exact Conv1.nil (m := .own) (s := 4) | exact .same)); apply All2.cons; (focus (first | exact Conv1.nil (m := .own) (s := 1) | exact .same)); apply All2.cons; (focus (first | exact Conv1.nil (m := .own) (s := 1) | exact .same)); apply All2.cons; (focus (exact .same)); apply All2.cons; (focus (exact .same)); apply All2.cons; (focus (exact .same)); apply All2.cons; (focus (exact .same)); exact .nil)); exact .nil))))
    (try (apply gh_resObj 320; (focus (simp only [lkd, lkb, reduceCtorEq, Nat.reduceEqDiff]; try rfl)); simp only [rxb, Nat.reduceAdd, Nat.reduceLeDiff, rxd, lkd, lkb, reduceCtorEq, Nat.reduceEqDiff, *, mmb, GI2_Dset, GFunc_Dset, GProgram_Dset, GFrame_Dset, GState_Dset, LcIi64_Dset]))
    refine gh_sw ?_
    refine sw_loop (ι := Nat × (List GFunc) × GState × GState) 10000000 (by decide) (fun x : Nat × (List GFunc) × GState × GState => [(.s 2, some (.v (.mp 0 1 0 0))), (.s 4, some (.v (.mp 128 7 0 0))), (.s 5, some (.v (.mp 320 7 0 0))), (.r 0, some (.o 1 [[.d (.row .bor 3 (Rw (GFunc.cells .bor) x.2.1))]])), (.r 128, some (.o 7 [[.d (.row .own 4 (Rw (GFrame.cells .own) x.2.2.1.frames)), .d (.row .own 1 (Rw (cL .own 1 (cI .i64)) x.2.2.1.heap)), .d (.row .own 1 (Rw (cI .i64) x.2.2.1.out)), V.int x.2.2.1.fuel0, V.bool x.2.2.1.done, V.int x.2.2.1.value, V.int x.2.2.1.trap]])), (.r 320, some (.o 7 [[.d (.row .own 4 (Rw (GFrame.cells .own) x.2.2.2.frames)), .d (.row .own 1 (Rw (cL .own 1 (cI .i64)) x.2.2.2.heap)), .d (.row .own 1 (Rw (cI .i64) x.2.2.2.out)), V.int x.2.2.2.fuel0, V.bool x.2.2.2.done, V.int x.2.2.2.value, V.int x.2.2.2.trap]]))]) (fun x => x.1) (fun x => Yes (spec_Run.l1 x.1 x.2.1 x.2.2.1 x.2.2.2) o1) (_, _, _, _) ?_ h ?_ ?_
    · exact (by simp [sld])
    · simp only [SubL, lkd, lkb, reduceCtorEq, Nat.reduceEqDiff, List.length_set, List.length_replicate]; repeat' (first | apply And.intro | rfl | trivial | (simp only [*]; done))
    rintro ⟨_ | k, a1, a2, a3⟩ h
    · simp only [spec_Run.l1] at h; exact h.none
    simp only [spec_Run.l1] at h
)
 | (with_reducible refine here_next (N0 := 10000000) ?_
    skip
    (try (apply gh_conv 128; (focus (simp only [lkd, lkb, reduceCtorEq, Nat.reduceEqDiff]; try rfl)); (focus (apply All2.cons; (focus (apply All2.cons; (focus (first | exact Conv1.nil (m := .own) (s := 4) | exact .same)); apply All2.cons; (focus (first | exact Conv1.nil (m := .own) (s := 1) | exact .same)); apply All2.cons; (focus (first | exact Conv1.nil (m := .own) (s := 1) | exact .same)); apply All2.cons; (focus (exact .same)); apply All2.cons; (focus (exact .same)); apply All2.cons; (focus (exact .same)); apply All2.cons; (focus (exact .same)); exact .nil)); exact .nil))))
    (try (apply gh_resObj 320; (focus (simp only [lkd, lkb, reduceCtorEq, Nat.reduceEqDiff]; try rfl)); simp only [rxb, Nat.reduceAdd, Nat.reduceLeDiff, rxd, lkd, lkb, reduceCtorEq, Nat.reduceEqDiff, *, mmb, GI2_Dset, GFunc_Dset, GProgram_Dset, GFrame_Dset, GState_Dset, LcIi64_Dset]))
    refine nexts_to (_, _, _, _) (by decide) ?_ (Nat.lt_succ_self _) h ?_
    · exact (by simp [sld])
    · simp only [SubL, lkd, lkb, reduceCtorEq, Nat.reduceEqDiff, List.length_set, List.length_replicate]; repeat' (first | apply And.intro | rfl | trivial | (simp only [*]; done)))
 | with_reducible refine sw_seq ?_
 | with_reducible refine seqQ_ret ?_
 | with_reducible refine seqQ_exit ?_
 | ((with_reducible refine wp_ite ?_ ?_)
    all_goals (intro hc; (try (simp only [Bool.not_eq_true, Bool.not_eq_false] at hc)); simp only [hc]))
 | (with_reducible refine rskip (hs := ?_) (h2 := ?_)
    · simp only [lkd, lkb, reduceCtorEq, Nat.reduceEqDiff]; done)
 | (with_reducible refine ryes (hs := ?_) (h := ?_)
    · simp only [lkd, lkb, reduceCtorEq, Nat.reduceEqDiff]; done)
 | (with_reducible refine rno (hs := ?_) (h := ?_)
    · simp only [lkd, lkb, reduceCtorEq, Nat.reduceEqDiff, Bool.not_true, Bool.not_false]; done)
 | (with_reducible apply regW_guardN
    · simp only [dstOk, Nat.reduceLT]
    · rfl
    · simp only [lkd, lkb, reduceCtorEq, Nat.reduceEqDiff]; rfl
    all_goals (intro hc; (try (simp only [Bool.not_true, Bool.not_false] at hc))))
 | (with_reducible apply sw_cond
    · simp only [lkd, lkb, reduceCtorEq, Nat.reduceEqDiff]; rfl
    all_goals (intro hc; try (cases hc; done)))
 | ((first
     | ((with_reducible refine gh_ret ?_)
        revert h
        with_reducible refine some_elim ?_
        rintro rfl)
     | (with_reducible refine here_call ?_
        revert h
        with_reducible refine bind_elim ?_
        intro t ht h
        (first
          | ((with_reducible refine here_call (f := 7) ?_)
             refine call_dataE (c_spec_StateRight ht) ?_ rfl ?_
             · first | rfl | (simp; done))
          | ((with_reducible refine here_call (f := 39) ?_)
             refine call_dataE (c_spec_l06Copy ht) ?_ rfl ?_
             · first | rfl | (simp; done))
          | ((with_reducible refine here_call (f := 40) ?_)
             refine call_autoE (c_spec_l06Goes ht) ?_ ?_ ?_
             · simp only [hyb, hyd, GI2_lend, GFunc_lend, GProgram_lend, GFrame_lend, GState_lend, LcIi64_lend, List.take_of_length_le, lkd, lkb, reduceCtorEq, Nat.reduceEqDiff, *]; first | rfl | done
             · first | rfl | (simp only [nbd, nbb, GI2_nb, GFunc_nb, GProgram_nb, GFrame_nb, GState_nb, LcIi64_nb]; done)
             simp only [V.namesOf, V.namesOfL, List.foldl_cons, List.foldl_nil, List.nil_append, List.append_nil, List.cons_append])
          | ((with_reducible refine here_call (f := 41) ?_)
             refine call_obj [320] (c_spec_l06Step ht) (by decide) ?_ ?_
             · first | exact .inl rfl | (refine .inr ⟨?_, ?_⟩; (focus (first | rfl | (simp only [nbd, nbb, GI2_nb, GFunc_nb, GProgram_nb, GFrame_nb, GState_nb, LcIi64_nb]; done))); (focus (simp [C.nb, V.nbLL, V.nbL, V.nb, D.nb]; done)))
             simp only [obd, hyb, hyd, GI2_lend, GFunc_lend, GProgram_lend, GFrame_lend, GState_lend, LcIi64_lend, lkd, lkb, reduceCtorEq, Nat.reduceEqDiff, Prog.wp, Prog.wp_bind, Prog.bind, Prog.ofO, List.take_of_length_le, *]
             try (refine ⟨rfl, ?_⟩))))
     | ((first | with_reducible apply regD_opLK [(320, none)] (dst := some 16) (op := .call { callee := .value (.func 41), args := _, argTypes := _ }) | with_reducible apply regW_opLK [(320, none)] (dst := some 16) (op := .call { callee := .value (.func 41), args := _, argTypes := _ }))
        · simp only [dstOk, Nat.reduceLT]
        · simp only [Nat.reduceAdd]; rfl
        intro k hk
        with_reducible apply pre_obj 320
        · simp only [lkd, lkb, reduceCtorEq, Nat.reduceEqDiff]; rfl
        simp only [rxb, Nat.reduceAdd, Nat.reduceLeDiff, rxd, lkd, lkb, reduceCtorEq, Nat.reduceEqDiff, GI2_Dset, GFunc_Dset, GProgram_Dset, GFrame_Dset, GState_Dset, LcIi64_Dset, *]
        with_reducible apply pre_nil)
     | (with_reducible (first | refine ropD (h := ?_) | refine ropW (h := ?_))
        intro k hk)
     | skip)
    simp only [bn, lkb, evb, evd, Value.oneCell', setSeg, reduceCtorEq, Nat.reduceAdd, Nat.reduceMul, Nat.reduceSub, Nat.reduceLT, Nat.reduceLeDiff, Nat.reduceEqDiff, Int.reduceNeg, Int.reduceToNat, ty2, ty4, ty23, ty25, ty26, ty27, ty28, ty30, ty56, ty70, ty92, ty94, ty98, GFrame.cells, GFunc.cells, GI2.cells, GProgram.cells, GState.cells, cI, cB, cS, cL, GI2_e, GFunc_e, GProgram_e, GFrame_e, GState_e, LcIi64_e, *]
    try (refine hk.use _ _ _ _ ?_; clear hk k))
 | fail)
  all_goals (try rfl)
  all_goals (try (simp; done))
  all_goals (try (simp_all; done))
set_option linter.defProp false
def spec_l06Ok (k : Nat) (p0 : GProgram) (p1 : Int) (p2 : (List Int)) (p3 : Int) : Option (Bool) :=
  (spec_l04Is k p0 p1).bind fun t1 => cond t1 ((idx p0.funcs p1).bind fun m2 => cond ((((p2.length : Int)) == m2.args)) (cond ((decide (p3 ≥ 0))) (some ((decide (p3 ≤ 3000)))) (some false)) (some false)) (some false)
theorem c_spec_l06Ok : (∀ {k : Nat} {p0 : GProgram} {p1 : Int} {p2 : (List Int)} {p3 : Int} {r : Bool}, spec_l06Ok k p0 p1 p2 p3 = some r → Con Tryz.prog 135 [.agg [.d (.row .bor 3 (Rw (GFunc.cells .bor) p0.funcs))], V.int p1, .d (.row .bor 1 (Rw (cI .i64) p2)), V.int p3] [] (V.bool r) []) := by
  all_goals intros
  all_goals rename_i h
  all_goals first
    | (with_reducible refine isf 135 ?_
       refine csw Tryz.func135 Tryz.call135 (by simp [Tryz.ntmps135]) (h := ?_)
       refine mkf 135 fun hF => ?_
       rw [Tryz.ntmps135, Tryz.results135]
       unfold spec_l06Ok at h)
  all_goals (replace h := Yes.mk h; simp only [entryS, entryO, Nat.reduceAdd, List.length_nil, List.length_cons])
  repeat' (first
 | (with_reducible (first | refine sw_reg ?_ | refine sw_ret ?_ | refine sw_skip ?_ | refine sw_block ?_ | refine sw_exit ?_ | refine seqQ_normal ?_ | refine blockQ_normal ?_ | refine blockQ_ret ?_ | refine blockQ_this ?_ | refine blockQ_other (by decide) ?_ | refine regW_nil ?_ | refine sw_draw mixed ?_ | refine retQ_ret ?_ | refine retQ_normal ?_))
 | (with_reducible refine regD_nil ?_
    refine ⟨by kernel_rfl, ?_⟩)
 | (revert h; (first | ((with_reducible refine idx_elim ?_); intro m hm1 hm2 hm3 h; (try (simp only [Int.reduceToNat] at hm3)); (try (revert hm3; (with_reducible apply same_elim); (focus (with_reducible assumption)); rintro rfl)); (try (simp only [List.length_set, List.length_cons, List.length_nil, List.length_replicate, Nat.reduceAdd, Int.cast_ofNat_Int, Nat.zero_add, List.length_append] at hm2))) | (with_reducible refine sidx_elim ?_; intro m hm1 hm3 h) | (with_reducible refine gd_elim ?_; intro hg h; try (have hg2 := hg.2; have hg := hg.1; (try (simp only [Nat.reduceLeDiff] at hg2)); (try (revert hg2; (with_reducible refine toNat_elim hg ?_); intro hg2 hg4)); try (have hg3 := hg2.2; have hg2 := hg2.1; (try (simp only [Nat.reduceLeDiff] at hg3))))) | (with_reducible refine condt_elim ?_ ?_; (focus (with_reducible assumption)); intro h) | (with_reducible refine condf_elim ?_ ?_; (focus (with_reducible assumption)); intro h)))
 | with_reducible refine sw_seq ?_
 | with_reducible refine seqQ_ret ?_
 | with_reducible refine seqQ_exit ?_
 | ((with_reducible refine wp_ite ?_ ?_)
    all_goals (intro hc; (try (simp only [Bool.not_eq_true, Bool.not_eq_false] at hc)); simp only [hc]))
 | (with_reducible refine rskip (hs := ?_) (h2 := ?_)
    · simp only [lkd, lkb, reduceCtorEq, Nat.reduceEqDiff]; done)
 | (with_reducible refine ryes (hs := ?_) (h := ?_)
    · simp only [lkd, lkb, reduceCtorEq, Nat.reduceEqDiff]; done)
 | (with_reducible refine rno (hs := ?_) (h := ?_)
    · simp only [lkd, lkb, reduceCtorEq, Nat.reduceEqDiff, Bool.not_true, Bool.not_false]; done)
 | (with_reducible apply regW_guardN
    · simp only [dstOk, Nat.reduceLT]
    · rfl
    · simp only [lkd, lkb, reduceCtorEq, Nat.reduceEqDiff]; rfl
    all_goals (intro hc; (try (simp only [Bool.not_true, Bool.not_false] at hc))))
 | (with_reducible apply sw_cond
    · simp only [lkd, lkb, reduceCtorEq, Nat.reduceEqDiff]; rfl
    all_goals (intro hc; try (cases hc; done)))
 | ((first
     | ((with_reducible refine gh_ret ?_)
        revert h
        with_reducible refine some_elim ?_
        rintro rfl)
     | (with_reducible refine here_call ?_
        revert h
        with_reducible refine bind_elim ?_
        intro t ht h
        (first
          | ((with_reducible refine here_call (f := 147) ?_); refine call_dataE (c_spec_l04Is ht) ?_ rfl ?_
             · first | rfl | (simp; done))))
     | (with_reducible (first | refine ropD (h := ?_) | refine ropW (h := ?_))
        intro k hk)
     | skip)
    simp only [bn, lkb, evb, evd, Value.oneCell', setSeg, reduceCtorEq, Nat.reduceAdd, Nat.reduceMul, Nat.reduceSub, Nat.reduceLT, Nat.reduceLeDiff, Nat.reduceEqDiff, Int.reduceNeg, Int.reduceToNat, ty2, ty4, ty23, ty25, ty28, ty92, ty94, ty98, GFunc.cells, GI2.cells, GProgram.cells, cI, cB, cS, cL, GI2_e, GFunc_e, GProgram_e, LcIi64_e, *]
    try (refine hk.use _ _ _ _ ?_; clear hk k))
 | fail)
  all_goals (try rfl)
  all_goals (try (simp; done))
  all_goals (try (simp_all; done))
set_option linter.defProp false
def spec_Begin (k : Nat) (p0 : GProgram) (p1 : Int) (p2 : (List Int)) (p3 : Int) : Option (GState) :=
  cond ((decide (((p2.length : Int)) > 400))) (some ((⟨[], [], [], 0, false, 0, 0⟩ : GState))) ((spec_l06Ok k p0 p1 p2 p3).bind fun t1 => cond ((!t1)) (some ((⟨[], [], [], 0, false, 0, 0⟩ : GState))) ((spec_l06Frame p0 p1 p2).bind fun t2 => some ((⟨[t2], [], [], p3, false, 0, 0⟩ : GState))))
theorem c_spec_Begin : (∀ {k : Nat} {p0 : GProgram} {p1 : Int} {p2 : (List Int)} {p3 : Int} {r : GState}, spec_Begin k p0 p1 p2 p3 = some r → Con Tryz.prog 105 [.agg [.d (.row .bor 3 (Rw (GFunc.cells .bor) p0.funcs))], V.int p1, .d (.row .bor 1 (Rw (cI .i64) p2)), V.int p3] [] (.agg [.d (.row .own 4 (Rw (GFrame.cells .own) r.frames)), .d (.row .own 1 (Rw (cL .own 1 (cI .i64)) r.heap)), .d (.row .own 1 (Rw (cI .i64) r.out)), V.int r.fuel0, V.bool r.done, V.int r.value, V.int r.trap]) []) := by
  all_goals intros
  all_goals rename_i h
  all_goals first
    | (with_reducible refine isf 105 ?_
       refine csw Tryz.func105 Tryz.call105 (by simp [Tryz.ntmps105]) (h := ?_)
       refine mkf 105 fun hF => ?_
       rw [Tryz.ntmps105, Tryz.results105]
       unfold spec_Begin at h)
  all_goals (replace h := Yes.mk h; simp only [entryS, entryO, Nat.reduceAdd, List.length_nil, List.length_cons])
  repeat' (first
 | (with_reducible (first | refine sw_reg ?_ | refine sw_ret ?_ | refine sw_skip ?_ | refine sw_block ?_ | refine sw_exit ?_ | refine seqQ_normal ?_ | refine blockQ_normal ?_ | refine blockQ_ret ?_ | refine blockQ_this ?_ | refine blockQ_other (by decide) ?_ | refine regW_nil ?_ | refine sw_draw mixed ?_ | refine retQ_ret ?_ | refine retQ_normal ?_))
 | (with_reducible refine regD_nil ?_
    refine ⟨by kernel_rfl, ?_⟩)
 | (revert h; (first | ((with_reducible refine idx_elim ?_); intro m hm1 hm2 hm3 h; (try (simp only [Int.reduceToNat] at hm3)); (try (revert hm3; (with_reducible apply same_elim); (focus (with_reducible assumption)); rintro rfl)); (try (simp only [List.length_set, List.length_cons, List.length_nil, List.length_replicate, Nat.reduceAdd, Int.cast_ofNat_Int, Nat.zero_add, List.length_append] at hm2))) | (with_reducible refine sidx_elim ?_; intro m hm1 hm3 h) | (with_reducible refine gd_elim ?_; intro hg h; try (have hg2 := hg.2; have hg := hg.1; (try (simp only [Nat.reduceLeDiff] at hg2)); (try (revert hg2; (with_reducible refine toNat_elim hg ?_); intro hg2 hg4)); try (have hg3 := hg2.2; have hg2 := hg2.1; (try (simp only [Nat.reduceLeDiff] at hg3))))) | (with_reducible refine condt_elim ?_ ?_; (focus (with_reducible assumption)); intro h) | (with_reducible refine condf_elim ?_ ?_; (focus (with_reducible assumption)); intro h)))
 | with_reducible refine sw_seq ?_
 | with_reducible refine seqQ_ret ?_
 | with_reducible refine seqQ_exit ?_
 | ((with_reducible refine fi 105 ?_ ?_); (focus (with_reducible assumption))
    first
    | (with_reducible refine here_retw ?_
       with_reducible apply gh_conv 64
       · simp only [lkd, lkb, reduceCtorEq, Nat.reduceEqDiff]; rfl
       · exact .cons (.cons (.nil (m := .own) (s := 4)) (.cons (.nil (m := .own) (s := 1)) (.cons (.nil (m := .own) (s := 1)) (.cons .same (.cons .same (.cons .same (.cons .same (.nil)))))))) .nil
       skip)
    | (with_reducible refine here_retw ?_
       with_reducible apply gh_conv 64
       · simp only [lkd, lkb, reduceCtorEq, Nat.reduceEqDiff]; rfl
       · exact .cons (.cons .same (.cons (.nil (m := .own) (s := 1)) (.cons (.nil (m := .own) (s := 1)) (.cons .same (.cons .same (.cons .same (.cons .same (.nil)))))))) .nil
       skip))
 | ((with_reducible refine wp_ite ?_ ?_)
    all_goals (intro hc; (try (simp only [Bool.not_eq_true, Bool.not_eq_false] at hc)); simp only [hc]))
 | (with_reducible refine rskip (hs := ?_) (h2 := ?_)
    · simp only [lkd, lkb, reduceCtorEq, Nat.reduceEqDiff]; done)
 | (with_reducible refine ryes (hs := ?_) (h := ?_)
    · simp only [lkd, lkb, reduceCtorEq, Nat.reduceEqDiff]; done)
 | (with_reducible refine rno (hs := ?_) (h := ?_)
    · simp only [lkd, lkb, reduceCtorEq, Nat.reduceEqDiff, Bool.not_true, Bool.not_false]; done)
 | (with_reducible apply regW_guardN
    · simp only [dstOk, Nat.reduceLT]
    · rfl
    · simp only [lkd, lkb, reduceCtorEq, Nat.reduceEqDiff]; rfl
    all_goals (intro hc; (try (simp only [Bool.not_true, Bool.not_false] at hc))))
 | (with_reducible apply sw_cond
    · simp only [lkd, lkb, reduceCtorEq, Nat.reduceEqDiff]; rfl
    all_goals (intro hc; try (cases hc; done)))
 | ((first
     | ((with_reducible refine gh_ret ?_)
        revert h
        with_reducible refine some_elim ?_
        rintro rfl)
     | (with_reducible refine here_call ?_
        revert h
        with_reducible refine bind_elim ?_
        intro t ht h
        (first
          | ((first
              | ((with_reducible refine here_call (f := 87) ?_); refine call_dataE (c_spec_l06Frame ht) ?_ rfl ?_)
              | ((with_reducible refine here_call (f := 135) ?_); refine call_dataE (c_spec_l06Ok ht) ?_ rfl ?_))
             · first | rfl | (simp; done))))
     | (with_reducible (first | refine ropD (h := ?_) | refine ropW (h := ?_))
        intro k hk)
     | skip)
    simp only [bn, lkb, evb, evd, Value.oneCell', setSeg, reduceCtorEq, Nat.reduceAdd, Nat.reduceMul, Nat.reduceSub, Nat.reduceLT, Nat.reduceLeDiff, Nat.reduceEqDiff, Int.reduceNeg, Int.reduceToNat, ty2, ty3, ty4, ty23, ty25, ty26, ty27, ty28, ty30, ty56, ty92, ty94, ty98, GFrame.cells, GFunc.cells, GI2.cells, GProgram.cells, GState.cells, cI, cB, cS, cL, GI2_e, GFunc_e, GProgram_e, GFrame_e, GState_e, LcIi64_e, buildP, buildSliceP, putParts, structPlaces, chunks, List.replicate, List.flatten_nil, List.flatten_cons, Option.bind_some, bb, GFrame_b, *]
    try (refine hk.use _ _ _ _ ?_; clear hk k))
 | fail)
  all_goals (try rfl)
  all_goals (try (simp; done))
  all_goals (try (simp_all; done))
end Go.Proofs.YtdlaplgofgklnaaGreat