/- WHAT IS PROVED: an abstract walker over the model, what some functions of the program answer, and laws of these answers, one behind the other. Conditions: none. -/
import Derived.Test.YtdlaplgofgklnaaKm5
namespace Go.Proofs.Ytdlaplgofgklnaa
open Go.Proofs Go.Proofs.Ytdlaplgofgklnaa.L
set_option maxHeartbeats 1000000
set_option linter.unusedSimpArgs false
set_option linter.unusedVariables false
set_option maxRecDepth 100000

def laws_eqMixFrameS.l1 : Nat → (List GMixFrame) → (List GMixFrame) → Int → Option ((Bool) ⊕ (Unit))
  | 0, _, _, _ => none
  | k + 1, a1, a2, a3 => cond ((decide (a3 < ((a1.length : Int))))) ((idx a1 a3).bind fun m1 => (idx a2 a3).bind fun m2 => (laws_eqMixFrame k m1 m2).bind fun t3 => cond ((!t3)) (some (.inl (false))) (laws_eqMixFrameS.l1 k a1 a2 ((IntKind.i64.wrap (a3 + 1))))) (some (.inr ()))

def laws_eqMixFrameS (k : Nat) (p0 : (List GMixFrame)) (p1 : (List GMixFrame)) : Option (Bool) :=
  cond ((((p0.length : Int)) != ((p1.length : Int)))) (some false) ((laws_eqMixFrameS.l1 k p0 p1 0).bind fun o1 => Sum.elim (fun o1l => some o1l) (fun o1r => some true) o1)

theorem c_laws_eqMixFrameS {k : Nat} {p0 : (List GMixFrame)} {p1 : (List GMixFrame)} {r : Bool} (h : laws_eqMixFrameS k p0 p1 = some r) : Con Try.prog 57 [.d (.row .bor 6 (Rw (GMixFrame.cells .bor) p0)), .d (.row .bor 6 (Rw (GMixFrame.cells .bor) p1))] [] (V.bool r) [] := by
  refine con_of_sw Try.func57 rfl Try.call57 (by simp [Try.ntmps57]) (by simp [V.inNs, V.inN]) (by simp [C.inN, V.inNss, V.inNs, V.inN, inNss_dd]) (by simp [V.inNs, V.inN]) (by simp [C.inN, V.inNss, V.inNs, V.inN, inNss_dd]) rfl ?_
  rw [Try.ntmps57, Try.results57]
  unfold laws_eqMixFrameS at h
  replace h := Yes.mk h
  simp only [entryS, entryO, Nat.reduceAdd, List.length_nil, List.length_cons]
  repeat' (first
    | (with_reducible (first | refine sw_reg ?_ | refine sw_ret ?_ | refine sw_skip ?_ | refine sw_block ?_ | refine sw_exit ?_ | refine seqQ_normal ?_ | refine blockQ_normal ?_ | refine blockQ_ret ?_ | refine blockQ_this ?_ | refine blockQ_other (by decide) ?_ | refine regW_nil ?_ | refine sw_draw mixed ?_ | refine retQ_ret ?_ | refine retQ_normal ?_))
    | (with_reducible refine regD_nil ?_
       refine ⟨by kernel_rfl, ?_⟩)
    | (revert h; (first | ((with_reducible refine idx_elim ?_); intro m hm1 hm2 hm3 h; (try (simp only [Int.reduceToNat] at hm3)); (try (revert hm3; (with_reducible apply same_elim); (focus (with_reducible assumption)); rintro rfl)); (try (simp only [List.length_set, List.length_cons, List.length_nil, List.length_replicate, Nat.reduceAdd, Int.cast_ofNat_Int, Nat.zero_add, List.length_append] at hm2))) | (with_reducible refine sidx_elim ?_; intro m hm1 hm3 h) | (with_reducible refine gd_elim ?_; intro hg h; try (have hg2 := hg.2; have hg := hg.1; (try (simp only [Nat.reduceLeDiff] at hg2)); (try (revert hg2; (with_reducible refine toNat_elim hg ?_); intro hg2 hg4)); try (have hg3 := hg2.2; have hg2 := hg2.1; (try (simp only [Nat.reduceLeDiff] at hg3))))) | (with_reducible refine condt_elim ?_ ?_; (focus (with_reducible assumption)); intro h) | (with_reducible refine condf_elim ?_ ?_; (focus (with_reducible assumption)); intro h)))
    | ((first | with_reducible refine seqQ_ret (K := (fun st1 n1 => Gh st1 n1 (NextS _ 10000000 _ _ _ _))) ?_ | with_reducible refine seqQ_exit (K := (fun st1 n1 => Gh st1 n1 (NextS _ 10000000 _ _ _ _))) ?_)
       obtain rfl := h.get
       have h := hK1
       (try (simp only [Sum.elim_inl, Sum.elim_inr] at h)))
    | (with_reducible refine here_loop (c := (.seq (.seq (.region 4 _ _) _) _)) ?_
       skip
       revert h
       with_reducible refine bind_elimY ?_
       intro o1 h hK1
       refine sw_loop (ι := Nat × (List GMixFrame) × (List GMixFrame) × Int) 10000000 (by decide) (fun x : Nat × (List GMixFrame) × (List GMixFrame) × Int => [(.s 0, some (.v (.d (.row .bor 6 (Rw (GMixFrame.cells .bor) x.2.1))))), (.s 1, some (.v (.d (.row .bor 6 (Rw (GMixFrame.cells .bor) x.2.2.1))))), (.s 5, some (.v (V.int x.2.2.2)))]) (fun x => x.1) (fun x => Yes (laws_eqMixFrameS.l1 x.1 x.2.1 x.2.2.1 x.2.2.2) o1) (_, _, _, _) ?_ h ?_ ?_
       · exact (by simp [slNL, C.inN, V.inN, V.inNs, V.inNss, inNss_dd, inNs_map_d])
       · simp only [SubL, putSt, lk, lkb, reduceCtorEq, Nat.reduceEqDiff, List.length_set, List.length_replicate]; repeat' (first | apply And.intro | rfl | trivial | (simp only [*]; done))
       rintro ⟨_ | k, a1, a2, a3⟩ h
       · simp only [laws_eqMixFrameS.l1] at h; exact h.none
       simp only [laws_eqMixFrameS.l1] at h
)
    | (with_reducible refine here_next (N0 := 10000000) ?_
       skip
       refine nexts_to (_, _, _, _) (by decide) ?_ (Nat.lt_succ_self _) h ?_
       · exact (by simp [slNL, C.inN, V.inN, V.inNs, V.inNss, inNss_dd, inNs_map_d])
       · simp only [SubL, putSt, lk, lkb, reduceCtorEq, Nat.reduceEqDiff, List.length_set, List.length_replicate]; repeat' (first | apply And.intro | rfl | trivial | (simp only [*]; done)))
    | with_reducible refine sw_seq ?_
    | with_reducible refine seqQ_ret ?_
    | with_reducible refine seqQ_exit ?_
    | ((with_reducible refine wp_ite ?_ ?_)
       all_goals (intro hc; (try (simp only [Bool.not_eq_true, Bool.not_eq_false] at hc)); simp only [hc]))
    | (with_reducible apply regW_skip
       · simp only [dstOk, Nat.reduceLT]
       · rfl
       · simp only [putSt, lk, lkb, reduceCtorEq, Nat.reduceEqDiff]; done)
    | (with_reducible apply regW_yesN
       · simp only [dstOk, Nat.reduceLT]
       · rfl
       · simp only [putSt, lk, lkb, reduceCtorEq, Nat.reduceEqDiff]; done)
    | (with_reducible apply regW_no
       · simp only [dstOk, Nat.reduceLT]
       · rfl
       · simp only [putSt, lk, lkb, reduceCtorEq, Nat.reduceEqDiff, Bool.not_true, Bool.not_false]; done)
    | (with_reducible apply regW_guardN
       · simp only [dstOk, Nat.reduceLT]
       · rfl
       · simp only [putSt, lk, lkb, reduceCtorEq, Nat.reduceEqDiff]; rfl
       all_goals (intro hc; (try (simp only [Bool.not_true, Bool.not_false] at hc))))
    | (with_reducible apply sw_cond
       · simp only [putSt, lk, lkb, reduceCtorEq, Nat.reduceEqDiff]; rfl
       all_goals (intro hc; try (cases hc; done)))
    | ((first
        | ((with_reducible refine gh_ret ?_)
           revert h
           with_reducible refine some_elim ?_
           rintro rfl)
        | (with_reducible refine here_call ?_
           revert h
           with_reducible refine bind_elim ?_
           intro t ht h
           (first
             | (refine call_dataE (c_laws_eqMixFrame ht) ?_ rfl ?_
                · first | rfl | (simp; done))))
        | (with_reducible apply regD_opK
           · simp only [dstOk, Nat.reduceLT]
           · simp only [Nat.reduceAdd]; rfl
           intro k hk)
        | (with_reducible apply regW_opK
           · simp only [dstOk, Nat.reduceLT]
           · simp only [Nat.reduceAdd]; rfl
           intro k hk)
        | skip)
       simp only [RetW, bn, lkb, evb, opC, opP, fetchN, fetchP, fetchAll, fetchO, Prog.bind, Prog.wp, Prog.wp_bind, lk, nameP, nameAll, Value.oneCell', putSt, stepP, putP, reduceCtorEq, V.lin, V.linL, D.lin, isNil, binP, unP, BinOp.isShift, Prog.ofO, Nat.reduceAdd, Nat.reduceMul, Nat.reduceSub, Nat.reduceLT, Nat.reduceLeDiff, Nat.reduceEqDiff, ite_true, ite_false, fieldAddrP, fieldP, indexAddrP, loadP, storeP, boxP, allocP, cellsP, asVal, setSeg, outP, outT, cntT, TyK.field, TyK.agg, zeroRow, V.ren, V.renL, forall_eq_or_imp, forall_const, minmaxP, lenP, lenOf, lenStr, V.asInt, decide_true, decide_false, sliceP, boundP, makeSliceP, convertP, appendP, rowsOfP, ontoP, sizeFits, V.rowSize, TyK.src, resV, resV.go, resV.gol, retP, retOne, retAll, resTo, objsAre, Option.map_eq_map, Function.const_apply, Int.reduceNeg, Int.reduceToNat, ty2, ty3, ty4, ty26, ty52, ty89, GMixFrame.cells, cI, cB, cS, cL, GMixFrame_e, LcIi64_e, *]
       try (refine hk.use _ _ _ _ ?_; clear hk k))
    | fail)
  all_goals (try rfl)
  all_goals (try (simp; done))
  all_goals (try (simp_all; done))
def laws_eqInt64SS.l1 : Nat → (List (List Int)) → (List (List Int)) → Int → Option ((Bool) ⊕ (Unit))
  | 0, _, _, _ => none
  | k + 1, a1, a2, a3 => cond ((decide (a3 < ((a1.length : Int))))) ((idx a1 a3).bind fun m1 => (idx a2 a3).bind fun m2 => (laws_eqInt64S k m1 m2).bind fun t3 => cond ((!t3)) (some (.inl (false))) (laws_eqInt64SS.l1 k a1 a2 ((IntKind.i64.wrap (a3 + 1))))) (some (.inr ()))

def laws_eqInt64SS (k : Nat) (p0 : (List (List Int))) (p1 : (List (List Int))) : Option (Bool) :=
  cond ((((p0.length : Int)) != ((p1.length : Int)))) (some false) ((laws_eqInt64SS.l1 k p0 p1 0).bind fun o1 => Sum.elim (fun o1l => some o1l) (fun o1r => some true) o1)

theorem c_laws_eqInt64SS {k : Nat} {p0 : (List (List Int))} {p1 : (List (List Int))} {r : Bool} (h : laws_eqInt64SS k p0 p1 = some r) : Con Try.prog 58 [.d (.row .bor 1 (Rw (cL .bor 1 (cI .i64)) p0)), .d (.row .bor 1 (Rw (cL .bor 1 (cI .i64)) p1))] [] (V.bool r) [] := by
  refine con_of_sw Try.func58 rfl Try.call58 (by simp [Try.ntmps58]) (by simp [V.inNs, V.inN]) (by simp [C.inN, V.inNss, V.inNs, V.inN, inNss_dd]) (by simp [V.inNs, V.inN]) (by simp [C.inN, V.inNss, V.inNs, V.inN, inNss_dd]) rfl ?_
  rw [Try.ntmps58, Try.results58]
  unfold laws_eqInt64SS at h
  replace h := Yes.mk h
  simp only [entryS, entryO, Nat.reduceAdd, List.length_nil, List.length_cons]
  repeat' (first
    | (with_reducible (first | refine sw_reg ?_ | refine sw_ret ?_ | refine sw_skip ?_ | refine sw_block ?_ | refine sw_exit ?_ | refine seqQ_normal ?_ | refine blockQ_normal ?_ | refine blockQ_ret ?_ | refine blockQ_this ?_ | refine blockQ_other (by decide) ?_ | refine regW_nil ?_ | refine sw_draw mixed ?_ | refine retQ_ret ?_ | refine retQ_normal ?_))
    | (with_reducible refine regD_nil ?_
       refine ⟨by kernel_rfl, ?_⟩)
    | (revert h; (first | ((with_reducible refine idx_elim ?_); intro m hm1 hm2 hm3 h; (try (simp only [Int.reduceToNat] at hm3)); (try (revert hm3; (with_reducible apply same_elim); (focus (with_reducible assumption)); rintro rfl)); (try (simp only [List.length_set, List.length_cons, List.length_nil, List.length_replicate, Nat.reduceAdd, Int.cast_ofNat_Int, Nat.zero_add, List.length_append] at hm2))) | (with_reducible refine sidx_elim ?_; intro m hm1 hm3 h) | (with_reducible refine gd_elim ?_; intro hg h; try (have hg2 := hg.2; have hg := hg.1; (try (simp only [Nat.reduceLeDiff] at hg2)); (try (revert hg2; (with_reducible refine toNat_elim hg ?_); intro hg2 hg4)); try (have hg3 := hg2.2; have hg2 := hg2.1; (try (simp only [Nat.reduceLeDiff] at hg3))))) | (with_reducible refine condt_elim ?_ ?_; (focus (with_reducible assumption)); intro h) | (with_reducible refine condf_elim ?_ ?_; (focus (with_reducible assumption)); intro h)))
    | ((first | with_reducible refine seqQ_ret (K := (fun st1 n1 => Gh st1 n1 (NextS _ 10000000 _ _ _ _))) ?_ | with_reducible refine seqQ_exit (K := (fun st1 n1 => Gh st1 n1 (NextS _ 10000000 _ _ _ _))) ?_)
       obtain rfl := h.get
       have h := hK1
       (try (simp only [Sum.elim_inl, Sum.elim_inr] at h)))
    | (with_reducible refine here_loop (c := (.seq (.seq (.region 4 _ _) _) _)) ?_
       skip
       revert h
       with_reducible refine bind_elimY ?_
       intro o1 h hK1
       refine sw_loop (ι := Nat × (List (List Int)) × (List (List Int)) × Int) 10000000 (by decide) (fun x : Nat × (List (List Int)) × (List (List Int)) × Int => [(.s 0, some (.v (.d (.row .bor 1 (Rw (cL .bor 1 (cI .i64)) x.2.1))))), (.s 1, some (.v (.d (.row .bor 1 (Rw (cL .bor 1 (cI .i64)) x.2.2.1))))), (.s 5, some (.v (V.int x.2.2.2)))]) (fun x => x.1) (fun x => Yes (laws_eqInt64SS.l1 x.1 x.2.1 x.2.2.1 x.2.2.2) o1) (_, _, _, _) ?_ h ?_ ?_
       · exact (by simp [slNL, C.inN, V.inN, V.inNs, V.inNss, inNss_dd, inNs_map_d])
       · simp only [SubL, putSt, lk, lkb, reduceCtorEq, Nat.reduceEqDiff, List.length_set, List.length_replicate]; repeat' (first | apply And.intro | rfl | trivial | (simp only [*]; done))
       rintro ⟨_ | k, a1, a2, a3⟩ h
       · simp only [laws_eqInt64SS.l1] at h; exact h.none
       simp only [laws_eqInt64SS.l1] at h
)
    | (with_reducible refine here_next (N0 := 10000000) ?_
       skip
       refine nexts_to (_, _, _, _) (by decide) ?_ (Nat.lt_succ_self _) h ?_
       · exact (by simp [slNL, C.inN, V.inN, V.inNs, V.inNss, inNss_dd, inNs_map_d])
       · simp only [SubL, putSt, lk, lkb, reduceCtorEq, Nat.reduceEqDiff, List.length_set, List.length_replicate]; repeat' (first | apply And.intro | rfl | trivial | (simp only [*]; done)))
    | with_reducible refine sw_seq ?_
    | with_reducible refine seqQ_ret ?_
    | with_reducible refine seqQ_exit ?_
    | ((with_reducible refine wp_ite ?_ ?_)
       all_goals (intro hc; (try (simp only [Bool.not_eq_true, Bool.not_eq_false] at hc)); simp only [hc]))
    | (with_reducible apply regW_skip
       · simp only [dstOk, Nat.reduceLT]
       · rfl
       · simp only [putSt, lk, lkb, reduceCtorEq, Nat.reduceEqDiff]; done)
    | (with_reducible apply regW_yesN
       · simp only [dstOk, Nat.reduceLT]
       · rfl
       · simp only [putSt, lk, lkb, reduceCtorEq, Nat.reduceEqDiff]; done)
    | (with_reducible apply regW_no
       · simp only [dstOk, Nat.reduceLT]
       · rfl
       · simp only [putSt, lk, lkb, reduceCtorEq, Nat.reduceEqDiff, Bool.not_true, Bool.not_false]; done)
    | (with_reducible apply regW_guardN
       · simp only [dstOk, Nat.reduceLT]
       · rfl
       · simp only [putSt, lk, lkb, reduceCtorEq, Nat.reduceEqDiff]; rfl
       all_goals (intro hc; (try (simp only [Bool.not_true, Bool.not_false] at hc))))
    | (with_reducible apply sw_cond
       · simp only [putSt, lk, lkb, reduceCtorEq, Nat.reduceEqDiff]; rfl
       all_goals (intro hc; try (cases hc; done)))
    | ((first
        | ((with_reducible refine gh_ret ?_)
           revert h
           with_reducible refine some_elim ?_
           rintro rfl)
        | (with_reducible refine here_call ?_
           revert h
           with_reducible refine bind_elim ?_
           intro t ht h
           (first
             | (refine call_dataE (c_laws_eqInt64S ht) ?_ rfl ?_
                · first | rfl | (simp; done))))
        | (with_reducible apply regD_opK
           · simp only [dstOk, Nat.reduceLT]
           · simp only [Nat.reduceAdd]; rfl
           intro k hk)
        | (with_reducible apply regW_opK
           · simp only [dstOk, Nat.reduceLT]
           · simp only [Nat.reduceAdd]; rfl
           intro k hk)
        | skip)
       simp only [RetW, bn, lkb, evb, opC, opP, fetchN, fetchP, fetchAll, fetchO, Prog.bind, Prog.wp, Prog.wp_bind, lk, nameP, nameAll, Value.oneCell', putSt, stepP, putP, reduceCtorEq, V.lin, V.linL, D.lin, isNil, binP, unP, BinOp.isShift, Prog.ofO, Nat.reduceAdd, Nat.reduceMul, Nat.reduceSub, Nat.reduceLT, Nat.reduceLeDiff, Nat.reduceEqDiff, ite_true, ite_false, fieldAddrP, fieldP, indexAddrP, loadP, storeP, boxP, allocP, cellsP, asVal, setSeg, outP, outT, cntT, TyK.field, TyK.agg, zeroRow, V.ren, V.renL, forall_eq_or_imp, forall_const, minmaxP, lenP, lenOf, lenStr, V.asInt, decide_true, decide_false, sliceP, boundP, makeSliceP, convertP, appendP, rowsOfP, ontoP, sizeFits, V.rowSize, TyK.src, resV, resV.go, resV.gol, retP, retOne, retAll, resTo, objsAre, Option.map_eq_map, Function.const_apply, Int.reduceNeg, Int.reduceToNat, ty2, ty3, ty4, ty26, ty53, cI, cB, cS, cL, LcIi64_e, *]
       try (refine hk.use _ _ _ _ ?_; clear hk k))
    | fail)
  all_goals (try rfl)
  all_goals (try (simp; done))
  all_goals (try (simp_all; done))
def laws_eqMixed (k : Nat) (p0 : GMixed) (p1 : GMixed) : Option (Bool) :=
  (laws_eqAsmS k p0.code p1.code).bind fun t1 => cond ((!t1)) (some false) ((laws_eqMixFrameS k p0.frames p1.frames).bind fun t2 => cond ((!t2)) (some false) ((laws_eqInt64SS k p0.heap p1.heap).bind fun t3 => cond ((!t3)) (some false) ((laws_eqInt64S k p0.out p1.out).bind fun t4 => cond ((!t4)) (some false) (cond ((p0.fuel0 != p1.fuel0)) (some false) (cond ((!(p0.done == p1.done))) (some false) (cond ((p0.value != p1.value)) (some false) (cond ((p0.trap != p1.trap)) (some false) (some true))))))))

theorem c_laws_eqMixed {k : Nat} {p0 : GMixed} {p1 : GMixed} {r : Bool} (h : laws_eqMixed k p0 p1 = some r) : Con Try.prog 32 [.agg [.d (.row .bor 3 (Rw (GAsm.cells .bor) p0.code)), .d (.row .bor 6 (Rw (GMixFrame.cells .bor) p0.frames)), .d (.row .bor 1 (Rw (cL .bor 1 (cI .i64)) p0.heap)), .d (.row .bor 1 (Rw (cI .i64) p0.out)), V.int p0.fuel0, V.bool p0.done, V.int p0.value, V.int p0.trap], .agg [.d (.row .bor 3 (Rw (GAsm.cells .bor) p1.code)), .d (.row .bor 6 (Rw (GMixFrame.cells .bor) p1.frames)), .d (.row .bor 1 (Rw (cL .bor 1 (cI .i64)) p1.heap)), .d (.row .bor 1 (Rw (cI .i64) p1.out)), V.int p1.fuel0, V.bool p1.done, V.int p1.value, V.int p1.trap]] [] (V.bool r) [] := by
  refine con_of_sw Try.func32 rfl Try.call32 (by simp [Try.ntmps32]) (by simp [V.inNs, V.inN]) (by simp [C.inN, V.inNss, V.inNs, V.inN, inNss_dd]) (by simp [V.inNs, V.inN]) (by simp [C.inN, V.inNss, V.inNs, V.inN, inNss_dd]) rfl ?_
  rw [Try.ntmps32, Try.results32]
  unfold laws_eqMixed at h
  replace h := Yes.mk h
  simp only [entryS, entryO, Nat.reduceAdd, List.length_nil, List.length_cons]
  repeat' (first
    | (with_reducible (first | refine sw_reg ?_ | refine sw_ret ?_ | refine sw_skip ?_ | refine sw_block ?_ | refine sw_exit ?_ | refine seqQ_normal ?_ | refine blockQ_normal ?_ | refine blockQ_ret ?_ | refine blockQ_this ?_ | refine blockQ_other (by decide) ?_ | refine regW_nil ?_ | refine sw_draw mixed ?_ | refine retQ_ret ?_ | refine retQ_normal ?_))
    | (with_reducible refine regD_nil ?_
       refine ⟨by kernel_rfl, ?_⟩)
    | (revert h; (first | ((with_reducible refine idx_elim ?_); intro m hm1 hm2 hm3 h; (try (simp only [Int.reduceToNat] at hm3)); (try (revert hm3; (with_reducible apply same_elim); (focus (with_reducible assumption)); rintro rfl)); (try (simp only [List.length_set, List.length_cons, List.length_nil, List.length_replicate, Nat.reduceAdd, Int.cast_ofNat_Int, Nat.zero_add, List.length_append] at hm2))) | (with_reducible refine sidx_elim ?_; intro m hm1 hm3 h) | (with_reducible refine gd_elim ?_; intro hg h; try (have hg2 := hg.2; have hg := hg.1; (try (simp only [Nat.reduceLeDiff] at hg2)); (try (revert hg2; (with_reducible refine toNat_elim hg ?_); intro hg2 hg4)); try (have hg3 := hg2.2; have hg2 := hg2.1; (try (simp only [Nat.reduceLeDiff] at hg3))))) | (with_reducible refine condt_elim ?_ ?_; (focus (with_reducible assumption)); intro h) | (with_reducible refine condf_elim ?_ ?_; (focus (with_reducible assumption)); intro h)))
    | with_reducible refine sw_seq ?_
    | with_reducible refine seqQ_ret ?_
    | with_reducible refine seqQ_exit ?_
    | ((with_reducible refine wp_ite ?_ ?_)
       all_goals (intro hc; (try (simp only [Bool.not_eq_true, Bool.not_eq_false] at hc)); simp only [hc]))
    | (with_reducible apply regW_skip
       · simp only [dstOk, Nat.reduceLT]
       · rfl
       · simp only [putSt, lk, lkb, reduceCtorEq, Nat.reduceEqDiff]; done)
    | (with_reducible apply regW_yesN
       · simp only [dstOk, Nat.reduceLT]
       · rfl
       · simp only [putSt, lk, lkb, reduceCtorEq, Nat.reduceEqDiff]; done)
    | (with_reducible apply regW_no
       · simp only [dstOk, Nat.reduceLT]
       · rfl
       · simp only [putSt, lk, lkb, reduceCtorEq, Nat.reduceEqDiff, Bool.not_true, Bool.not_false]; done)
    | (with_reducible apply regW_guardN
       · simp only [dstOk, Nat.reduceLT]
       · rfl
       · simp only [putSt, lk, lkb, reduceCtorEq, Nat.reduceEqDiff]; rfl
       all_goals (intro hc; (try (simp only [Bool.not_true, Bool.not_false] at hc))))
    | (with_reducible apply sw_cond
       · simp only [putSt, lk, lkb, reduceCtorEq, Nat.reduceEqDiff]; rfl
       all_goals (intro hc; try (cases hc; done)))
    | ((first
        | ((with_reducible refine gh_ret ?_)
           revert h
           with_reducible refine some_elim ?_
           rintro rfl)
        | (with_reducible refine here_call ?_
           revert h
           with_reducible refine bind_elim ?_
           intro t ht h
           (first
             | (refine call_dataE (c_laws_eqInt64S ht) ?_ rfl ?_
                · first | rfl | (simp; done))
             | (refine call_dataE (c_laws_eqAsmS ht) ?_ rfl ?_
                · first | rfl | (simp; done))
             | (refine call_dataE (c_laws_eqMixFrameS ht) ?_ rfl ?_
                · first | rfl | (simp; done))
             | (refine call_dataE (c_laws_eqInt64SS ht) ?_ rfl ?_
                · first | rfl | (simp; done))))
        | (with_reducible apply regD_opK
           · simp only [dstOk, Nat.reduceLT]
           · simp only [Nat.reduceAdd]; rfl
           intro k hk)
        | (with_reducible apply regW_opK
           · simp only [dstOk, Nat.reduceLT]
           · simp only [Nat.reduceAdd]; rfl
           intro k hk)
        | skip)
       simp only [RetW, bn, lkb, evb, opC, opP, fetchN, fetchP, fetchAll, fetchO, Prog.bind, Prog.wp, Prog.wp_bind, lk, nameP, nameAll, Value.oneCell', putSt, stepP, putP, reduceCtorEq, V.lin, V.linL, D.lin, isNil, binP, unP, BinOp.isShift, Prog.ofO, Nat.reduceAdd, Nat.reduceMul, Nat.reduceSub, Nat.reduceLT, Nat.reduceLeDiff, Nat.reduceEqDiff, ite_true, ite_false, fieldAddrP, fieldP, indexAddrP, loadP, storeP, boxP, allocP, cellsP, asVal, setSeg, outP, outT, cntT, TyK.field, TyK.agg, zeroRow, V.ren, V.renL, forall_eq_or_imp, forall_const, minmaxP, lenP, lenOf, lenStr, V.asInt, decide_true, decide_false, sliceP, boundP, makeSliceP, convertP, appendP, rowsOfP, ontoP, sizeFits, V.rowSize, TyK.src, resV, resV.go, resV.gol, retP, retOne, retAll, resTo, objsAre, Option.map_eq_map, Function.const_apply, Int.reduceNeg, Int.reduceToNat, ty2, ty3, ty4, ty5, ty6, ty7, ty26, ty51, ty52, ty53, ty55, ty89, ty125, ty126, ty128, ty152, ty153, ty155, ty171, ty173, GAsm.cells, GAsmIns.cells, GI2.cells, GMixFrame.cells, GMixed.cells, GMov.cells, cI, cB, cS, cL, GI2_e, GMov_e, GAsmIns_e, GAsm_e, GMixFrame_e, GMixed_e, LcIi64_e, LGI2_e, *]
       try (refine hk.use _ _ _ _ ?_; clear hk k))
    | fail)
  all_goals (try rfl)
  all_goals (try (simp; done))
  all_goals (try (simp_all; done))
def laws_markMovS.l1 : Nat → (List GMov) → Int → Int → Option ((List GMov) × Int)
  | 0, _, _, _ => none
  | k + 1, a1, a2, a3 => cond ((decide (a3 < ((a1.length : Int))))) ((idx a1 a3).bind fun m1 => laws_markMovS.l1 k ((a1.set a3.toNat ((⟨a2, (⟨(IntKind.i64.wrap (a2 + 1)), (IntKind.i64.wrap (((IntKind.i64.wrap (a2 + 1))) + 1))⟩ : GI2)⟩ : GMov)))) ((IntKind.i64.wrap (((IntKind.i64.wrap (((IntKind.i64.wrap (a2 + 1))) + 1))) + 1))) ((IntKind.i64.wrap (a3 + 1)))) (some (a1, a2))

def laws_markMovS (k : Nat) (p0 : (List GMov)) (p1 : Int) : Option (Int × (List GMov)) :=
  (laws_markMovS.l1 k p0 p1 0).bind fun o1 => some (o1.2, o1.1)

theorem c_laws_markMovS {k : Nat} {p0 : (List GMov)} {p1 : Int} {r : Int × (List GMov)} (h : laws_markMovS k p0 p1 = some r) : Con Try.prog 104 [.sl 0 3 0 p0.length, V.int p1] [.o 3 (dd (Rw GMov.cells p0))] (V.int r.1) [.o 3 (dd (Rw GMov.cells r.2))] := by
  refine con_of_sw Try.func104 rfl Try.call104 (by simp [Try.ntmps104]) (by simp [V.inNs, V.inN]) (by simp [C.inN, V.inNss, V.inNs, V.inN, inNss_dd]) (by simp [V.inNs, V.inN]) (by simp [C.inN, V.inNss, V.inNs, V.inN, inNss_dd]) rfl ?_
  rw [Try.ntmps104, Try.results104]
  unfold laws_markMovS at h
  replace h := Yes.mk h
  simp only [entryS, entryO, Nat.reduceAdd, List.length_nil, List.length_cons]
  repeat' (first
    | (with_reducible (first | refine sw_reg ?_ | refine sw_ret ?_ | refine sw_skip ?_ | refine sw_block ?_ | refine sw_exit ?_ | refine seqQ_normal ?_ | refine blockQ_normal ?_ | refine blockQ_ret ?_ | refine blockQ_this ?_ | refine blockQ_other (by decide) ?_ | refine regW_nil ?_ | refine sw_draw mixed ?_ | refine retQ_ret ?_ | refine retQ_normal ?_))
    | (with_reducible refine regD_nil ?_
       refine ⟨by kernel_rfl, ?_⟩)
    | (revert h; (first | ((with_reducible refine idx_elim ?_); intro m hm1 hm2 hm3 h; (try (simp only [Int.reduceToNat] at hm3)); (try (revert hm3; (with_reducible apply same_elim); (focus (with_reducible assumption)); rintro rfl)); (try (simp only [List.length_set, List.length_cons, List.length_nil, List.length_replicate, Nat.reduceAdd, Int.cast_ofNat_Int, Nat.zero_add, List.length_append] at hm2))) | (with_reducible refine sidx_elim ?_; intro m hm1 hm3 h) | (with_reducible refine gd_elim ?_; intro hg h; try (have hg2 := hg.2; have hg := hg.1; (try (simp only [Nat.reduceLeDiff] at hg2)); (try (revert hg2; (with_reducible refine toNat_elim hg ?_); intro hg2 hg4)); try (have hg3 := hg2.2; have hg2 := hg2.1; (try (simp only [Nat.reduceLeDiff] at hg3))))) | (with_reducible refine condt_elim ?_ ?_; (focus (with_reducible assumption)); intro h) | (with_reducible refine condf_elim ?_ ?_; (focus (with_reducible assumption)); intro h)))
    | ((first | with_reducible refine seqQ_ret (K := (fun st1 n1 => Gh st1 n1 (NextS _ 10000000 _ _ _ _))) ?_ | with_reducible refine seqQ_exit (K := (fun st1 n1 => Gh st1 n1 (NextS _ 10000000 _ _ _ _))) ?_)
       obtain rfl := h.get
       have h := hK1
       (try (simp only [Sum.elim_inl, Sum.elim_inr] at h)))
    | (with_reducible refine here_loop (c := (.seq (.seq (.region 2 _ _) _) _)) ?_
       skip
       revert h
       with_reducible refine bind_elimY ?_
       intro o1 h hK1
       refine sw_loop (ι := Nat × (List GMov) × Int × Int) 10000000 (by decide) (fun x : Nat × (List GMov) × Int × Int => [(.s 0, some (.v (.sl 0 3 0 x.2.1.length))), (.s 1, some (.v (V.int x.2.2.1))), (.s 5, some (.v (V.int x.2.2.2))), (.r 0, some (.o 3 (dd (Rw GMov.cells x.2.1))))]) (fun x => x.1) (fun x => Yes (laws_markMovS.l1 x.1 x.2.1 x.2.2.1 x.2.2.2) o1) (_, _, _, _) ?_ h ?_ ?_
       · exact (by simp [slNL, C.inN, V.inN, V.inNs, V.inNss, inNss_dd, inNs_map_d])
       · simp only [SubL, putSt, lk, lkb, reduceCtorEq, Nat.reduceEqDiff, List.length_set, List.length_replicate]; repeat' (first | apply And.intro | rfl | trivial | (simp only [*]; done))
       rintro ⟨_ | k, a1, a2, a3⟩ h
       · simp only [laws_markMovS.l1] at h; exact h.none
       simp only [laws_markMovS.l1] at h
)
    | (with_reducible refine here_next (N0 := 10000000) ?_
       skip
       refine nexts_to (_, _, _, _) (by decide) ?_ (Nat.lt_succ_self _) h ?_
       · exact (by simp [slNL, C.inN, V.inN, V.inNs, V.inNss, inNss_dd, inNs_map_d])
       · simp only [SubL, putSt, lk, lkb, reduceCtorEq, Nat.reduceEqDiff, List.length_set, List.length_replicate]; repeat' (first | apply And.intro | rfl | trivial | (simp only [*]; done)))
    | with_reducible refine sw_seq ?_
    | with_reducible refine seqQ_ret ?_
    | with_reducible refine seqQ_exit ?_
    | ((with_reducible refine wp_ite ?_ ?_)
       all_goals (intro hc; (try (simp only [Bool.not_eq_true, Bool.not_eq_false] at hc)); simp only [hc]))
    | (with_reducible apply regW_skip
       · simp only [dstOk, Nat.reduceLT]
       · rfl
       · simp only [putSt, lk, lkb, reduceCtorEq, Nat.reduceEqDiff]; done)
    | (with_reducible apply regW_yesN
       · simp only [dstOk, Nat.reduceLT]
       · rfl
       · simp only [putSt, lk, lkb, reduceCtorEq, Nat.reduceEqDiff]; done)
    | (with_reducible apply regW_no
       · simp only [dstOk, Nat.reduceLT]
       · rfl
       · simp only [putSt, lk, lkb, reduceCtorEq, Nat.reduceEqDiff, Bool.not_true, Bool.not_false]; done)
    | (with_reducible apply regW_guardN
       · simp only [dstOk, Nat.reduceLT]
       · rfl
       · simp only [putSt, lk, lkb, reduceCtorEq, Nat.reduceEqDiff]; rfl
       all_goals (intro hc; (try (simp only [Bool.not_true, Bool.not_false] at hc))))
    | (with_reducible apply sw_cond
       · simp only [putSt, lk, lkb, reduceCtorEq, Nat.reduceEqDiff]; rfl
       all_goals (intro hc; try (cases hc; done)))
    | ((first
        | ((with_reducible refine gh_ret ?_)
           revert h
           with_reducible refine some_elim ?_
           rintro rfl)
        | (with_reducible apply regD_opK
           · simp only [dstOk, Nat.reduceLT]
           · simp only [Nat.reduceAdd]; rfl
           intro k hk)
        | (with_reducible apply regW_opK
           · simp only [dstOk, Nat.reduceLT]
           · simp only [Nat.reduceAdd]; rfl
           intro k hk)
        | skip)
       simp only [RetW, bn, lkb, evb, opC, opP, fetchN, fetchP, fetchAll, fetchO, Prog.bind, Prog.wp, Prog.wp_bind, lk, nameP, nameAll, Value.oneCell', putSt, stepP, putP, reduceCtorEq, V.lin, V.linL, D.lin, isNil, binP, unP, BinOp.isShift, Prog.ofO, Nat.reduceAdd, Nat.reduceMul, Nat.reduceSub, Nat.reduceLT, Nat.reduceLeDiff, Nat.reduceEqDiff, ite_true, ite_false, fieldAddrP, fieldP, indexAddrP, loadP, storeP, boxP, allocP, cellsP, asVal, setSeg, outP, outT, cntT, TyK.field, TyK.agg, zeroRow, V.ren, V.renL, forall_eq_or_imp, forall_const, minmaxP, lenP, lenOf, lenStr, V.asInt, decide_true, decide_false, sliceP, boundP, makeSliceP, convertP, appendP, rowsOfP, ontoP, sizeFits, V.rowSize, TyK.src, resV, resV.go, resV.gol, retP, retOne, retAll, resTo, objsAre, Option.map_eq_map, Function.const_apply, Int.reduceNeg, Int.reduceToNat, ty2, ty3, ty152, ty171, ty173, GI2.cells, GMov.cells, cI, cB, cS, cL, GI2_e, GMov_e, *]
       try (refine hk.use _ _ _ _ ?_; clear hk k))
    | fail)
  all_goals (try rfl)
  all_goals (try (simp; done))
  all_goals (try (simp_all; done))
def laws_markValS.l1 : Nat → (List GI2) → Int → Int → Option ((List GI2) × Int)
  | 0, _, _, _ => none
  | k + 1, a1, a2, a3 => cond ((decide (a3 < ((a1.length : Int))))) ((idx a1 a3).bind fun m1 => laws_markValS.l1 k ((a1.set a3.toNat ((⟨a2, (IntKind.i64.wrap (a2 + 1))⟩ : GI2)))) ((IntKind.i64.wrap (((IntKind.i64.wrap (a2 + 1))) + 1))) ((IntKind.i64.wrap (a3 + 1)))) (some (a1, a2))

def laws_markValS (k : Nat) (p0 : (List GI2)) (p1 : Int) : Option (Int × (List GI2)) :=
  (laws_markValS.l1 k p0 p1 0).bind fun o1 => some (o1.2, o1.1)

theorem c_laws_markValS {k : Nat} {p0 : (List GI2)} {p1 : Int} {r : Int × (List GI2)} (h : laws_markValS k p0 p1 = some r) : Con Try.prog 105 [.sl 0 2 0 p0.length, V.int p1] [.o 2 (dd (Rw GI2.cells p0))] (V.int r.1) [.o 2 (dd (Rw GI2.cells r.2))] := by
  refine con_of_sw Try.func105 rfl Try.call105 (by simp [Try.ntmps105]) (by simp [V.inNs, V.inN]) (by simp [C.inN, V.inNss, V.inNs, V.inN, inNss_dd]) (by simp [V.inNs, V.inN]) (by simp [C.inN, V.inNss, V.inNs, V.inN, inNss_dd]) rfl ?_
  rw [Try.ntmps105, Try.results105]
  unfold laws_markValS at h
  replace h := Yes.mk h
  simp only [entryS, entryO, Nat.reduceAdd, List.length_nil, List.length_cons]
  repeat' (first
    | (with_reducible (first | refine sw_reg ?_ | refine sw_ret ?_ | refine sw_skip ?_ | refine sw_block ?_ | refine sw_exit ?_ | refine seqQ_normal ?_ | refine blockQ_normal ?_ | refine blockQ_ret ?_ | refine blockQ_this ?_ | refine blockQ_other (by decide) ?_ | refine regW_nil ?_ | refine sw_draw mixed ?_ | refine retQ_ret ?_ | refine retQ_normal ?_))
    | (with_reducible refine regD_nil ?_
       refine ⟨by kernel_rfl, ?_⟩)
    | (revert h; (first | ((with_reducible refine idx_elim ?_); intro m hm1 hm2 hm3 h; (try (simp only [Int.reduceToNat] at hm3)); (try (revert hm3; (with_reducible apply same_elim); (focus (with_reducible assumption)); rintro rfl)); (try (simp only [List.length_set, List.length_cons, List.length_nil, List.length_replicate, Nat.reduceAdd, Int.cast_ofNat_Int, Nat.zero_add, List.length_append] at hm2))) | (with_reducible refine sidx_elim ?_; intro m hm1 hm3 h) | (with_reducible refine gd_elim ?_; intro hg h; try (have hg2 := hg.2; have hg := hg.1; (try (simp only [Nat.reduceLeDiff] at hg2)); (try (revert hg2; (with_reducible refine toNat_elim hg ?_); intro hg2 hg4)); try (have hg3 := hg2.2; have hg2 := hg2.1; (try (simp only [Nat.reduceLeDiff] at hg3))))) | (with_reducible refine condt_elim ?_ ?_; (focus (with_reducible assumption)); intro h) | (with_reducible refine condf_elim ?_ ?_; (focus (with_reducible assumption)); intro h)))
    | ((first | with_reducible refine seqQ_ret (K := (fun st1 n1 => Gh st1 n1 (NextS _ 10000000 _ _ _ _))) ?_ | with_reducible refine seqQ_exit (K := (fun st1 n1 => Gh st1 n1 (NextS _ 10000000 _ _ _ _))) ?_)
       obtain rfl := h.get
       have h := hK1
       (try (simp only [Sum.elim_inl, Sum.elim_inr] at h)))
    | (with_reducible refine here_loop (c := (.seq (.seq (.region 2 _ _) _) _)) ?_
       skip
       revert h
       with_reducible refine bind_elimY ?_
       intro o1 h hK1
       refine sw_loop (ι := Nat × (List GI2) × Int × Int) 10000000 (by decide) (fun x : Nat × (List GI2) × Int × Int => [(.s 0, some (.v (.sl 0 2 0 x.2.1.length))), (.s 1, some (.v (V.int x.2.2.1))), (.s 5, some (.v (V.int x.2.2.2))), (.r 0, some (.o 2 (dd (Rw GI2.cells x.2.1))))]) (fun x => x.1) (fun x => Yes (laws_markValS.l1 x.1 x.2.1 x.2.2.1 x.2.2.2) o1) (_, _, _, _) ?_ h ?_ ?_
       · exact (by simp [slNL, C.inN, V.inN, V.inNs, V.inNss, inNss_dd, inNs_map_d])
       · simp only [SubL, putSt, lk, lkb, reduceCtorEq, Nat.reduceEqDiff, List.length_set, List.length_replicate]; repeat' (first | apply And.intro | rfl | trivial | (simp only [*]; done))
       rintro ⟨_ | k, a1, a2, a3⟩ h
       · simp only [laws_markValS.l1] at h; exact h.none
       simp only [laws_markValS.l1] at h
)
    | (with_reducible refine here_next (N0 := 10000000) ?_
       skip
       refine nexts_to (_, _, _, _) (by decide) ?_ (Nat.lt_succ_self _) h ?_
       · exact (by simp [slNL, C.inN, V.inN, V.inNs, V.inNss, inNss_dd, inNs_map_d])
       · simp only [SubL, putSt, lk, lkb, reduceCtorEq, Nat.reduceEqDiff, List.length_set, List.length_replicate]; repeat' (first | apply And.intro | rfl | trivial | (simp only [*]; done)))
    | with_reducible refine sw_seq ?_
    | with_reducible refine seqQ_ret ?_
    | with_reducible refine seqQ_exit ?_
    | ((with_reducible refine wp_ite ?_ ?_)
       all_goals (intro hc; (try (simp only [Bool.not_eq_true, Bool.not_eq_false] at hc)); simp only [hc]))
    | (with_reducible apply regW_skip
       · simp only [dstOk, Nat.reduceLT]
       · rfl
       · simp only [putSt, lk, lkb, reduceCtorEq, Nat.reduceEqDiff]; done)
    | (with_reducible apply regW_yesN
       · simp only [dstOk, Nat.reduceLT]
       · rfl
       · simp only [putSt, lk, lkb, reduceCtorEq, Nat.reduceEqDiff]; done)
    | (with_reducible apply regW_no
       · simp only [dstOk, Nat.reduceLT]
       · rfl
       · simp only [putSt, lk, lkb, reduceCtorEq, Nat.reduceEqDiff, Bool.not_true, Bool.not_false]; done)
    | (with_reducible apply regW_guardN
       · simp only [dstOk, Nat.reduceLT]
       · rfl
       · simp only [putSt, lk, lkb, reduceCtorEq, Nat.reduceEqDiff]; rfl
       all_goals (intro hc; (try (simp only [Bool.not_true, Bool.not_false] at hc))))
    | (with_reducible apply sw_cond
       · simp only [putSt, lk, lkb, reduceCtorEq, Nat.reduceEqDiff]; rfl
       all_goals (intro hc; try (cases hc; done)))
    | ((first
        | ((with_reducible refine gh_ret ?_)
           revert h
           with_reducible refine some_elim ?_
           rintro rfl)
        | (with_reducible apply regD_opK
           · simp only [dstOk, Nat.reduceLT]
           · simp only [Nat.reduceAdd]; rfl
           intro k hk)
        | (with_reducible apply regW_opK
           · simp only [dstOk, Nat.reduceLT]
           · simp only [Nat.reduceAdd]; rfl
           intro k hk)
        | skip)
       simp only [RetW, bn, lkb, evb, opC, opP, fetchN, fetchP, fetchAll, fetchO, Prog.bind, Prog.wp, Prog.wp_bind, lk, nameP, nameAll, Value.oneCell', putSt, stepP, putP, reduceCtorEq, V.lin, V.linL, D.lin, isNil, binP, unP, BinOp.isShift, Prog.ofO, Nat.reduceAdd, Nat.reduceMul, Nat.reduceSub, Nat.reduceLT, Nat.reduceLeDiff, Nat.reduceEqDiff, ite_true, ite_false, fieldAddrP, fieldP, indexAddrP, loadP, storeP, boxP, allocP, cellsP, asVal, setSeg, outP, outT, cntT, TyK.field, TyK.agg, zeroRow, V.ren, V.renL, forall_eq_or_imp, forall_const, minmaxP, lenP, lenOf, lenStr, V.asInt, decide_true, decide_false, sliceP, boundP, makeSliceP, convertP, appendP, rowsOfP, ontoP, sizeFits, V.rowSize, TyK.src, resV, resV.go, resV.gol, retP, retOne, retAll, resTo, objsAre, Option.map_eq_map, Function.const_apply, Int.reduceNeg, Int.reduceToNat, ty2, ty3, ty153, ty171, GI2.cells, cI, cB, cS, cL, GI2_e, LGI2_e, *]
       try (refine hk.use _ _ _ _ ?_; clear hk k))
    | fail)
  all_goals (try rfl)
  all_goals (try (simp; done))
  all_goals (try (simp_all; done))
def laws_markAsmInsS.l1 : Nat → (List GAsmIns) → Int → Int → Option ((List GAsmIns) × Int)
  | 0, _, _, _ => none
  | k + 1, a1, a2, a3 => cond ((decide (a3 < ((a1.length : Int))))) ((idx a1 a3).bind fun m1 => (laws_markMovS k m1.pre a2).bind fun t2 => gd (t2.2.length = m1.pre.length) ((laws_markValS k m1.l ((IntKind.i64.wrap (((IntKind.i64.wrap (t2.1 + 1))) + 1)))).bind fun t3 => gd (t3.2.length = m1.l.length) (laws_markAsmInsS.l1 k ((a1.set a3.toNat (⟨t2.2, t2.1, (IntKind.i64.wrap (t2.1 + 1)), t3.2, t3.1⟩ : GAsmIns))) ((IntKind.i64.wrap (t3.1 + 1))) ((IntKind.i64.wrap (a3 + 1)))))) (some (a1, a2))

def laws_markAsmInsS (k : Nat) (p0 : (List GAsmIns)) (p1 : Int) : Option (Int × (List GAsmIns)) :=
  (laws_markAsmInsS.l1 k p0 p1 0).bind fun o1 => some (o1.2, o1.1)

theorem c_laws_markAsmInsS {k : Nat} {p0 : (List GAsmIns)} {p1 : Int} {r : Int × (List GAsmIns)} (h : laws_markAsmInsS k p0 p1 = some r) : Con Try.prog 86 [.sl 0 5 0 p0.length, V.int p1] [.o 5 (dd (Rw (GAsmIns.cells .own) p0))] (V.int r.1) [.o 5 (dd (Rw (GAsmIns.cells .own) r.2))] := by
  refine con_of_sw Try.func86 rfl Try.call86 (by simp [Try.ntmps86]) (by simp [V.inNs, V.inN]) (by simp [C.inN, V.inNss, V.inNs, V.inN, inNss_dd]) (by simp [V.inNs, V.inN]) (by simp [C.inN, V.inNss, V.inNs, V.inN, inNss_dd]) rfl ?_
  rw [Try.ntmps86, Try.results86]
  unfold laws_markAsmInsS at h
  replace h := Yes.mk h
  simp only [entryS, entryO, Nat.reduceAdd, List.length_nil, List.length_cons]
  repeat' (first
    | (with_reducible (first | refine sw_reg ?_ | refine sw_ret ?_ | refine sw_skip ?_ | refine sw_block ?_ | refine sw_exit ?_ | refine seqQ_normal ?_ | refine blockQ_normal ?_ | refine blockQ_ret ?_ | refine blockQ_this ?_ | refine blockQ_other (by decide) ?_ | refine regW_nil ?_ | refine sw_draw mixed ?_ | refine retQ_ret ?_ | refine retQ_normal ?_))
    | (with_reducible refine regD_nil ?_
       refine ⟨by kernel_rfl, ?_⟩)
    | (revert h; (first | ((with_reducible refine idx_elim ?_); intro m hm1 hm2 hm3 h; (try (simp only [Int.reduceToNat] at hm3)); (try (revert hm3; (with_reducible apply same_elim); (focus (with_reducible assumption)); rintro rfl)); (try (simp only [List.length_set, List.length_cons, List.length_nil, List.length_replicate, Nat.reduceAdd, Int.cast_ofNat_Int, Nat.zero_add, List.length_append] at hm2))) | (with_reducible refine sidx_elim ?_; intro m hm1 hm3 h) | (with_reducible refine gd_elim ?_; intro hg h; try (have hg2 := hg.2; have hg := hg.1; (try (simp only [Nat.reduceLeDiff] at hg2)); (try (revert hg2; (with_reducible refine toNat_elim hg ?_); intro hg2 hg4)); try (have hg3 := hg2.2; have hg2 := hg2.1; (try (simp only [Nat.reduceLeDiff] at hg3))))) | (with_reducible refine condt_elim ?_ ?_; (focus (with_reducible assumption)); intro h) | (with_reducible refine condf_elim ?_ ?_; (focus (with_reducible assumption)); intro h)))
    | ((first | with_reducible refine seqQ_ret (K := (fun st1 n1 => Gh st1 n1 (NextS _ 10000000 _ _ _ _))) ?_ | with_reducible refine seqQ_exit (K := (fun st1 n1 => Gh st1 n1 (NextS _ 10000000 _ _ _ _))) ?_)
       obtain rfl := h.get
       have h := hK1
       (try (simp only [Sum.elim_inl, Sum.elim_inr] at h)))
    | (with_reducible refine here_loop (c := (.seq (.seq (.region 2 _ _) _) _)) ?_
       skip
       revert h
       with_reducible refine bind_elimY ?_
       intro o1 h hK1
       refine sw_gh ?_
       (try (apply gh_resRow 0; (focus (simp only [putSt, lk, lkb, reduceCtorEq, Nat.reduceEqDiff]; try rfl)); (focus (first | (simp only [Rw_length, List.length_set]; omega) | (simp [Rw_length]; omega))); simp only [rxb, Nat.reduceAdd, Nat.reduceLeDiff, resSlotP, nameSlotP, Prog.wp, Prog.wp_bind, Prog.bind, Prog.ofO, putSt, lk, lkb, reduceCtorEq, Nat.reduceEqDiff, resV, resV.go, resV.gol, nameAll, nameP, outP, outT, cntT, V.lin, D.lin, *, mmb, GI2_Dset, GMov_Dset, GAsmIns_Dset, LGI2_Dset]))
       refine gh_sw ?_
       refine sw_loop (ι := Nat × (List GAsmIns) × Int × Int) 10000000 (by decide) (fun x : Nat × (List GAsmIns) × Int × Int => [(.s 0, some (.v (.sl 0 5 0 x.2.1.length))), (.s 1, some (.v (V.int x.2.2.1))), (.s 5, some (.v (V.int x.2.2.2))), (.r 0, some (.o 5 (dd (Rw (GAsmIns.cells .own) x.2.1))))]) (fun x => x.1) (fun x => Yes (laws_markAsmInsS.l1 x.1 x.2.1 x.2.2.1 x.2.2.2) o1) (_, _, _, _) ?_ h ?_ ?_
       · exact (by simp [slNL, C.inN, V.inN, V.inNs, V.inNss, inNss_dd, inNs_map_d])
       · simp only [SubL, putSt, lk, lkb, reduceCtorEq, Nat.reduceEqDiff, List.length_set, List.length_replicate]; repeat' (first | apply And.intro | rfl | trivial | (simp only [*]; done))
       rintro ⟨_ | k, a1, a2, a3⟩ h
       · simp only [laws_markAsmInsS.l1] at h; exact h.none
       simp only [laws_markAsmInsS.l1] at h
)
    | (with_reducible refine here_next (N0 := 10000000) ?_
       skip
       (try (apply gh_resRow 0; (focus (simp only [putSt, lk, lkb, reduceCtorEq, Nat.reduceEqDiff]; try rfl)); (focus (first | (simp only [Rw_length, List.length_set]; omega) | (simp [Rw_length]; omega))); simp only [rxb, Nat.reduceAdd, Nat.reduceLeDiff, resSlotP, nameSlotP, Prog.wp, Prog.wp_bind, Prog.bind, Prog.ofO, putSt, lk, lkb, reduceCtorEq, Nat.reduceEqDiff, resV, resV.go, resV.gol, nameAll, nameP, outP, outT, cntT, V.lin, D.lin, *, mmb, GI2_Dset, GMov_Dset, GAsmIns_Dset, LGI2_Dset]))
       refine nexts_to (_, _, _, _) (by decide) ?_ (Nat.lt_succ_self _) h ?_
       · exact (by simp [slNL, C.inN, V.inN, V.inNs, V.inNss, inNss_dd, inNs_map_d])
       · simp only [SubL, putSt, lk, lkb, reduceCtorEq, Nat.reduceEqDiff, List.length_set, List.length_replicate]; repeat' (first | apply And.intro | rfl | trivial | (simp only [*]; done)))
    | with_reducible refine sw_seq ?_
    | with_reducible refine seqQ_ret ?_
    | with_reducible refine seqQ_exit ?_
    | ((with_reducible refine wp_ite ?_ ?_)
       all_goals (intro hc; (try (simp only [Bool.not_eq_true, Bool.not_eq_false] at hc)); simp only [hc]))
    | (with_reducible apply regW_skip
       · simp only [dstOk, Nat.reduceLT]
       · rfl
       · simp only [putSt, lk, lkb, reduceCtorEq, Nat.reduceEqDiff]; done)
    | (with_reducible apply regW_yesN
       · simp only [dstOk, Nat.reduceLT]
       · rfl
       · simp only [putSt, lk, lkb, reduceCtorEq, Nat.reduceEqDiff]; done)
    | (with_reducible apply regW_no
       · simp only [dstOk, Nat.reduceLT]
       · rfl
       · simp only [putSt, lk, lkb, reduceCtorEq, Nat.reduceEqDiff, Bool.not_true, Bool.not_false]; done)
    | (with_reducible apply regW_guardN
       · simp only [dstOk, Nat.reduceLT]
       · rfl
       · simp only [putSt, lk, lkb, reduceCtorEq, Nat.reduceEqDiff]; rfl
       all_goals (intro hc; (try (simp only [Bool.not_true, Bool.not_false] at hc))))
    | (with_reducible apply sw_cond
       · simp only [putSt, lk, lkb, reduceCtorEq, Nat.reduceEqDiff]; rfl
       all_goals (intro hc; try (cases hc; done)))
    | ((first
        | ((with_reducible refine gh_ret ?_)
           revert h
           with_reducible refine some_elim ?_
           rintro rfl)
        | (with_reducible refine here_call ?_
           revert h
           with_reducible refine bind_elim ?_
           intro t ht h
           (first
             | (refine call_obj [10000512] (c_laws_markMovS ht) (by decide) ?_ ?_
                · first | exact .inl rfl | (refine .inr ⟨?_, ?_⟩; (focus (first | rfl | (simp only [V.nb, V.nbL, D.nb, D.nbL, Md.nb, nbb, GI2_nb, GMov_nb, GAsmIns_nb, LGI2_nb]; done))); (focus (simp [C.nb, V.nbLL, V.nbL, V.nb, D.nb]; done)))
                simp only [argsP, argP, V.namesOf, V.namesOfL, List.mem_append, List.append_nil, List.mem_cons, or_false, or_true, true_or, objsP, C.ren, V.ren, V.renL, renLL_dd, V.renLL, List.getD_cons_zero, List.getD_cons_succ, C.o.injEq, hyb, lendAL, lendA, undd.unddR, D.lendL, D.lend, Md.lend, GI2_lend, GMov_lend, GAsmIns_lend, LGI2_lend, putSt, lk, lkb, reduceCtorEq, Nat.reduceEqDiff, Prog.wp, Prog.wp_bind, Prog.bind, Prog.ofO, List.take_of_length_le, *])
             | (refine call_obj [10002176] (c_laws_markValS ht) (by decide) ?_ ?_
                · first | exact .inl rfl | (refine .inr ⟨?_, ?_⟩; (focus (first | rfl | (simp only [V.nb, V.nbL, D.nb, D.nbL, Md.nb, nbb, GI2_nb, GMov_nb, GAsmIns_nb, LGI2_nb]; done))); (focus (simp [C.nb, V.nbLL, V.nbL, V.nb, D.nb]; done)))
                simp only [argsP, argP, V.namesOf, V.namesOfL, List.mem_append, List.append_nil, List.mem_cons, or_false, or_true, true_or, objsP, C.ren, V.ren, V.renL, renLL_dd, V.renLL, List.getD_cons_zero, List.getD_cons_succ, C.o.injEq, hyb, lendAL, lendA, undd.unddR, D.lendL, D.lend, Md.lend, GI2_lend, GMov_lend, GAsmIns_lend, LGI2_lend, putSt, lk, lkb, reduceCtorEq, Nat.reduceEqDiff, Prog.wp, Prog.wp_bind, Prog.bind, Prog.ofO, List.take_of_length_le, *])))
        | (with_reducible apply regD_opK
           · simp only [dstOk, Nat.reduceLT]
           · simp only [Nat.reduceAdd]; rfl
           intro k hk)
        | (with_reducible apply regW_opK
           · simp only [dstOk, Nat.reduceLT]
           · simp only [Nat.reduceAdd]; rfl
           intro k hk)
        | skip)
       simp only [RetW, bn, lkb, evb, opC, opP, fetchN, fetchP, fetchAll, fetchO, Prog.bind, Prog.wp, Prog.wp_bind, lk, nameP, nameAll, Value.oneCell', putSt, stepP, putP, reduceCtorEq, V.lin, V.linL, D.lin, isNil, binP, unP, BinOp.isShift, Prog.ofO, Nat.reduceAdd, Nat.reduceMul, Nat.reduceSub, Nat.reduceLT, Nat.reduceLeDiff, Nat.reduceEqDiff, ite_true, ite_false, fieldAddrP, fieldP, indexAddrP, loadP, storeP, boxP, allocP, cellsP, asVal, setSeg, outP, outT, cntT, TyK.field, TyK.agg, zeroRow, V.ren, V.renL, forall_eq_or_imp, forall_const, minmaxP, lenP, lenOf, lenStr, V.asInt, decide_true, decide_false, sliceP, boundP, makeSliceP, convertP, appendP, rowsOfP, ontoP, sizeFits, V.rowSize, TyK.src, resV, resV.go, resV.gol, retP, retOne, retAll, resTo, objsAre, Option.map_eq_map, Function.const_apply, Int.reduceNeg, Int.reduceToNat, ty2, ty3, ty4, ty125, ty152, ty153, ty155, ty171, ty173, GAsmIns.cells, GI2.cells, GMov.cells, cI, cB, cS, cL, GI2_e, GMov_e, GAsmIns_e, LGI2_e, *]
       try (refine hk.use _ _ _ _ ?_; clear hk k))
    | fail)
  all_goals (try rfl)
  all_goals (try (simp; done))
  all_goals (try (simp_all; done))
def laws_markValSS.l1 : Nat → (List (List GI2)) → Int → Int → Option ((List (List GI2)) × Int)
  | 0, _, _, _ => none
  | k + 1, a1, a2, a3 => cond ((decide (a3 < ((a1.length : Int))))) ((idx a1 a3).bind fun m1 => (laws_markValS k m1 a2).bind fun t2 => gd (t2.2.length = m1.length) (laws_markValSS.l1 k ((a1.set a3.toNat t2.2)) t2.1 ((IntKind.i64.wrap (a3 + 1))))) (some (a1, a2))

def laws_markValSS (k : Nat) (p0 : (List (List GI2))) (p1 : Int) : Option (Int × (List (List GI2))) :=
  (laws_markValSS.l1 k p0 p1 0).bind fun o1 => some (o1.2, o1.1)

theorem c_laws_markValSS {k : Nat} {p0 : (List (List GI2))} {p1 : Int} {r : Int × (List (List GI2))} (h : laws_markValSS k p0 p1 = some r) : Con Try.prog 87 [.sl 0 1 0 p0.length, V.int p1] [.o 1 (dd (Rw (cL .own 2 GI2.cells) p0))] (V.int r.1) [.o 1 (dd (Rw (cL .own 2 GI2.cells) r.2))] := by
  refine con_of_sw Try.func87 rfl Try.call87 (by simp [Try.ntmps87]) (by simp [V.inNs, V.inN]) (by simp [C.inN, V.inNss, V.inNs, V.inN, inNss_dd]) (by simp [V.inNs, V.inN]) (by simp [C.inN, V.inNss, V.inNs, V.inN, inNss_dd]) rfl ?_
  rw [Try.ntmps87, Try.results87]
  unfold laws_markValSS at h
  replace h := Yes.mk h
  simp only [entryS, entryO, Nat.reduceAdd, List.length_nil, List.length_cons]
  repeat' (first
    | (with_reducible (first | refine sw_reg ?_ | refine sw_ret ?_ | refine sw_skip ?_ | refine sw_block ?_ | refine sw_exit ?_ | refine seqQ_normal ?_ | refine blockQ_normal ?_ | refine blockQ_ret ?_ | refine blockQ_this ?_ | refine blockQ_other (by decide) ?_ | refine regW_nil ?_ | refine sw_draw mixed ?_ | refine retQ_ret ?_ | refine retQ_normal ?_))
    | (with_reducible refine regD_nil ?_
       refine ⟨by kernel_rfl, ?_⟩)
    | (revert h; (first | ((with_reducible refine idx_elim ?_); intro m hm1 hm2 hm3 h; (try (simp only [Int.reduceToNat] at hm3)); (try (revert hm3; (with_reducible apply same_elim); (focus (with_reducible assumption)); rintro rfl)); (try (simp only [List.length_set, List.length_cons, List.length_nil, List.length_replicate, Nat.reduceAdd, Int.cast_ofNat_Int, Nat.zero_add, List.length_append] at hm2))) | (with_reducible refine sidx_elim ?_; intro m hm1 hm3 h) | (with_reducible refine gd_elim ?_; intro hg h; try (have hg2 := hg.2; have hg := hg.1; (try (simp only [Nat.reduceLeDiff] at hg2)); (try (revert hg2; (with_reducible refine toNat_elim hg ?_); intro hg2 hg4)); try (have hg3 := hg2.2; have hg2 := hg2.1; (try (simp only [Nat.reduceLeDiff] at hg3))))) | (with_reducible refine condt_elim ?_ ?_; (focus (with_reducible assumption)); intro h) | (with_reducible refine condf_elim ?_ ?_; (focus (with_reducible assumption)); intro h)))
    | ((first | with_reducible refine seqQ_ret (K := (fun st1 n1 => Gh st1 n1 (NextS _ 10000000 _ _ _ _))) ?_ | with_reducible refine seqQ_exit (K := (fun st1 n1 => Gh st1 n1 (NextS _ 10000000 _ _ _ _))) ?_)
       obtain rfl := h.get
       have h := hK1
       (try (simp only [Sum.elim_inl, Sum.elim_inr] at h)))
    | (with_reducible refine here_loop (c := (.seq (.seq (.region 2 _ _) _) _)) ?_
       skip
       revert h
       with_reducible refine bind_elimY ?_
       intro o1 h hK1
       refine sw_gh ?_
       (try (apply gh_resRow 0; (focus (simp only [putSt, lk, lkb, reduceCtorEq, Nat.reduceEqDiff]; try rfl)); (focus (first | (simp only [Rw_length, List.length_set]; omega) | (simp [Rw_length]; omega))); simp only [rxb, Nat.reduceAdd, Nat.reduceLeDiff, resSlotP, nameSlotP, Prog.wp, Prog.wp_bind, Prog.bind, Prog.ofO, putSt, lk, lkb, reduceCtorEq, Nat.reduceEqDiff, resV, resV.go, resV.gol, nameAll, nameP, outP, outT, cntT, V.lin, D.lin, *, mmb, GI2_Dset, LGI2_Dset]))
       refine gh_sw ?_
       refine sw_loop (ι := Nat × (List (List GI2)) × Int × Int) 10000000 (by decide) (fun x : Nat × (List (List GI2)) × Int × Int => [(.s 0, some (.v (.sl 0 1 0 x.2.1.length))), (.s 1, some (.v (V.int x.2.2.1))), (.s 5, some (.v (V.int x.2.2.2))), (.r 0, some (.o 1 (dd (Rw (cL .own 2 GI2.cells) x.2.1))))]) (fun x => x.1) (fun x => Yes (laws_markValSS.l1 x.1 x.2.1 x.2.2.1 x.2.2.2) o1) (_, _, _, _) ?_ h ?_ ?_
       · exact (by simp [slNL, C.inN, V.inN, V.inNs, V.inNss, inNss_dd, inNs_map_d])
       · simp only [SubL, putSt, lk, lkb, reduceCtorEq, Nat.reduceEqDiff, List.length_set, List.length_replicate]; repeat' (first | apply And.intro | rfl | trivial | (simp only [*]; done))
       rintro ⟨_ | k, a1, a2, a3⟩ h
       · simp only [laws_markValSS.l1] at h; exact h.none
       simp only [laws_markValSS.l1] at h
)
    | (with_reducible refine here_next (N0 := 10000000) ?_
       skip
       (try (apply gh_resRow 0; (focus (simp only [putSt, lk, lkb, reduceCtorEq, Nat.reduceEqDiff]; try rfl)); (focus (first | (simp only [Rw_length, List.length_set]; omega) | (simp [Rw_length]; omega))); simp only [rxb, Nat.reduceAdd, Nat.reduceLeDiff, resSlotP, nameSlotP, Prog.wp, Prog.wp_bind, Prog.bind, Prog.ofO, putSt, lk, lkb, reduceCtorEq, Nat.reduceEqDiff, resV, resV.go, resV.gol, nameAll, nameP, outP, outT, cntT, V.lin, D.lin, *, mmb, GI2_Dset, LGI2_Dset]))
       refine nexts_to (_, _, _, _) (by decide) ?_ (Nat.lt_succ_self _) h ?_
       · exact (by simp [slNL, C.inN, V.inN, V.inNs, V.inNss, inNss_dd, inNs_map_d])
       · simp only [SubL, putSt, lk, lkb, reduceCtorEq, Nat.reduceEqDiff, List.length_set, List.length_replicate]; repeat' (first | apply And.intro | rfl | trivial | (simp only [*]; done)))
    | with_reducible refine sw_seq ?_
    | with_reducible refine seqQ_ret ?_
    | with_reducible refine seqQ_exit ?_
    | ((with_reducible refine wp_ite ?_ ?_)
       all_goals (intro hc; (try (simp only [Bool.not_eq_true, Bool.not_eq_false] at hc)); simp only [hc]))
    | (with_reducible apply regW_skip
       · simp only [dstOk, Nat.reduceLT]
       · rfl
       · simp only [putSt, lk, lkb, reduceCtorEq, Nat.reduceEqDiff]; done)
    | (with_reducible apply regW_yesN
       · simp only [dstOk, Nat.reduceLT]
       · rfl
       · simp only [putSt, lk, lkb, reduceCtorEq, Nat.reduceEqDiff]; done)
    | (with_reducible apply regW_no
       · simp only [dstOk, Nat.reduceLT]
       · rfl
       · simp only [putSt, lk, lkb, reduceCtorEq, Nat.reduceEqDiff, Bool.not_true, Bool.not_false]; done)
    | (with_reducible apply regW_guardN
       · simp only [dstOk, Nat.reduceLT]
       · rfl
       · simp only [putSt, lk, lkb, reduceCtorEq, Nat.reduceEqDiff]; rfl
       all_goals (intro hc; (try (simp only [Bool.not_true, Bool.not_false] at hc))))
    | (with_reducible apply sw_cond
       · simp only [putSt, lk, lkb, reduceCtorEq, Nat.reduceEqDiff]; rfl
       all_goals (intro hc; try (cases hc; done)))
    | ((first
        | ((with_reducible refine gh_ret ?_)
           revert h
           with_reducible refine some_elim ?_
           rintro rfl)
        | (with_reducible refine here_call ?_
           revert h
           with_reducible refine bind_elim ?_
           intro t ht h
           (first
             | (refine call_obj [10000448] (c_laws_markValS ht) (by decide) ?_ ?_
                · first | exact .inl rfl | (refine .inr ⟨?_, ?_⟩; (focus (first | rfl | (simp only [V.nb, V.nbL, D.nb, D.nbL, Md.nb, nbb, GI2_nb, LGI2_nb]; done))); (focus (simp [C.nb, V.nbLL, V.nbL, V.nb, D.nb]; done)))
                simp only [argsP, argP, V.namesOf, V.namesOfL, List.mem_append, List.append_nil, List.mem_cons, or_false, or_true, true_or, objsP, C.ren, V.ren, V.renL, renLL_dd, V.renLL, List.getD_cons_zero, List.getD_cons_succ, C.o.injEq, hyb, lendAL, lendA, undd.unddR, D.lendL, D.lend, Md.lend, GI2_lend, LGI2_lend, putSt, lk, lkb, reduceCtorEq, Nat.reduceEqDiff, Prog.wp, Prog.wp_bind, Prog.bind, Prog.ofO, List.take_of_length_le, *])))
        | (with_reducible apply regD_opK
           · simp only [dstOk, Nat.reduceLT]
           · simp only [Nat.reduceAdd]; rfl
           intro k hk)
        | (with_reducible apply regW_opK
           · simp only [dstOk, Nat.reduceLT]
           · simp only [Nat.reduceAdd]; rfl
           intro k hk)
        | skip)
       simp only [RetW, bn, lkb, evb, opC, opP, fetchN, fetchP, fetchAll, fetchO, Prog.bind, Prog.wp, Prog.wp_bind, lk, nameP, nameAll, Value.oneCell', putSt, stepP, putP, reduceCtorEq, V.lin, V.linL, D.lin, isNil, binP, unP, BinOp.isShift, Prog.ofO, Nat.reduceAdd, Nat.reduceMul, Nat.reduceSub, Nat.reduceLT, Nat.reduceLeDiff, Nat.reduceEqDiff, ite_true, ite_false, fieldAddrP, fieldP, indexAddrP, loadP, storeP, boxP, allocP, cellsP, asVal, setSeg, outP, outT, cntT, TyK.field, TyK.agg, zeroRow, V.ren, V.renL, forall_eq_or_imp, forall_const, minmaxP, lenP, lenOf, lenStr, V.asInt, decide_true, decide_false, sliceP, boundP, makeSliceP, convertP, appendP, rowsOfP, ontoP, sizeFits, V.rowSize, TyK.src, resV, resV.go, resV.gol, retP, retOne, retAll, resTo, objsAre, Option.map_eq_map, Function.const_apply, Int.reduceNeg, Int.reduceToNat, ty2, ty3, ty126, ty153, ty171, GI2.cells, cI, cB, cS, cL, GI2_e, LGI2_e, *]
       try (refine hk.use _ _ _ _ ?_; clear hk k))
    | fail)
  all_goals (try rfl)
  all_goals (try (simp; done))
  all_goals (try (simp_all; done))
def laws_markAsmS.l1 : Nat → (List GAsm) → Int → Int → Option ((List GAsm) × Int)
  | 0, _, _, _ => none
  | k + 1, a1, a2, a3 => cond ((decide (a3 < ((a1.length : Int))))) ((idx a1 a3).bind fun m1 => (laws_markAsmInsS k m1.code ((IntKind.i64.wrap (a2 + 1)))).bind fun t2 => gd (t2.2.length = m1.code.length) ((laws_markValSS k m1.maps t2.1).bind fun t3 => gd (t3.2.length = m1.maps.length) (laws_markAsmS.l1 k ((((a1.set a3.toNat ((⟨a2, m1.code, m1.maps⟩ : GAsm)))).set a3.toNat (⟨a2, t2.2, t3.2⟩ : GAsm))) t3.1 ((IntKind.i64.wrap (a3 + 1)))))) (some (a1, a2))

def laws_markAsmS (k : Nat) (p0 : (List GAsm)) (p1 : Int) : Option (Int × (List GAsm)) :=
  (laws_markAsmS.l1 k p0 p1 0).bind fun o1 => some (o1.2, o1.1)

theorem c_laws_markAsmS {k : Nat} {p0 : (List GAsm)} {p1 : Int} {r : Int × (List GAsm)} (h : laws_markAsmS k p0 p1 = some r) : Con Try.prog 59 [.sl 0 3 0 p0.length, V.int p1] [.o 3 (dd (Rw (GAsm.cells .own) p0))] (V.int r.1) [.o 3 (dd (Rw (GAsm.cells .own) r.2))] := by
  refine con_of_sw Try.func59 rfl Try.call59 (by simp [Try.ntmps59]) (by simp [V.inNs, V.inN]) (by simp [C.inN, V.inNss, V.inNs, V.inN, inNss_dd]) (by simp [V.inNs, V.inN]) (by simp [C.inN, V.inNss, V.inNs, V.inN, inNss_dd]) rfl ?_
  rw [Try.ntmps59, Try.results59]
  unfold laws_markAsmS at h
  replace h := Yes.mk h
  simp only [entryS, entryO, Nat.reduceAdd, List.length_nil, List.length_cons]
  repeat' (first
    | (with_reducible (first | refine sw_reg ?_ | refine sw_ret ?_ | refine sw_skip ?_ | refine sw_block ?_ | refine sw_exit ?_ | refine seqQ_normal ?_ | refine blockQ_normal ?_ | refine blockQ_ret ?_ | refine blockQ_this ?_ | refine blockQ_other (by decide) ?_ | refine regW_nil ?_ | refine sw_draw mixed ?_ | refine retQ_ret ?_ | refine retQ_normal ?_))
    | (with_reducible refine regD_nil ?_
       refine ⟨by kernel_rfl, ?_⟩)
    | (revert h; (first | ((with_reducible refine idx_elim ?_); intro m hm1 hm2 hm3 h; (try (simp only [Int.reduceToNat] at hm3)); (try (revert hm3; (with_reducible apply same_elim); (focus (with_reducible assumption)); rintro rfl)); (try (simp only [List.length_set, List.length_cons, List.length_nil, List.length_replicate, Nat.reduceAdd, Int.cast_ofNat_Int, Nat.zero_add, List.length_append] at hm2))) | (with_reducible refine sidx_elim ?_; intro m hm1 hm3 h) | (with_reducible refine gd_elim ?_; intro hg h; try (have hg2 := hg.2; have hg := hg.1; (try (simp only [Nat.reduceLeDiff] at hg2)); (try (revert hg2; (with_reducible refine toNat_elim hg ?_); intro hg2 hg4)); try (have hg3 := hg2.2; have hg2 := hg2.1; (try (simp only [Nat.reduceLeDiff] at hg3))))) | (with_reducible refine condt_elim ?_ ?_; (focus (with_reducible assumption)); intro h) | (with_reducible refine condf_elim ?_ ?_; (focus (with_reducible assumption)); intro h)))
    | ((first | with_reducible refine seqQ_ret (K := (fun st1 n1 => Gh st1 n1 (NextS _ 10000000 _ _ _ _))) ?_ | with_reducible refine seqQ_exit (K := (fun st1 n1 => Gh st1 n1 (NextS _ 10000000 _ _ _ _))) ?_)
       obtain rfl := h.get
       have h := hK1
       (try (simp only [Sum.elim_inl, Sum.elim_inr] at h)))
    | (with_reducible refine here_loop (c := (.seq (.seq (.region 2 _ _) _) _)) ?_
       skip
       revert h
       with_reducible refine bind_elimY ?_
       intro o1 h hK1
       refine sw_gh ?_
       (try (apply gh_resRow 0; (focus (simp only [putSt, lk, lkb, reduceCtorEq, Nat.reduceEqDiff]; try rfl)); (focus (first | (simp only [Rw_length, List.length_set]; omega) | (simp [Rw_length]; omega))); simp only [rxb, Nat.reduceAdd, Nat.reduceLeDiff, resSlotP, nameSlotP, Prog.wp, Prog.wp_bind, Prog.bind, Prog.ofO, putSt, lk, lkb, reduceCtorEq, Nat.reduceEqDiff, resV, resV.go, resV.gol, nameAll, nameP, outP, outT, cntT, V.lin, D.lin, *, mmb, GI2_Dset, GMov_Dset, GAsmIns_Dset, GAsm_Dset, LGI2_Dset]))
       refine gh_sw ?_
       refine sw_loop (ι := Nat × (List GAsm) × Int × Int) 10000000 (by decide) (fun x : Nat × (List GAsm) × Int × Int => [(.s 0, some (.v (.sl 0 3 0 x.2.1.length))), (.s 1, some (.v (V.int x.2.2.1))), (.s 5, some (.v (V.int x.2.2.2))), (.r 0, some (.o 3 (dd (Rw (GAsm.cells .own) x.2.1))))]) (fun x => x.1) (fun x => Yes (laws_markAsmS.l1 x.1 x.2.1 x.2.2.1 x.2.2.2) o1) (_, _, _, _) ?_ h ?_ ?_
       · exact (by simp [slNL, C.inN, V.inN, V.inNs, V.inNss, inNss_dd, inNs_map_d])
       · simp only [SubL, putSt, lk, lkb, reduceCtorEq, Nat.reduceEqDiff, List.length_set, List.length_replicate]; repeat' (first | apply And.intro | rfl | trivial | (simp only [*]; done))
       rintro ⟨_ | k, a1, a2, a3⟩ h
       · simp only [laws_markAsmS.l1] at h; exact h.none
       simp only [laws_markAsmS.l1] at h
)
    | (with_reducible refine here_next (N0 := 10000000) ?_
       skip
       (try (apply gh_resRow 0; (focus (simp only [putSt, lk, lkb, reduceCtorEq, Nat.reduceEqDiff]; try rfl)); (focus (first | (simp only [Rw_length, List.length_set]; omega) | (simp [Rw_length]; omega))); simp only [rxb, Nat.reduceAdd, Nat.reduceLeDiff, resSlotP, nameSlotP, Prog.wp, Prog.wp_bind, Prog.bind, Prog.ofO, putSt, lk, lkb, reduceCtorEq, Nat.reduceEqDiff, resV, resV.go, resV.gol, nameAll, nameP, outP, outT, cntT, V.lin, D.lin, *, mmb, GI2_Dset, GMov_Dset, GAsmIns_Dset, GAsm_Dset, LGI2_Dset]))
       refine nexts_to (_, _, _, _) (by decide) ?_ (Nat.lt_succ_self _) h ?_
       · exact (by simp [slNL, C.inN, V.inN, V.inNs, V.inNss, inNss_dd, inNs_map_d])
       · simp only [SubL, putSt, lk, lkb, reduceCtorEq, Nat.reduceEqDiff, List.length_set, List.length_replicate]; repeat' (first | apply And.intro | rfl | trivial | (simp only [*]; done)))
    | with_reducible refine sw_seq ?_
    | with_reducible refine seqQ_ret ?_
    | with_reducible refine seqQ_exit ?_
    | ((with_reducible refine wp_ite ?_ ?_)
       all_goals (intro hc; (try (simp only [Bool.not_eq_true, Bool.not_eq_false] at hc)); simp only [hc]))
    | (with_reducible apply regW_skip
       · simp only [dstOk, Nat.reduceLT]
       · rfl
       · simp only [putSt, lk, lkb, reduceCtorEq, Nat.reduceEqDiff]; done)
    | (with_reducible apply regW_yesN
       · simp only [dstOk, Nat.reduceLT]
       · rfl
       · simp only [putSt, lk, lkb, reduceCtorEq, Nat.reduceEqDiff]; done)
    | (with_reducible apply regW_no
       · simp only [dstOk, Nat.reduceLT]
       · rfl
       · simp only [putSt, lk, lkb, reduceCtorEq, Nat.reduceEqDiff, Bool.not_true, Bool.not_false]; done)
    | (with_reducible apply regW_guardN
       · simp only [dstOk, Nat.reduceLT]
       · rfl
       · simp only [putSt, lk, lkb, reduceCtorEq, Nat.reduceEqDiff]; rfl
       all_goals (intro hc; (try (simp only [Bool.not_true, Bool.not_false] at hc))))
    | (with_reducible apply sw_cond
       · simp only [putSt, lk, lkb, reduceCtorEq, Nat.reduceEqDiff]; rfl
       all_goals (intro hc; try (cases hc; done)))
    | ((first
        | ((with_reducible refine gh_ret ?_)
           revert h
           with_reducible refine some_elim ?_
           rintro rfl)
        | (with_reducible refine here_call ?_
           revert h
           with_reducible refine bind_elim ?_
           intro t ht h
           (first
             | (refine call_obj [10001088] (c_laws_markAsmInsS ht) (by decide) ?_ ?_
                · first | exact .inl rfl | (refine .inr ⟨?_, ?_⟩; (focus (first | rfl | (simp only [V.nb, V.nbL, D.nb, D.nbL, Md.nb, nbb, GI2_nb, GMov_nb, GAsmIns_nb, GAsm_nb, LGI2_nb]; done))); (focus (simp [C.nb, V.nbLL, V.nbL, V.nb, D.nb]; done)))
                simp only [argsP, argP, V.namesOf, V.namesOfL, List.mem_append, List.append_nil, List.mem_cons, or_false, or_true, true_or, objsP, C.ren, V.ren, V.renL, renLL_dd, V.renLL, List.getD_cons_zero, List.getD_cons_succ, C.o.injEq, hyb, lendAL, lendA, undd.unddR, D.lendL, D.lend, Md.lend, GI2_lend, GMov_lend, GAsmIns_lend, GAsm_lend, LGI2_lend, putSt, lk, lkb, reduceCtorEq, Nat.reduceEqDiff, Prog.wp, Prog.wp_bind, Prog.bind, Prog.ofO, List.take_of_length_le, *])
             | (refine call_obj [10001600] (c_laws_markValSS ht) (by decide) ?_ ?_
                · first | exact .inl rfl | (refine .inr ⟨?_, ?_⟩; (focus (first | rfl | (simp only [V.nb, V.nbL, D.nb, D.nbL, Md.nb, nbb, GI2_nb, GMov_nb, GAsmIns_nb, GAsm_nb, LGI2_nb]; done))); (focus (simp [C.nb, V.nbLL, V.nbL, V.nb, D.nb]; done)))
                simp only [argsP, argP, V.namesOf, V.namesOfL, List.mem_append, List.append_nil, List.mem_cons, or_false, or_true, true_or, objsP, C.ren, V.ren, V.renL, renLL_dd, V.renLL, List.getD_cons_zero, List.getD_cons_succ, C.o.injEq, hyb, lendAL, lendA, undd.unddR, D.lendL, D.lend, Md.lend, GI2_lend, GMov_lend, GAsmIns_lend, GAsm_lend, LGI2_lend, putSt, lk, lkb, reduceCtorEq, Nat.reduceEqDiff, Prog.wp, Prog.wp_bind, Prog.bind, Prog.ofO, List.take_of_length_le, *])))
        | (with_reducible apply regD_opK
           · simp only [dstOk, Nat.reduceLT]
           · simp only [Nat.reduceAdd]; rfl
           intro k hk)
        | (with_reducible apply regW_opK
           · simp only [dstOk, Nat.reduceLT]
           · simp only [Nat.reduceAdd]; rfl
           intro k hk)
        | skip)
       simp only [RetW, bn, lkb, evb, opC, opP, fetchN, fetchP, fetchAll, fetchO, Prog.bind, Prog.wp, Prog.wp_bind, lk, nameP, nameAll, Value.oneCell', putSt, stepP, putP, reduceCtorEq, V.lin, V.linL, D.lin, isNil, binP, unP, BinOp.isShift, Prog.ofO, Nat.reduceAdd, Nat.reduceMul, Nat.reduceSub, Nat.reduceLT, Nat.reduceLeDiff, Nat.reduceEqDiff, ite_true, ite_false, fieldAddrP, fieldP, indexAddrP, loadP, storeP, boxP, allocP, cellsP, asVal, setSeg, outP, outT, cntT, TyK.field, TyK.agg, zeroRow, V.ren, V.renL, forall_eq_or_imp, forall_const, minmaxP, lenP, lenOf, lenStr, V.asInt, decide_true, decide_false, sliceP, boundP, makeSliceP, convertP, appendP, rowsOfP, ontoP, sizeFits, V.rowSize, TyK.src, resV, resV.go, resV.gol, retP, retOne, retAll, resTo, objsAre, Option.map_eq_map, Function.const_apply, Int.reduceNeg, Int.reduceToNat, ty2, ty3, ty51, ty125, ty126, ty128, ty152, ty153, ty155, ty171, ty173, GAsm.cells, GAsmIns.cells, GI2.cells, GMov.cells, cI, cB, cS, cL, GI2_e, GMov_e, GAsmIns_e, GAsm_e, LGI2_e, *]
       try (refine hk.use _ _ _ _ ?_; clear hk k))
    | fail)
  all_goals (try rfl)
  all_goals (try (simp; done))
  all_goals (try (simp_all; done))
def laws_markMixFrameS.l1 : Nat → (List GMixFrame) → Int → Int → Option ((List GMixFrame) × Int)
  | 0, _, _, _ => none
  | k + 1, a1, a2, a3 => cond ((decide (a3 < ((a1.length : Int))))) ((idx a1 a3).bind fun m1 => (laws_markInt64S k m1.locals ((IntKind.i64.wrap (((IntKind.i64.wrap (((IntKind.i64.wrap (a2 + 1))) + 1))) + 1)))).bind fun t2 => gd (t2.2.length = m1.locals.length) ((laws_markInt64S k m1.stack t2.1).bind fun t3 => gd (t3.2.length = m1.stack.length) ((laws_markInt64S k m1.locs t3.1).bind fun t4 => gd (t4.2.length = m1.locs.length) (laws_markMixFrameS.l1 k ((((a1.set a3.toNat ((⟨(((a2.tmod 3)) == 0), (IntKind.i64.wrap (a2 + 1)), (IntKind.i64.wrap (((IntKind.i64.wrap (a2 + 1))) + 1)), m1.locals, m1.stack, m1.locs⟩ : GMixFrame)))).set a3.toNat (⟨(((a2.tmod 3)) == 0), (IntKind.i64.wrap (a2 + 1)), (IntKind.i64.wrap (((IntKind.i64.wrap (a2 + 1))) + 1)), t2.2, t3.2, t4.2⟩ : GMixFrame))) t4.1 ((IntKind.i64.wrap (a3 + 1))))))) (some (a1, a2))

def laws_markMixFrameS (k : Nat) (p0 : (List GMixFrame)) (p1 : Int) : Option (Int × (List GMixFrame)) :=
  (laws_markMixFrameS.l1 k p0 p1 0).bind fun o1 => some (o1.2, o1.1)

theorem c_laws_markMixFrameS {k : Nat} {p0 : (List GMixFrame)} {p1 : Int} {r : Int × (List GMixFrame)} (h : laws_markMixFrameS k p0 p1 = some r) : Con Try.prog 60 [.sl 0 6 0 p0.length, V.int p1] [.o 6 (dd (Rw (GMixFrame.cells .own) p0))] (V.int r.1) [.o 6 (dd (Rw (GMixFrame.cells .own) r.2))] := by
  refine con_of_sw Try.func60 rfl Try.call60 (by simp [Try.ntmps60]) (by simp [V.inNs, V.inN]) (by simp [C.inN, V.inNss, V.inNs, V.inN, inNss_dd]) (by simp [V.inNs, V.inN]) (by simp [C.inN, V.inNss, V.inNs, V.inN, inNss_dd]) rfl ?_
  rw [Try.ntmps60, Try.results60]
  unfold laws_markMixFrameS at h
  replace h := Yes.mk h
  simp only [entryS, entryO, Nat.reduceAdd, List.length_nil, List.length_cons]
  repeat' (first
    | (with_reducible (first | refine sw_reg ?_ | refine sw_ret ?_ | refine sw_skip ?_ | refine sw_block ?_ | refine sw_exit ?_ | refine seqQ_normal ?_ | refine blockQ_normal ?_ | refine blockQ_ret ?_ | refine blockQ_this ?_ | refine blockQ_other (by decide) ?_ | refine regW_nil ?_ | refine sw_draw mixed ?_ | refine retQ_ret ?_ | refine retQ_normal ?_))
    | (with_reducible refine regD_nil ?_
       refine ⟨by kernel_rfl, ?_⟩)
    | (revert h; (first | ((with_reducible refine idx_elim ?_); intro m hm1 hm2 hm3 h; (try (simp only [Int.reduceToNat] at hm3)); (try (revert hm3; (with_reducible apply same_elim); (focus (with_reducible assumption)); rintro rfl)); (try (simp only [List.length_set, List.length_cons, List.length_nil, List.length_replicate, Nat.reduceAdd, Int.cast_ofNat_Int, Nat.zero_add, List.length_append] at hm2))) | (with_reducible refine sidx_elim ?_; intro m hm1 hm3 h) | (with_reducible refine gd_elim ?_; intro hg h; try (have hg2 := hg.2; have hg := hg.1; (try (simp only [Nat.reduceLeDiff] at hg2)); (try (revert hg2; (with_reducible refine toNat_elim hg ?_); intro hg2 hg4)); try (have hg3 := hg2.2; have hg2 := hg2.1; (try (simp only [Nat.reduceLeDiff] at hg3))))) | (with_reducible refine condt_elim ?_ ?_; (focus (with_reducible assumption)); intro h) | (with_reducible refine condf_elim ?_ ?_; (focus (with_reducible assumption)); intro h)))
    | ((first | with_reducible refine seqQ_ret (K := (fun st1 n1 => Gh st1 n1 (NextS _ 10000000 _ _ _ _))) ?_ | with_reducible refine seqQ_exit (K := (fun st1 n1 => Gh st1 n1 (NextS _ 10000000 _ _ _ _))) ?_)
       obtain rfl := h.get
       have h := hK1
       (try (simp only [Sum.elim_inl, Sum.elim_inr] at h)))
    | (with_reducible refine here_loop (c := (.seq (.seq (.region 2 _ _) _) _)) ?_
       skip
       revert h
       with_reducible refine bind_elimY ?_
       intro o1 h hK1
       refine sw_gh ?_
       (try (apply gh_resRow 0; (focus (simp only [putSt, lk, lkb, reduceCtorEq, Nat.reduceEqDiff]; try rfl)); (focus (first | (simp only [Rw_length, List.length_set]; omega) | (simp [Rw_length]; omega))); simp only [rxb, Nat.reduceAdd, Nat.reduceLeDiff, resSlotP, nameSlotP, Prog.wp, Prog.wp_bind, Prog.bind, Prog.ofO, putSt, lk, lkb, reduceCtorEq, Nat.reduceEqDiff, resV, resV.go, resV.gol, nameAll, nameP, outP, outT, cntT, V.lin, D.lin, *, mmb, GMixFrame_Dset, LcIi64_Dset]))
       refine gh_sw ?_
       refine sw_loop (ι := Nat × (List GMixFrame) × Int × Int) 10000000 (by decide) (fun x : Nat × (List GMixFrame) × Int × Int => [(.s 0, some (.v (.sl 0 6 0 x.2.1.length))), (.s 1, some (.v (V.int x.2.2.1))), (.s 5, some (.v (V.int x.2.2.2))), (.r 0, some (.o 6 (dd (Rw (GMixFrame.cells .own) x.2.1))))]) (fun x => x.1) (fun x => Yes (laws_markMixFrameS.l1 x.1 x.2.1 x.2.2.1 x.2.2.2) o1) (_, _, _, _) ?_ h ?_ ?_
       · exact (by simp [slNL, C.inN, V.inN, V.inNs, V.inNss, inNss_dd, inNs_map_d])
       · simp only [SubL, putSt, lk, lkb, reduceCtorEq, Nat.reduceEqDiff, List.length_set, List.length_replicate]; repeat' (first | apply And.intro | rfl | trivial | (simp only [*]; done))
       rintro ⟨_ | k, a1, a2, a3⟩ h
       · simp only [laws_markMixFrameS.l1] at h; exact h.none
       simp only [laws_markMixFrameS.l1] at h
)
    | (with_reducible refine here_next (N0 := 10000000) ?_
       skip
       (try (apply gh_resRow 0; (focus (simp only [putSt, lk, lkb, reduceCtorEq, Nat.reduceEqDiff]; try rfl)); (focus (first | (simp only [Rw_length, List.length_set]; omega) | (simp [Rw_length]; omega))); simp only [rxb, Nat.reduceAdd, Nat.reduceLeDiff, resSlotP, nameSlotP, Prog.wp, Prog.wp_bind, Prog.bind, Prog.ofO, putSt, lk, lkb, reduceCtorEq, Nat.reduceEqDiff, resV, resV.go, resV.gol, nameAll, nameP, outP, outT, cntT, V.lin, D.lin, *, mmb, GMixFrame_Dset, LcIi64_Dset]))
       refine nexts_to (_, _, _, _) (by decide) ?_ (Nat.lt_succ_self _) h ?_
       · exact (by simp [slNL, C.inN, V.inN, V.inNs, V.inNss, inNss_dd, inNs_map_d])
       · simp only [SubL, putSt, lk, lkb, reduceCtorEq, Nat.reduceEqDiff, List.length_set, List.length_replicate]; repeat' (first | apply And.intro | rfl | trivial | (simp only [*]; done)))
    | with_reducible refine sw_seq ?_
    | with_reducible refine seqQ_ret ?_
    | with_reducible refine seqQ_exit ?_
    | ((with_reducible refine wp_ite ?_ ?_)
       all_goals (intro hc; (try (simp only [Bool.not_eq_true, Bool.not_eq_false] at hc)); simp only [hc]))
    | (with_reducible apply regW_skip
       · simp only [dstOk, Nat.reduceLT]
       · rfl
       · simp only [putSt, lk, lkb, reduceCtorEq, Nat.reduceEqDiff]; done)
    | (with_reducible apply regW_yesN
       · simp only [dstOk, Nat.reduceLT]
       · rfl
       · simp only [putSt, lk, lkb, reduceCtorEq, Nat.reduceEqDiff]; done)
    | (with_reducible apply regW_no
       · simp only [dstOk, Nat.reduceLT]
       · rfl
       · simp only [putSt, lk, lkb, reduceCtorEq, Nat.reduceEqDiff, Bool.not_true, Bool.not_false]; done)
    | (with_reducible apply regW_guardN
       · simp only [dstOk, Nat.reduceLT]
       · rfl
       · simp only [putSt, lk, lkb, reduceCtorEq, Nat.reduceEqDiff]; rfl
       all_goals (intro hc; (try (simp only [Bool.not_true, Bool.not_false] at hc))))
    | (with_reducible apply sw_cond
       · simp only [putSt, lk, lkb, reduceCtorEq, Nat.reduceEqDiff]; rfl
       all_goals (intro hc; try (cases hc; done)))
    | ((first
        | ((with_reducible refine gh_ret ?_)
           revert h
           with_reducible refine some_elim ?_
           rintro rfl)
        | (with_reducible refine here_call ?_
           revert h
           with_reducible refine bind_elim ?_
           intro t ht h
           (first
             | (refine call_obj [10002368] (c_laws_markInt64S ht) (by decide) ?_ ?_
                · first | exact .inl rfl | (refine .inr ⟨?_, ?_⟩; (focus (first | rfl | (simp only [V.nb, V.nbL, D.nb, D.nbL, Md.nb, nbb, GMixFrame_nb, LcIi64_nb]; done))); (focus (simp [C.nb, V.nbLL, V.nbL, V.nb, D.nb]; done)))
                simp only [argsP, argP, V.namesOf, V.namesOfL, List.mem_append, List.append_nil, List.mem_cons, or_false, or_true, true_or, objsP, C.ren, V.ren, V.renL, renLL_dd, V.renLL, List.getD_cons_zero, List.getD_cons_succ, C.o.injEq, hyb, lendAL, lendA, undd.unddR, D.lendL, D.lend, Md.lend, GMixFrame_lend, LcIi64_lend, putSt, lk, lkb, reduceCtorEq, Nat.reduceEqDiff, Prog.wp, Prog.wp_bind, Prog.bind, Prog.ofO, List.take_of_length_le, *])
             | (refine call_obj [10002880] (c_laws_markInt64S ht) (by decide) ?_ ?_
                · first | exact .inl rfl | (refine .inr ⟨?_, ?_⟩; (focus (first | rfl | (simp only [V.nb, V.nbL, D.nb, D.nbL, Md.nb, nbb, GMixFrame_nb, LcIi64_nb]; done))); (focus (simp [C.nb, V.nbLL, V.nbL, V.nb, D.nb]; done)))
                simp only [argsP, argP, V.namesOf, V.namesOfL, List.mem_append, List.append_nil, List.mem_cons, or_false, or_true, true_or, objsP, C.ren, V.ren, V.renL, renLL_dd, V.renLL, List.getD_cons_zero, List.getD_cons_succ, C.o.injEq, hyb, lendAL, lendA, undd.unddR, D.lendL, D.lend, Md.lend, GMixFrame_lend, LcIi64_lend, putSt, lk, lkb, reduceCtorEq, Nat.reduceEqDiff, Prog.wp, Prog.wp_bind, Prog.bind, Prog.ofO, List.take_of_length_le, *])
             | (refine call_obj [10003392] (c_laws_markInt64S ht) (by decide) ?_ ?_
                · first | exact .inl rfl | (refine .inr ⟨?_, ?_⟩; (focus (first | rfl | (simp only [V.nb, V.nbL, D.nb, D.nbL, Md.nb, nbb, GMixFrame_nb, LcIi64_nb]; done))); (focus (simp [C.nb, V.nbLL, V.nbL, V.nb, D.nb]; done)))
                simp only [argsP, argP, V.namesOf, V.namesOfL, List.mem_append, List.append_nil, List.mem_cons, or_false, or_true, true_or, objsP, C.ren, V.ren, V.renL, renLL_dd, V.renLL, List.getD_cons_zero, List.getD_cons_succ, C.o.injEq, hyb, lendAL, lendA, undd.unddR, D.lendL, D.lend, Md.lend, GMixFrame_lend, LcIi64_lend, putSt, lk, lkb, reduceCtorEq, Nat.reduceEqDiff, Prog.wp, Prog.wp_bind, Prog.bind, Prog.ofO, List.take_of_length_le, *])))
        | (with_reducible apply regD_opK
           · simp only [dstOk, Nat.reduceLT]
           · simp only [Nat.reduceAdd]; rfl
           intro k hk)
        | (with_reducible apply regW_opK
           · simp only [dstOk, Nat.reduceLT]
           · simp only [Nat.reduceAdd]; rfl
           intro k hk)
        | skip)
       simp only [RetW, bn, lkb, evb, opC, opP, fetchN, fetchP, fetchAll, fetchO, Prog.bind, Prog.wp, Prog.wp_bind, lk, nameP, nameAll, Value.oneCell', putSt, stepP, putP, reduceCtorEq, V.lin, V.linL, D.lin, isNil, binP, unP, BinOp.isShift, Prog.ofO, Nat.reduceAdd, Nat.reduceMul, Nat.reduceSub, Nat.reduceLT, Nat.reduceLeDiff, Nat.reduceEqDiff, ite_true, ite_false, fieldAddrP, fieldP, indexAddrP, loadP, storeP, boxP, allocP, cellsP, asVal, setSeg, outP, outT, cntT, TyK.field, TyK.agg, zeroRow, V.ren, V.renL, forall_eq_or_imp, forall_const, minmaxP, lenP, lenOf, lenStr, V.asInt, decide_true, decide_false, sliceP, boundP, makeSliceP, convertP, appendP, rowsOfP, ontoP, sizeFits, V.rowSize, TyK.src, resV, resV.go, resV.gol, retP, retOne, retAll, resTo, objsAre, Option.map_eq_map, Function.const_apply, Int.reduceNeg, Int.reduceToNat, ty2, ty3, ty4, ty5, ty26, ty52, ty89, GMixFrame.cells, cI, cB, cS, cL, GMixFrame_e, LcIi64_e, shiftBin_shl, shiftBin_shr, intBin_quo, intBin_rem, Int.reduceLT, Int.reduceEq, not_false_eq_true, Int.not_lt, *]
       try (refine hk.use _ _ _ _ ?_; clear hk k))
    | fail)
  all_goals (try rfl)
  all_goals (try (simp; done))
  all_goals (try (simp_all; done))
def laws_markInt64SS.l1 : Nat → (List (List Int)) → Int → Int → Option ((List (List Int)) × Int)
  | 0, _, _, _ => none
  | k + 1, a1, a2, a3 => cond ((decide (a3 < ((a1.length : Int))))) ((idx a1 a3).bind fun m1 => (laws_markInt64S k m1 a2).bind fun t2 => gd (t2.2.length = m1.length) (laws_markInt64SS.l1 k ((a1.set a3.toNat t2.2)) t2.1 ((IntKind.i64.wrap (a3 + 1))))) (some (a1, a2))

def laws_markInt64SS (k : Nat) (p0 : (List (List Int))) (p1 : Int) : Option (Int × (List (List Int))) :=
  (laws_markInt64SS.l1 k p0 p1 0).bind fun o1 => some (o1.2, o1.1)

theorem c_laws_markInt64SS {k : Nat} {p0 : (List (List Int))} {p1 : Int} {r : Int × (List (List Int))} (h : laws_markInt64SS k p0 p1 = some r) : Con Try.prog 61 [.sl 0 1 0 p0.length, V.int p1] [.o 1 (dd (Rw (cL .own 1 (cI .i64)) p0))] (V.int r.1) [.o 1 (dd (Rw (cL .own 1 (cI .i64)) r.2))] := by
  refine con_of_sw Try.func61 rfl Try.call61 (by simp [Try.ntmps61]) (by simp [V.inNs, V.inN]) (by simp [C.inN, V.inNss, V.inNs, V.inN, inNss_dd]) (by simp [V.inNs, V.inN]) (by simp [C.inN, V.inNss, V.inNs, V.inN, inNss_dd]) rfl ?_
  rw [Try.ntmps61, Try.results61]
  unfold laws_markInt64SS at h
  replace h := Yes.mk h
  simp only [entryS, entryO, Nat.reduceAdd, List.length_nil, List.length_cons]
  repeat' (first
    | (with_reducible (first | refine sw_reg ?_ | refine sw_ret ?_ | refine sw_skip ?_ | refine sw_block ?_ | refine sw_exit ?_ | refine seqQ_normal ?_ | refine blockQ_normal ?_ | refine blockQ_ret ?_ | refine blockQ_this ?_ | refine blockQ_other (by decide) ?_ | refine regW_nil ?_ | refine sw_draw mixed ?_ | refine retQ_ret ?_ | refine retQ_normal ?_))
    | (with_reducible refine regD_nil ?_
       refine ⟨by kernel_rfl, ?_⟩)
    | (revert h; (first | ((with_reducible refine idx_elim ?_); intro m hm1 hm2 hm3 h; (try (simp only [Int.reduceToNat] at hm3)); (try (revert hm3; (with_reducible apply same_elim); (focus (with_reducible assumption)); rintro rfl)); (try (simp only [List.length_set, List.length_cons, List.length_nil, List.length_replicate, Nat.reduceAdd, Int.cast_ofNat_Int, Nat.zero_add, List.length_append] at hm2))) | (with_reducible refine sidx_elim ?_; intro m hm1 hm3 h) | (with_reducible refine gd_elim ?_; intro hg h; try (have hg2 := hg.2; have hg := hg.1; (try (simp only [Nat.reduceLeDiff] at hg2)); (try (revert hg2; (with_reducible refine toNat_elim hg ?_); intro hg2 hg4)); try (have hg3 := hg2.2; have hg2 := hg2.1; (try (simp only [Nat.reduceLeDiff] at hg3))))) | (with_reducible refine condt_elim ?_ ?_; (focus (with_reducible assumption)); intro h) | (with_reducible refine condf_elim ?_ ?_; (focus (with_reducible assumption)); intro h)))
    | ((first | with_reducible refine seqQ_ret (K := (fun st1 n1 => Gh st1 n1 (NextS _ 10000000 _ _ _ _))) ?_ | with_reducible refine seqQ_exit (K := (fun st1 n1 => Gh st1 n1 (NextS _ 10000000 _ _ _ _))) ?_)
       obtain rfl := h.get
       have h := hK1
       (try (simp only [Sum.elim_inl, Sum.elim_inr] at h)))
    | (with_reducible refine here_loop (c := (.seq (.seq (.region 2 _ _) _) _)) ?_
       skip
       revert h
       with_reducible refine bind_elimY ?_
       intro o1 h hK1
       refine sw_gh ?_
       (try (apply gh_resRow 0; (focus (simp only [putSt, lk, lkb, reduceCtorEq, Nat.reduceEqDiff]; try rfl)); (focus (first | (simp only [Rw_length, List.length_set]; omega) | (simp [Rw_length]; omega))); simp only [rxb, Nat.reduceAdd, Nat.reduceLeDiff, resSlotP, nameSlotP, Prog.wp, Prog.wp_bind, Prog.bind, Prog.ofO, putSt, lk, lkb, reduceCtorEq, Nat.reduceEqDiff, resV, resV.go, resV.gol, nameAll, nameP, outP, outT, cntT, V.lin, D.lin, *, mmb, LcIi64_Dset]))
       refine gh_sw ?_
       refine sw_loop (ι := Nat × (List (List Int)) × Int × Int) 10000000 (by decide) (fun x : Nat × (List (List Int)) × Int × Int => [(.s 0, some (.v (.sl 0 1 0 x.2.1.length))), (.s 1, some (.v (V.int x.2.2.1))), (.s 5, some (.v (V.int x.2.2.2))), (.r 0, some (.o 1 (dd (Rw (cL .own 1 (cI .i64)) x.2.1))))]) (fun x => x.1) (fun x => Yes (laws_markInt64SS.l1 x.1 x.2.1 x.2.2.1 x.2.2.2) o1) (_, _, _, _) ?_ h ?_ ?_
       · exact (by simp [slNL, C.inN, V.inN, V.inNs, V.inNss, inNss_dd, inNs_map_d])
       · simp only [SubL, putSt, lk, lkb, reduceCtorEq, Nat.reduceEqDiff, List.length_set, List.length_replicate]; repeat' (first | apply And.intro | rfl | trivial | (simp only [*]; done))
       rintro ⟨_ | k, a1, a2, a3⟩ h
       · simp only [laws_markInt64SS.l1] at h; exact h.none
       simp only [laws_markInt64SS.l1] at h
)
    | (with_reducible refine here_next (N0 := 10000000) ?_
       skip
       (try (apply gh_resRow 0; (focus (simp only [putSt, lk, lkb, reduceCtorEq, Nat.reduceEqDiff]; try rfl)); (focus (first | (simp only [Rw_length, List.length_set]; omega) | (simp [Rw_length]; omega))); simp only [rxb, Nat.reduceAdd, Nat.reduceLeDiff, resSlotP, nameSlotP, Prog.wp, Prog.wp_bind, Prog.bind, Prog.ofO, putSt, lk, lkb, reduceCtorEq, Nat.reduceEqDiff, resV, resV.go, resV.gol, nameAll, nameP, outP, outT, cntT, V.lin, D.lin, *, mmb, LcIi64_Dset]))
       refine nexts_to (_, _, _, _) (by decide) ?_ (Nat.lt_succ_self _) h ?_
       · exact (by simp [slNL, C.inN, V.inN, V.inNs, V.inNss, inNss_dd, inNs_map_d])
       · simp only [SubL, putSt, lk, lkb, reduceCtorEq, Nat.reduceEqDiff, List.length_set, List.length_replicate]; repeat' (first | apply And.intro | rfl | trivial | (simp only [*]; done)))
    | with_reducible refine sw_seq ?_
    | with_reducible refine seqQ_ret ?_
    | with_reducible refine seqQ_exit ?_
    | ((with_reducible refine wp_ite ?_ ?_)
       all_goals (intro hc; (try (simp only [Bool.not_eq_true, Bool.not_eq_false] at hc)); simp only [hc]))
    | (with_reducible apply regW_skip
       · simp only [dstOk, Nat.reduceLT]
       · rfl
       · simp only [putSt, lk, lkb, reduceCtorEq, Nat.reduceEqDiff]; done)
    | (with_reducible apply regW_yesN
       · simp only [dstOk, Nat.reduceLT]
       · rfl
       · simp only [putSt, lk, lkb, reduceCtorEq, Nat.reduceEqDiff]; done)
    | (with_reducible apply regW_no
       · simp only [dstOk, Nat.reduceLT]
       · rfl
       · simp only [putSt, lk, lkb, reduceCtorEq, Nat.reduceEqDiff, Bool.not_true, Bool.not_false]; done)
    | (with_reducible apply regW_guardN
       · simp only [dstOk, Nat.reduceLT]
       · rfl
       · simp only [putSt, lk, lkb, reduceCtorEq, Nat.reduceEqDiff]; rfl
       all_goals (intro hc; (try (simp only [Bool.not_true, Bool.not_false] at hc))))
    | (with_reducible apply sw_cond
       · simp only [putSt, lk, lkb, reduceCtorEq, Nat.reduceEqDiff]; rfl
       all_goals (intro hc; try (cases hc; done)))
    | ((first
        | ((with_reducible refine gh_ret ?_)
           revert h
           with_reducible refine some_elim ?_
           rintro rfl)
        | (with_reducible refine here_call ?_
           revert h
           with_reducible refine bind_elim ?_
           intro t ht h
           (first
             | (refine call_obj [10000448] (c_laws_markInt64S ht) (by decide) ?_ ?_
                · first | exact .inl rfl | (refine .inr ⟨?_, ?_⟩; (focus (first | rfl | (simp only [V.nb, V.nbL, D.nb, D.nbL, Md.nb, nbb, LcIi64_nb]; done))); (focus (simp [C.nb, V.nbLL, V.nbL, V.nb, D.nb]; done)))
                simp only [argsP, argP, V.namesOf, V.namesOfL, List.mem_append, List.append_nil, List.mem_cons, or_false, or_true, true_or, objsP, C.ren, V.ren, V.renL, renLL_dd, V.renLL, List.getD_cons_zero, List.getD_cons_succ, C.o.injEq, hyb, lendAL, lendA, undd.unddR, D.lendL, D.lend, Md.lend, LcIi64_lend, putSt, lk, lkb, reduceCtorEq, Nat.reduceEqDiff, Prog.wp, Prog.wp_bind, Prog.bind, Prog.ofO, List.take_of_length_le, *])))
        | (with_reducible apply regD_opK
           · simp only [dstOk, Nat.reduceLT]
           · simp only [Nat.reduceAdd]; rfl
           intro k hk)
        | (with_reducible apply regW_opK
           · simp only [dstOk, Nat.reduceLT]
           · simp only [Nat.reduceAdd]; rfl
           intro k hk)
        | skip)
       simp only [RetW, bn, lkb, evb, opC, opP, fetchN, fetchP, fetchAll, fetchO, Prog.bind, Prog.wp, Prog.wp_bind, lk, nameP, nameAll, Value.oneCell', putSt, stepP, putP, reduceCtorEq, V.lin, V.linL, D.lin, isNil, binP, unP, BinOp.isShift, Prog.ofO, Nat.reduceAdd, Nat.reduceMul, Nat.reduceSub, Nat.reduceLT, Nat.reduceLeDiff, Nat.reduceEqDiff, ite_true, ite_false, fieldAddrP, fieldP, indexAddrP, loadP, storeP, boxP, allocP, cellsP, asVal, setSeg, outP, outT, cntT, TyK.field, TyK.agg, zeroRow, V.ren, V.renL, forall_eq_or_imp, forall_const, minmaxP, lenP, lenOf, lenStr, V.asInt, decide_true, decide_false, sliceP, boundP, makeSliceP, convertP, appendP, rowsOfP, ontoP, sizeFits, V.rowSize, TyK.src, resV, resV.go, resV.gol, retP, retOne, retAll, resTo, objsAre, Option.map_eq_map, Function.const_apply, Int.reduceNeg, Int.reduceToNat, ty2, ty3, ty26, ty53, cI, cB, cS, cL, LcIi64_e, *]
       try (refine hk.use _ _ _ _ ?_; clear hk k))
    | fail)
  all_goals (try rfl)
  all_goals (try (simp; done))
  all_goals (try (simp_all; done))
def laws_markMixed (k : Nat) (p0 : GMixed) (p1 : Int) : Option (Int × (List GAsm) × (List GMixFrame) × (List (List Int)) × (List Int)) :=
  (laws_markAsmS k p0.code p1).bind fun t1 => gd (t1.2.length = p0.code.length) ((laws_markMixFrameS k p0.frames t1.1).bind fun t2 => gd (t2.2.length = p0.frames.length) ((laws_markInt64SS k p0.heap t2.1).bind fun t3 => gd (t3.2.length = p0.heap.length) ((laws_markInt64S k p0.out t3.1).bind fun t4 => gd (t4.2.length = p0.out.length) (some (t4.1, t1.2, t2.2, t3.2, t4.2)))))

theorem c_laws_markMixed {k : Nat} {p0 : GMixed} {p1 : Int} {r : Int × (List GAsm) × (List GMixFrame) × (List (List Int)) × (List Int)} (h : laws_markMixed k p0 p1 = some r) : Con Try.prog 33 [.agg [.sl 0 3 0 p0.code.length, .sl 1 6 0 p0.frames.length, .sl 2 1 0 p0.heap.length, .sl 3 1 0 p0.out.length, V.int p0.fuel0, V.bool p0.done, V.int p0.value, V.int p0.trap], V.int p1] [.o 3 (dd (Rw (GAsm.cells .own) p0.code)), .o 6 (dd (Rw (GMixFrame.cells .own) p0.frames)), .o 1 (dd (Rw (cL .own 1 (cI .i64)) p0.heap)), .o 1 (dd (Rw (cI .i64) p0.out))] (V.int r.1) [.o 3 (dd (Rw (GAsm.cells .own) r.2.1)), .o 6 (dd (Rw (GMixFrame.cells .own) r.2.2.1)), .o 1 (dd (Rw (cL .own 1 (cI .i64)) r.2.2.2.1)), .o 1 (dd (Rw (cI .i64) r.2.2.2.2))] := by
  refine con_of_sw Try.func33 rfl Try.call33 (by simp [Try.ntmps33]) (by simp [V.inNs, V.inN]) (by simp [C.inN, V.inNss, V.inNs, V.inN, inNss_dd]) (by simp [V.inNs, V.inN]) (by simp [C.inN, V.inNss, V.inNs, V.inN, inNss_dd]) rfl ?_
  rw [Try.ntmps33, Try.results33]
  unfold laws_markMixed at h
  replace h := Yes.mk h
  simp only [entryS, entryO, Nat.reduceAdd, List.length_nil, List.length_cons]
  repeat' (first
    | (with_reducible (first | refine sw_reg ?_ | refine sw_ret ?_ | refine sw_skip ?_ | refine sw_block ?_ | refine sw_exit ?_ | refine seqQ_normal ?_ | refine blockQ_normal ?_ | refine blockQ_ret ?_ | refine blockQ_this ?_ | refine blockQ_other (by decide) ?_ | refine regW_nil ?_ | refine sw_draw mixed ?_ | refine retQ_ret ?_ | refine retQ_normal ?_))
    | (with_reducible refine regD_nil ?_
       refine ⟨by kernel_rfl, ?_⟩)
    | (revert h; (first | ((with_reducible refine idx_elim ?_); intro m hm1 hm2 hm3 h; (try (simp only [Int.reduceToNat] at hm3)); (try (revert hm3; (with_reducible apply same_elim); (focus (with_reducible assumption)); rintro rfl)); (try (simp only [List.length_set, List.length_cons, List.length_nil, List.length_replicate, Nat.reduceAdd, Int.cast_ofNat_Int, Nat.zero_add, List.length_append] at hm2))) | (with_reducible refine sidx_elim ?_; intro m hm1 hm3 h) | (with_reducible refine gd_elim ?_; intro hg h; try (have hg2 := hg.2; have hg := hg.1; (try (simp only [Nat.reduceLeDiff] at hg2)); (try (revert hg2; (with_reducible refine toNat_elim hg ?_); intro hg2 hg4)); try (have hg3 := hg2.2; have hg2 := hg2.1; (try (simp only [Nat.reduceLeDiff] at hg3))))) | (with_reducible refine condt_elim ?_ ?_; (focus (with_reducible assumption)); intro h) | (with_reducible refine condf_elim ?_ ?_; (focus (with_reducible assumption)); intro h)))
    | with_reducible refine sw_seq ?_
    | with_reducible refine seqQ_ret ?_
    | with_reducible refine seqQ_exit ?_
    | ((with_reducible refine wp_ite ?_ ?_)
       all_goals (intro hc; (try (simp only [Bool.not_eq_true, Bool.not_eq_false] at hc)); simp only [hc]))
    | (with_reducible apply regW_skip
       · simp only [dstOk, Nat.reduceLT]
       · rfl
       · simp only [putSt, lk, lkb, reduceCtorEq, Nat.reduceEqDiff]; done)
    | (with_reducible apply regW_yesN
       · simp only [dstOk, Nat.reduceLT]
       · rfl
       · simp only [putSt, lk, lkb, reduceCtorEq, Nat.reduceEqDiff]; done)
    | (with_reducible apply regW_no
       · simp only [dstOk, Nat.reduceLT]
       · rfl
       · simp only [putSt, lk, lkb, reduceCtorEq, Nat.reduceEqDiff, Bool.not_true, Bool.not_false]; done)
    | (with_reducible apply regW_guardN
       · simp only [dstOk, Nat.reduceLT]
       · rfl
       · simp only [putSt, lk, lkb, reduceCtorEq, Nat.reduceEqDiff]; rfl
       all_goals (intro hc; (try (simp only [Bool.not_true, Bool.not_false] at hc))))
    | (with_reducible apply sw_cond
       · simp only [putSt, lk, lkb, reduceCtorEq, Nat.reduceEqDiff]; rfl
       all_goals (intro hc; try (cases hc; done)))
    | ((first
        | ((with_reducible refine gh_ret ?_)
           revert h
           with_reducible refine some_elim ?_
           rintro rfl)
        | (with_reducible refine here_call ?_
           revert h
           with_reducible refine bind_elim ?_
           intro t ht h
           (first
             | (refine call_obj [3] (c_laws_markInt64S ht) (by decide) ?_ ?_
                · first | exact .inl rfl | (refine .inr ⟨?_, ?_⟩; (focus (first | rfl | (simp only [V.nb, V.nbL, D.nb, D.nbL, Md.nb, nbb, GI2_nb, GMov_nb, GAsmIns_nb, GAsm_nb, GMixFrame_nb, GMixed_nb, LcIi64_nb, LGI2_nb]; done))); (focus (simp [C.nb, V.nbLL, V.nbL, V.nb, D.nb]; done)))
                simp only [argsP, argP, V.namesOf, V.namesOfL, List.mem_append, List.append_nil, List.mem_cons, or_false, or_true, true_or, objsP, C.ren, V.ren, V.renL, renLL_dd, V.renLL, List.getD_cons_zero, List.getD_cons_succ, C.o.injEq, hyb, lendAL, lendA, undd.unddR, D.lendL, D.lend, Md.lend, GI2_lend, GMov_lend, GAsmIns_lend, GAsm_lend, GMixFrame_lend, GMixed_lend, LcIi64_lend, LGI2_lend, putSt, lk, lkb, reduceCtorEq, Nat.reduceEqDiff, Prog.wp, Prog.wp_bind, Prog.bind, Prog.ofO, List.take_of_length_le, *])
             | (refine call_obj [0] (c_laws_markAsmS ht) (by decide) ?_ ?_
                · first | exact .inl rfl | (refine .inr ⟨?_, ?_⟩; (focus (first | rfl | (simp only [V.nb, V.nbL, D.nb, D.nbL, Md.nb, nbb, GI2_nb, GMov_nb, GAsmIns_nb, GAsm_nb, GMixFrame_nb, GMixed_nb, LcIi64_nb, LGI2_nb]; done))); (focus (simp [C.nb, V.nbLL, V.nbL, V.nb, D.nb]; done)))
                simp only [argsP, argP, V.namesOf, V.namesOfL, List.mem_append, List.append_nil, List.mem_cons, or_false, or_true, true_or, objsP, C.ren, V.ren, V.renL, renLL_dd, V.renLL, List.getD_cons_zero, List.getD_cons_succ, C.o.injEq, hyb, lendAL, lendA, undd.unddR, D.lendL, D.lend, Md.lend, GI2_lend, GMov_lend, GAsmIns_lend, GAsm_lend, GMixFrame_lend, GMixed_lend, LcIi64_lend, LGI2_lend, putSt, lk, lkb, reduceCtorEq, Nat.reduceEqDiff, Prog.wp, Prog.wp_bind, Prog.bind, Prog.ofO, List.take_of_length_le, *])
             | (refine call_obj [1] (c_laws_markMixFrameS ht) (by decide) ?_ ?_
                · first | exact .inl rfl | (refine .inr ⟨?_, ?_⟩; (focus (first | rfl | (simp only [V.nb, V.nbL, D.nb, D.nbL, Md.nb, nbb, GI2_nb, GMov_nb, GAsmIns_nb, GAsm_nb, GMixFrame_nb, GMixed_nb, LcIi64_nb, LGI2_nb]; done))); (focus (simp [C.nb, V.nbLL, V.nbL, V.nb, D.nb]; done)))
                simp only [argsP, argP, V.namesOf, V.namesOfL, List.mem_append, List.append_nil, List.mem_cons, or_false, or_true, true_or, objsP, C.ren, V.ren, V.renL, renLL_dd, V.renLL, List.getD_cons_zero, List.getD_cons_succ, C.o.injEq, hyb, lendAL, lendA, undd.unddR, D.lendL, D.lend, Md.lend, GI2_lend, GMov_lend, GAsmIns_lend, GAsm_lend, GMixFrame_lend, GMixed_lend, LcIi64_lend, LGI2_lend, putSt, lk, lkb, reduceCtorEq, Nat.reduceEqDiff, Prog.wp, Prog.wp_bind, Prog.bind, Prog.ofO, List.take_of_length_le, *])
             | (refine call_obj [2] (c_laws_markInt64SS ht) (by decide) ?_ ?_
                · first | exact .inl rfl | (refine .inr ⟨?_, ?_⟩; (focus (first | rfl | (simp only [V.nb, V.nbL, D.nb, D.nbL, Md.nb, nbb, GI2_nb, GMov_nb, GAsmIns_nb, GAsm_nb, GMixFrame_nb, GMixed_nb, LcIi64_nb, LGI2_nb]; done))); (focus (simp [C.nb, V.nbLL, V.nbL, V.nb, D.nb]; done)))
                simp only [argsP, argP, V.namesOf, V.namesOfL, List.mem_append, List.append_nil, List.mem_cons, or_false, or_true, true_or, objsP, C.ren, V.ren, V.renL, renLL_dd, V.renLL, List.getD_cons_zero, List.getD_cons_succ, C.o.injEq, hyb, lendAL, lendA, undd.unddR, D.lendL, D.lend, Md.lend, GI2_lend, GMov_lend, GAsmIns_lend, GAsm_lend, GMixFrame_lend, GMixed_lend, LcIi64_lend, LGI2_lend, putSt, lk, lkb, reduceCtorEq, Nat.reduceEqDiff, Prog.wp, Prog.wp_bind, Prog.bind, Prog.ofO, List.take_of_length_le, *])))
        | (with_reducible apply regD_opK
           · simp only [dstOk, Nat.reduceLT]
           · simp only [Nat.reduceAdd]; rfl
           intro k hk)
        | (with_reducible apply regW_opK
           · simp only [dstOk, Nat.reduceLT]
           · simp only [Nat.reduceAdd]; rfl
           intro k hk)
        | skip)
       simp only [RetW, bn, lkb, evb, opC, opP, fetchN, fetchP, fetchAll, fetchO, Prog.bind, Prog.wp, Prog.wp_bind, lk, nameP, nameAll, Value.oneCell', putSt, stepP, putP, reduceCtorEq, V.lin, V.linL, D.lin, isNil, binP, unP, BinOp.isShift, Prog.ofO, Nat.reduceAdd, Nat.reduceMul, Nat.reduceSub, Nat.reduceLT, Nat.reduceLeDiff, Nat.reduceEqDiff, ite_true, ite_false, fieldAddrP, fieldP, indexAddrP, loadP, storeP, boxP, allocP, cellsP, asVal, setSeg, outP, outT, cntT, TyK.field, TyK.agg, zeroRow, V.ren, V.renL, forall_eq_or_imp, forall_const, minmaxP, lenP, lenOf, lenStr, V.asInt, decide_true, decide_false, sliceP, boundP, makeSliceP, convertP, appendP, rowsOfP, ontoP, sizeFits, V.rowSize, TyK.src, resV, resV.go, resV.gol, retP, retOne, retAll, resTo, objsAre, Option.map_eq_map, Function.const_apply, Int.reduceNeg, Int.reduceToNat, ty2, ty3, ty4, ty26, ty51, ty52, ty53, ty55, ty89, ty125, ty126, ty128, ty152, ty153, ty155, ty171, ty173, GAsm.cells, GAsmIns.cells, GI2.cells, GMixFrame.cells, GMixed.cells, GMov.cells, cI, cB, cS, cL, GI2_e, GMov_e, GAsmIns_e, GAsm_e, GMixFrame_e, GMixed_e, LcIi64_e, LGI2_e, *]
       try (refine hk.use _ _ _ _ ?_; clear hk k))
    | fail)
  all_goals (try rfl)
  all_goals (try (simp; done))
  all_goals (try (simp_all; done))
def laws_heldMovS.l1 : Nat → (List GMov) → Int → Int → Option ((Int) ⊕ (Int))
  | 0, _, _, _ => none
  | k + 1, a1, a2, a3 => cond ((decide (a3 < ((a1.length : Int))))) ((idx a1 a3).bind fun m1 => cond ((m1.to != a2)) (some (.inl ((-1)))) (cond ((m1.from0.a != ((IntKind.i64.wrap (a2 + 1))))) (some (.inl ((-1)))) (cond ((m1.from0.b != ((IntKind.i64.wrap (((IntKind.i64.wrap (a2 + 1))) + 1))))) (some (.inl ((-1)))) (laws_heldMovS.l1 k a1 ((IntKind.i64.wrap (((IntKind.i64.wrap (((IntKind.i64.wrap (a2 + 1))) + 1))) + 1))) ((IntKind.i64.wrap (a3 + 1))))))) (some (.inr (a2)))

def laws_heldMovS (k : Nat) (p0 : (List GMov)) (p1 : Int) : Option (Int) :=
  (laws_heldMovS.l1 k p0 p1 0).bind fun o1 => Sum.elim (fun o1l => some o1l) (fun o1r => some o1r) o1

theorem c_laws_heldMovS {k : Nat} {p0 : (List GMov)} {p1 : Int} {r : Int} (h : laws_heldMovS k p0 p1 = some r) : Con Try.prog 106 [.d (.row .bor 3 (Rw GMov.cells p0)), V.int p1] [] (V.int r) [] := by
  refine con_of_sw Try.func106 rfl Try.call106 (by simp [Try.ntmps106]) (by simp [V.inNs, V.inN]) (by simp [C.inN, V.inNss, V.inNs, V.inN, inNss_dd]) (by simp [V.inNs, V.inN]) (by simp [C.inN, V.inNss, V.inNs, V.inN, inNss_dd]) rfl ?_
  rw [Try.ntmps106, Try.results106]
  unfold laws_heldMovS at h
  replace h := Yes.mk h
  simp only [entryS, entryO, Nat.reduceAdd, List.length_nil, List.length_cons]
  repeat' (first
    | (with_reducible (first | refine sw_reg ?_ | refine sw_ret ?_ | refine sw_skip ?_ | refine sw_block ?_ | refine sw_exit ?_ | refine seqQ_normal ?_ | refine blockQ_normal ?_ | refine blockQ_ret ?_ | refine blockQ_this ?_ | refine blockQ_other (by decide) ?_ | refine regW_nil ?_ | refine sw_draw mixed ?_ | refine retQ_ret ?_ | refine retQ_normal ?_))
    | (with_reducible refine regD_nil ?_
       refine ⟨by kernel_rfl, ?_⟩)
    | (revert h; (first | ((with_reducible refine idx_elim ?_); intro m hm1 hm2 hm3 h; (try (simp only [Int.reduceToNat] at hm3)); (try (revert hm3; (with_reducible apply same_elim); (focus (with_reducible assumption)); rintro rfl)); (try (simp only [List.length_set, List.length_cons, List.length_nil, List.length_replicate, Nat.reduceAdd, Int.cast_ofNat_Int, Nat.zero_add, List.length_append] at hm2))) | (with_reducible refine sidx_elim ?_; intro m hm1 hm3 h) | (with_reducible refine gd_elim ?_; intro hg h; try (have hg2 := hg.2; have hg := hg.1; (try (simp only [Nat.reduceLeDiff] at hg2)); (try (revert hg2; (with_reducible refine toNat_elim hg ?_); intro hg2 hg4)); try (have hg3 := hg2.2; have hg2 := hg2.1; (try (simp only [Nat.reduceLeDiff] at hg3))))) | (with_reducible refine condt_elim ?_ ?_; (focus (with_reducible assumption)); intro h) | (with_reducible refine condf_elim ?_ ?_; (focus (with_reducible assumption)); intro h)))
    | ((first | with_reducible refine seqQ_ret (K := (fun st1 n1 => Gh st1 n1 (NextS _ 10000000 _ _ _ _))) ?_ | with_reducible refine seqQ_exit (K := (fun st1 n1 => Gh st1 n1 (NextS _ 10000000 _ _ _ _))) ?_)
       obtain rfl := h.get
       have h := hK1
       (try (simp only [Sum.elim_inl, Sum.elim_inr] at h)))
    | (with_reducible refine here_loop (c := (.seq (.seq (.region 2 _ _) _) _)) ?_
       skip
       revert h
       with_reducible refine bind_elimY ?_
       intro o1 h hK1
       refine sw_loop (ι := Nat × (List GMov) × Int × Int) 10000000 (by decide) (fun x : Nat × (List GMov) × Int × Int => [(.s 0, some (.v (.d (.row .bor 3 (Rw GMov.cells x.2.1))))), (.s 1, some (.v (V.int x.2.2.1))), (.s 5, some (.v (V.int x.2.2.2)))]) (fun x => x.1) (fun x => Yes (laws_heldMovS.l1 x.1 x.2.1 x.2.2.1 x.2.2.2) o1) (_, _, _, _) ?_ h ?_ ?_
       · exact (by simp [slNL, C.inN, V.inN, V.inNs, V.inNss, inNss_dd, inNs_map_d])
       · simp only [SubL, putSt, lk, lkb, reduceCtorEq, Nat.reduceEqDiff, List.length_set, List.length_replicate]; repeat' (first | apply And.intro | rfl | trivial | (simp only [*]; done))
       rintro ⟨_ | k, a1, a2, a3⟩ h
       · simp only [laws_heldMovS.l1] at h; exact h.none
       simp only [laws_heldMovS.l1] at h
)
    | (with_reducible refine here_next (N0 := 10000000) ?_
       skip
       refine nexts_to (_, _, _, _) (by decide) ?_ (Nat.lt_succ_self _) h ?_
       · exact (by simp [slNL, C.inN, V.inN, V.inNs, V.inNss, inNss_dd, inNs_map_d])
       · simp only [SubL, putSt, lk, lkb, reduceCtorEq, Nat.reduceEqDiff, List.length_set, List.length_replicate]; repeat' (first | apply And.intro | rfl | trivial | (simp only [*]; done)))
    | with_reducible refine sw_seq ?_
    | with_reducible refine seqQ_ret ?_
    | with_reducible refine seqQ_exit ?_
    | ((with_reducible refine wp_ite ?_ ?_)
       all_goals (intro hc; (try (simp only [Bool.not_eq_true, Bool.not_eq_false] at hc)); simp only [hc]))
    | (with_reducible apply regW_skip
       · simp only [dstOk, Nat.reduceLT]
       · rfl
       · simp only [putSt, lk, lkb, reduceCtorEq, Nat.reduceEqDiff]; done)
    | (with_reducible apply regW_yesN
       · simp only [dstOk, Nat.reduceLT]
       · rfl
       · simp only [putSt, lk, lkb, reduceCtorEq, Nat.reduceEqDiff]; done)
    | (with_reducible apply regW_no
       · simp only [dstOk, Nat.reduceLT]
       · rfl
       · simp only [putSt, lk, lkb, reduceCtorEq, Nat.reduceEqDiff, Bool.not_true, Bool.not_false]; done)
    | (with_reducible apply regW_guardN
       · simp only [dstOk, Nat.reduceLT]
       · rfl
       · simp only [putSt, lk, lkb, reduceCtorEq, Nat.reduceEqDiff]; rfl
       all_goals (intro hc; (try (simp only [Bool.not_true, Bool.not_false] at hc))))
    | (with_reducible apply sw_cond
       · simp only [putSt, lk, lkb, reduceCtorEq, Nat.reduceEqDiff]; rfl
       all_goals (intro hc; try (cases hc; done)))
    | ((first
        | ((with_reducible refine gh_ret ?_)
           revert h
           with_reducible refine some_elim ?_
           rintro rfl)
        | (with_reducible apply regD_opK
           · simp only [dstOk, Nat.reduceLT]
           · simp only [Nat.reduceAdd]; rfl
           intro k hk)
        | (with_reducible apply regW_opK
           · simp only [dstOk, Nat.reduceLT]
           · simp only [Nat.reduceAdd]; rfl
           intro k hk)
        | skip)
       simp only [RetW, bn, lkb, evb, opC, opP, fetchN, fetchP, fetchAll, fetchO, Prog.bind, Prog.wp, Prog.wp_bind, lk, nameP, nameAll, Value.oneCell', putSt, stepP, putP, reduceCtorEq, V.lin, V.linL, D.lin, isNil, binP, unP, BinOp.isShift, Prog.ofO, Nat.reduceAdd, Nat.reduceMul, Nat.reduceSub, Nat.reduceLT, Nat.reduceLeDiff, Nat.reduceEqDiff, ite_true, ite_false, fieldAddrP, fieldP, indexAddrP, loadP, storeP, boxP, allocP, cellsP, asVal, setSeg, outP, outT, cntT, TyK.field, TyK.agg, zeroRow, V.ren, V.renL, forall_eq_or_imp, forall_const, minmaxP, lenP, lenOf, lenStr, V.asInt, decide_true, decide_false, sliceP, boundP, makeSliceP, convertP, appendP, rowsOfP, ontoP, sizeFits, V.rowSize, TyK.src, resV, resV.go, resV.gol, retP, retOne, retAll, resTo, objsAre, Option.map_eq_map, Function.const_apply, Int.reduceNeg, Int.reduceToNat, ty2, ty3, ty152, ty171, ty173, GI2.cells, GMov.cells, cI, cB, cS, cL, GI2_e, GMov_e, *]
       try (refine hk.use _ _ _ _ ?_; clear hk k))
    | fail)
  all_goals (try rfl)
  all_goals (try (simp; done))
  all_goals (try (simp_all; done))
def laws_heldValS.l1 : Nat → (List GI2) → Int → Int → Option ((Int) ⊕ (Int))
  | 0, _, _, _ => none
  | k + 1, a1, a2, a3 => cond ((decide (a3 < ((a1.length : Int))))) ((idx a1 a3).bind fun m1 => cond ((m1.a != a2)) (some (.inl ((-1)))) (cond ((m1.b != ((IntKind.i64.wrap (a2 + 1))))) (some (.inl ((-1)))) (laws_heldValS.l1 k a1 ((IntKind.i64.wrap (((IntKind.i64.wrap (a2 + 1))) + 1))) ((IntKind.i64.wrap (a3 + 1)))))) (some (.inr (a2)))

def laws_heldValS (k : Nat) (p0 : (List GI2)) (p1 : Int) : Option (Int) :=
  (laws_heldValS.l1 k p0 p1 0).bind fun o1 => Sum.elim (fun o1l => some o1l) (fun o1r => some o1r) o1

theorem c_laws_heldValS {k : Nat} {p0 : (List GI2)} {p1 : Int} {r : Int} (h : laws_heldValS k p0 p1 = some r) : Con Try.prog 107 [.d (.row .bor 2 (Rw GI2.cells p0)), V.int p1] [] (V.int r) [] := by
  refine con_of_sw Try.func107 rfl Try.call107 (by simp [Try.ntmps107]) (by simp [V.inNs, V.inN]) (by simp [C.inN, V.inNss, V.inNs, V.inN, inNss_dd]) (by simp [V.inNs, V.inN]) (by simp [C.inN, V.inNss, V.inNs, V.inN, inNss_dd]) rfl ?_
  rw [Try.ntmps107, Try.results107]
  unfold laws_heldValS at h
  replace h := Yes.mk h
  simp only [entryS, entryO, Nat.reduceAdd, List.length_nil, List.length_cons]
  repeat' (first
    | (with_reducible (first | refine sw_reg ?_ | refine sw_ret ?_ | refine sw_skip ?_ | refine sw_block ?_ | refine sw_exit ?_ | refine seqQ_normal ?_ | refine blockQ_normal ?_ | refine blockQ_ret ?_ | refine blockQ_this ?_ | refine blockQ_other (by decide) ?_ | refine regW_nil ?_ | refine sw_draw mixed ?_ | refine retQ_ret ?_ | refine retQ_normal ?_))
    | (with_reducible refine regD_nil ?_
       refine ⟨by kernel_rfl, ?_⟩)
    | (revert h; (first | ((with_reducible refine idx_elim ?_); intro m hm1 hm2 hm3 h; (try (simp only [Int.reduceToNat] at hm3)); (try (revert hm3; (with_reducible apply same_elim); (focus (with_reducible assumption)); rintro rfl)); (try (simp only [List.length_set, List.length_cons, List.length_nil, List.length_replicate, Nat.reduceAdd, Int.cast_ofNat_Int, Nat.zero_add, List.length_append] at hm2))) | (with_reducible refine sidx_elim ?_; intro m hm1 hm3 h) | (with_reducible refine gd_elim ?_; intro hg h; try (have hg2 := hg.2; have hg := hg.1; (try (simp only [Nat.reduceLeDiff] at hg2)); (try (revert hg2; (with_reducible refine toNat_elim hg ?_); intro hg2 hg4)); try (have hg3 := hg2.2; have hg2 := hg2.1; (try (simp only [Nat.reduceLeDiff] at hg3))))) | (with_reducible refine condt_elim ?_ ?_; (focus (with_reducible assumption)); intro h) | (with_reducible refine condf_elim ?_ ?_; (focus (with_reducible assumption)); intro h)))
    | ((first | with_reducible refine seqQ_ret (K := (fun st1 n1 => Gh st1 n1 (NextS _ 10000000 _ _ _ _))) ?_ | with_reducible refine seqQ_exit (K := (fun st1 n1 => Gh st1 n1 (NextS _ 10000000 _ _ _ _))) ?_)
       obtain rfl := h.get
       have h := hK1
       (try (simp only [Sum.elim_inl, Sum.elim_inr] at h)))
    | (with_reducible refine here_loop (c := (.seq (.seq (.region 2 _ _) _) _)) ?_
       skip
       revert h
       with_reducible refine bind_elimY ?_
       intro o1 h hK1
       refine sw_loop (ι := Nat × (List GI2) × Int × Int) 10000000 (by decide) (fun x : Nat × (List GI2) × Int × Int => [(.s 0, some (.v (.d (.row .bor 2 (Rw GI2.cells x.2.1))))), (.s 1, some (.v (V.int x.2.2.1))), (.s 5, some (.v (V.int x.2.2.2)))]) (fun x => x.1) (fun x => Yes (laws_heldValS.l1 x.1 x.2.1 x.2.2.1 x.2.2.2) o1) (_, _, _, _) ?_ h ?_ ?_
       · exact (by simp [slNL, C.inN, V.inN, V.inNs, V.inNss, inNss_dd, inNs_map_d])
       · simp only [SubL, putSt, lk, lkb, reduceCtorEq, Nat.reduceEqDiff, List.length_set, List.length_replicate]; repeat' (first | apply And.intro | rfl | trivial | (simp only [*]; done))
       rintro ⟨_ | k, a1, a2, a3⟩ h
       · simp only [laws_heldValS.l1] at h; exact h.none
       simp only [laws_heldValS.l1] at h
)
    | (with_reducible refine here_next (N0 := 10000000) ?_
       skip
       refine nexts_to (_, _, _, _) (by decide) ?_ (Nat.lt_succ_self _) h ?_
       · exact (by simp [slNL, C.inN, V.inN, V.inNs, V.inNss, inNss_dd, inNs_map_d])
       · simp only [SubL, putSt, lk, lkb, reduceCtorEq, Nat.reduceEqDiff, List.length_set, List.length_replicate]; repeat' (first | apply And.intro | rfl | trivial | (simp only [*]; done)))
    | with_reducible refine sw_seq ?_
    | with_reducible refine seqQ_ret ?_
    | with_reducible refine seqQ_exit ?_
    | ((with_reducible refine wp_ite ?_ ?_)
       all_goals (intro hc; (try (simp only [Bool.not_eq_true, Bool.not_eq_false] at hc)); simp only [hc]))
    | (with_reducible apply regW_skip
       · simp only [dstOk, Nat.reduceLT]
       · rfl
       · simp only [putSt, lk, lkb, reduceCtorEq, Nat.reduceEqDiff]; done)
    | (with_reducible apply regW_yesN
       · simp only [dstOk, Nat.reduceLT]
       · rfl
       · simp only [putSt, lk, lkb, reduceCtorEq, Nat.reduceEqDiff]; done)
    | (with_reducible apply regW_no
       · simp only [dstOk, Nat.reduceLT]
       · rfl
       · simp only [putSt, lk, lkb, reduceCtorEq, Nat.reduceEqDiff, Bool.not_true, Bool.not_false]; done)
    | (with_reducible apply regW_guardN
       · simp only [dstOk, Nat.reduceLT]
       · rfl
       · simp only [putSt, lk, lkb, reduceCtorEq, Nat.reduceEqDiff]; rfl
       all_goals (intro hc; (try (simp only [Bool.not_true, Bool.not_false] at hc))))
    | (with_reducible apply sw_cond
       · simp only [putSt, lk, lkb, reduceCtorEq, Nat.reduceEqDiff]; rfl
       all_goals (intro hc; try (cases hc; done)))
    | ((first
        | ((with_reducible refine gh_ret ?_)
           revert h
           with_reducible refine some_elim ?_
           rintro rfl)
        | (with_reducible apply regD_opK
           · simp only [dstOk, Nat.reduceLT]
           · simp only [Nat.reduceAdd]; rfl
           intro k hk)
        | (with_reducible apply regW_opK
           · simp only [dstOk, Nat.reduceLT]
           · simp only [Nat.reduceAdd]; rfl
           intro k hk)
        | skip)
       simp only [RetW, bn, lkb, evb, opC, opP, fetchN, fetchP, fetchAll, fetchO, Prog.bind, Prog.wp, Prog.wp_bind, lk, nameP, nameAll, Value.oneCell', putSt, stepP, putP, reduceCtorEq, V.lin, V.linL, D.lin, isNil, binP, unP, BinOp.isShift, Prog.ofO, Nat.reduceAdd, Nat.reduceMul, Nat.reduceSub, Nat.reduceLT, Nat.reduceLeDiff, Nat.reduceEqDiff, ite_true, ite_false, fieldAddrP, fieldP, indexAddrP, loadP, storeP, boxP, allocP, cellsP, asVal, setSeg, outP, outT, cntT, TyK.field, TyK.agg, zeroRow, V.ren, V.renL, forall_eq_or_imp, forall_const, minmaxP, lenP, lenOf, lenStr, V.asInt, decide_true, decide_false, sliceP, boundP, makeSliceP, convertP, appendP, rowsOfP, ontoP, sizeFits, V.rowSize, TyK.src, resV, resV.go, resV.gol, retP, retOne, retAll, resTo, objsAre, Option.map_eq_map, Function.const_apply, Int.reduceNeg, Int.reduceToNat, ty2, ty3, ty153, ty171, GI2.cells, cI, cB, cS, cL, GI2_e, LGI2_e, *]
       try (refine hk.use _ _ _ _ ?_; clear hk k))
    | fail)
  all_goals (try rfl)
  all_goals (try (simp; done))
  all_goals (try (simp_all; done))
def laws_heldAsmInsS.l1 : Nat → (List GAsmIns) → Int → Int → Option ((Int) ⊕ (Int))
  | 0, _, _, _ => none
  | k + 1, a1, a2, a3 => cond ((decide (a3 < ((a1.length : Int))))) ((idx a1 a3).bind fun m1 => (laws_heldMovS k m1.pre a2).bind fun t2 => cond ((decide (t2 < 0))) (some (.inl ((-1)))) (cond ((m1.op != t2)) (some (.inl ((-1)))) (cond ((m1.to != ((IntKind.i64.wrap (t2 + 1))))) (some (.inl ((-1)))) ((laws_heldValS k m1.l ((IntKind.i64.wrap (((IntKind.i64.wrap (t2 + 1))) + 1)))).bind fun t3 => cond ((decide (t3 < 0))) (some (.inl ((-1)))) (cond ((m1.t != t3)) (some (.inl ((-1)))) (laws_heldAsmInsS.l1 k a1 ((IntKind.i64.wrap (t3 + 1))) ((IntKind.i64.wrap (a3 + 1))))))))) (some (.inr (a2)))

def laws_heldAsmInsS (k : Nat) (p0 : (List GAsmIns)) (p1 : Int) : Option (Int) :=
  (laws_heldAsmInsS.l1 k p0 p1 0).bind fun o1 => Sum.elim (fun o1l => some o1l) (fun o1r => some o1r) o1

theorem c_laws_heldAsmInsS {k : Nat} {p0 : (List GAsmIns)} {p1 : Int} {r : Int} (h : laws_heldAsmInsS k p0 p1 = some r) : Con Try.prog 88 [.d (.row .bor 5 (Rw (GAsmIns.cells .bor) p0)), V.int p1] [] (V.int r) [] := by
  refine con_of_sw Try.func88 rfl Try.call88 (by simp [Try.ntmps88]) (by simp [V.inNs, V.inN]) (by simp [C.inN, V.inNss, V.inNs, V.inN, inNss_dd]) (by simp [V.inNs, V.inN]) (by simp [C.inN, V.inNss, V.inNs, V.inN, inNss_dd]) rfl ?_
  rw [Try.ntmps88, Try.results88]
  unfold laws_heldAsmInsS at h
  replace h := Yes.mk h
  simp only [entryS, entryO, Nat.reduceAdd, List.length_nil, List.length_cons]
  repeat' (first
    | (with_reducible (first | refine sw_reg ?_ | refine sw_ret ?_ | refine sw_skip ?_ | refine sw_block ?_ | refine sw_exit ?_ | refine seqQ_normal ?_ | refine blockQ_normal ?_ | refine blockQ_ret ?_ | refine blockQ_this ?_ | refine blockQ_other (by decide) ?_ | refine regW_nil ?_ | refine sw_draw mixed ?_ | refine retQ_ret ?_ | refine retQ_normal ?_))
    | (with_reducible refine regD_nil ?_
       refine ⟨by kernel_rfl, ?_⟩)
    | (revert h; (first | ((with_reducible refine idx_elim ?_); intro m hm1 hm2 hm3 h; (try (simp only [Int.reduceToNat] at hm3)); (try (revert hm3; (with_reducible apply same_elim); (focus (with_reducible assumption)); rintro rfl)); (try (simp only [List.length_set, List.length_cons, List.length_nil, List.length_replicate, Nat.reduceAdd, Int.cast_ofNat_Int, Nat.zero_add, List.length_append] at hm2))) | (with_reducible refine sidx_elim ?_; intro m hm1 hm3 h) | (with_reducible refine gd_elim ?_; intro hg h; try (have hg2 := hg.2; have hg := hg.1; (try (simp only [Nat.reduceLeDiff] at hg2)); (try (revert hg2; (with_reducible refine toNat_elim hg ?_); intro hg2 hg4)); try (have hg3 := hg2.2; have hg2 := hg2.1; (try (simp only [Nat.reduceLeDiff] at hg3))))) | (with_reducible refine condt_elim ?_ ?_; (focus (with_reducible assumption)); intro h) | (with_reducible refine condf_elim ?_ ?_; (focus (with_reducible assumption)); intro h)))
    | ((first | with_reducible refine seqQ_ret (K := (fun st1 n1 => Gh st1 n1 (NextS _ 10000000 _ _ _ _))) ?_ | with_reducible refine seqQ_exit (K := (fun st1 n1 => Gh st1 n1 (NextS _ 10000000 _ _ _ _))) ?_)
       obtain rfl := h.get
       have h := hK1
       (try (simp only [Sum.elim_inl, Sum.elim_inr] at h)))
    | (with_reducible refine here_loop (c := (.seq (.seq (.region 2 _ _) _) _)) ?_
       skip
       revert h
       with_reducible refine bind_elimY ?_
       intro o1 h hK1
       refine sw_loop (ι := Nat × (List GAsmIns) × Int × Int) 10000000 (by decide) (fun x : Nat × (List GAsmIns) × Int × Int => [(.s 0, some (.v (.d (.row .bor 5 (Rw (GAsmIns.cells .bor) x.2.1))))), (.s 1, some (.v (V.int x.2.2.1))), (.s 5, some (.v (V.int x.2.2.2)))]) (fun x => x.1) (fun x => Yes (laws_heldAsmInsS.l1 x.1 x.2.1 x.2.2.1 x.2.2.2) o1) (_, _, _, _) ?_ h ?_ ?_
       · exact (by simp [slNL, C.inN, V.inN, V.inNs, V.inNss, inNss_dd, inNs_map_d])
       · simp only [SubL, putSt, lk, lkb, reduceCtorEq, Nat.reduceEqDiff, List.length_set, List.length_replicate]; repeat' (first | apply And.intro | rfl | trivial | (simp only [*]; done))
       rintro ⟨_ | k, a1, a2, a3⟩ h
       · simp only [laws_heldAsmInsS.l1] at h; exact h.none
       simp only [laws_heldAsmInsS.l1] at h
)
    | (with_reducible refine here_next (N0 := 10000000) ?_
       skip
       refine nexts_to (_, _, _, _) (by decide) ?_ (Nat.lt_succ_self _) h ?_
       · exact (by simp [slNL, C.inN, V.inN, V.inNs, V.inNss, inNss_dd, inNs_map_d])
       · simp only [SubL, putSt, lk, lkb, reduceCtorEq, Nat.reduceEqDiff, List.length_set, List.length_replicate]; repeat' (first | apply And.intro | rfl | trivial | (simp only [*]; done)))
    | with_reducible refine sw_seq ?_
    | with_reducible refine seqQ_ret ?_
    | with_reducible refine seqQ_exit ?_
    | ((with_reducible refine wp_ite ?_ ?_)
       all_goals (intro hc; (try (simp only [Bool.not_eq_true, Bool.not_eq_false] at hc)); simp only [hc]))
    | (with_reducible apply regW_skip
       · simp only [dstOk, Nat.reduceLT]
       · rfl
       · simp only [putSt, lk, lkb, reduceCtorEq, Nat.reduceEqDiff]; done)
    | (with_reducible apply regW_yesN
       · simp only [dstOk, Nat.reduceLT]
       · rfl
       · simp only [putSt, lk, lkb, reduceCtorEq, Nat.reduceEqDiff]; done)
    | (with_reducible apply regW_no
       · simp only [dstOk, Nat.reduceLT]
       · rfl
       · simp only [putSt, lk, lkb, reduceCtorEq, Nat.reduceEqDiff, Bool.not_true, Bool.not_false]; done)
    | (with_reducible apply regW_guardN
       · simp only [dstOk, Nat.reduceLT]
       · rfl
       · simp only [putSt, lk, lkb, reduceCtorEq, Nat.reduceEqDiff]; rfl
       all_goals (intro hc; (try (simp only [Bool.not_true, Bool.not_false] at hc))))
    | (with_reducible apply sw_cond
       · simp only [putSt, lk, lkb, reduceCtorEq, Nat.reduceEqDiff]; rfl
       all_goals (intro hc; try (cases hc; done)))
    | ((first
        | ((with_reducible refine gh_ret ?_)
           revert h
           with_reducible refine some_elim ?_
           rintro rfl)
        | (with_reducible refine here_call ?_
           revert h
           with_reducible refine bind_elim ?_
           intro t ht h
           (first
             | (refine call_dataE (c_laws_heldMovS ht) ?_ rfl ?_
                · first | rfl | (simp; done))
             | (refine call_dataE (c_laws_heldValS ht) ?_ rfl ?_
                · first | rfl | (simp; done))))
        | (with_reducible apply regD_opK
           · simp only [dstOk, Nat.reduceLT]
           · simp only [Nat.reduceAdd]; rfl
           intro k hk)
        | (with_reducible apply regW_opK
           · simp only [dstOk, Nat.reduceLT]
           · simp only [Nat.reduceAdd]; rfl
           intro k hk)
        | skip)
       simp only [RetW, bn, lkb, evb, opC, opP, fetchN, fetchP, fetchAll, fetchO, Prog.bind, Prog.wp, Prog.wp_bind, lk, nameP, nameAll, Value.oneCell', putSt, stepP, putP, reduceCtorEq, V.lin, V.linL, D.lin, isNil, binP, unP, BinOp.isShift, Prog.ofO, Nat.reduceAdd, Nat.reduceMul, Nat.reduceSub, Nat.reduceLT, Nat.reduceLeDiff, Nat.reduceEqDiff, ite_true, ite_false, fieldAddrP, fieldP, indexAddrP, loadP, storeP, boxP, allocP, cellsP, asVal, setSeg, outP, outT, cntT, TyK.field, TyK.agg, zeroRow, V.ren, V.renL, forall_eq_or_imp, forall_const, minmaxP, lenP, lenOf, lenStr, V.asInt, decide_true, decide_false, sliceP, boundP, makeSliceP, convertP, appendP, rowsOfP, ontoP, sizeFits, V.rowSize, TyK.src, resV, resV.go, resV.gol, retP, retOne, retAll, resTo, objsAre, Option.map_eq_map, Function.const_apply, Int.reduceNeg, Int.reduceToNat, ty2, ty3, ty4, ty125, ty152, ty153, ty155, ty171, ty173, GAsmIns.cells, GI2.cells, GMov.cells, cI, cB, cS, cL, GI2_e, GMov_e, GAsmIns_e, LGI2_e, *]
       try (refine hk.use _ _ _ _ ?_; clear hk k))
    | fail)
  all_goals (try rfl)
  all_goals (try (simp; done))
  all_goals (try (simp_all; done))
def laws_heldValSS.l1 : Nat → (List (List GI2)) → Int → Int → Option ((Int) ⊕ (Int))
  | 0, _, _, _ => none
  | k + 1, a1, a2, a3 => cond ((decide (a3 < ((a1.length : Int))))) ((idx a1 a3).bind fun m1 => (laws_heldValS k m1 a2).bind fun t2 => cond ((decide (t2 < 0))) (some (.inl ((-1)))) (laws_heldValSS.l1 k a1 t2 ((IntKind.i64.wrap (a3 + 1))))) (some (.inr (a2)))

def laws_heldValSS (k : Nat) (p0 : (List (List GI2))) (p1 : Int) : Option (Int) :=
  (laws_heldValSS.l1 k p0 p1 0).bind fun o1 => Sum.elim (fun o1l => some o1l) (fun o1r => some o1r) o1

theorem c_laws_heldValSS {k : Nat} {p0 : (List (List GI2))} {p1 : Int} {r : Int} (h : laws_heldValSS k p0 p1 = some r) : Con Try.prog 89 [.d (.row .bor 1 (Rw (cL .bor 2 GI2.cells) p0)), V.int p1] [] (V.int r) [] := by
  refine con_of_sw Try.func89 rfl Try.call89 (by simp [Try.ntmps89]) (by simp [V.inNs, V.inN]) (by simp [C.inN, V.inNss, V.inNs, V.inN, inNss_dd]) (by simp [V.inNs, V.inN]) (by simp [C.inN, V.inNss, V.inNs, V.inN, inNss_dd]) rfl ?_
  rw [Try.ntmps89, Try.results89]
  unfold laws_heldValSS at h
  replace h := Yes.mk h
  simp only [entryS, entryO, Nat.reduceAdd, List.length_nil, List.length_cons]
  repeat' (first
    | (with_reducible (first | refine sw_reg ?_ | refine sw_ret ?_ | refine sw_skip ?_ | refine sw_block ?_ | refine sw_exit ?_ | refine seqQ_normal ?_ | refine blockQ_normal ?_ | refine blockQ_ret ?_ | refine blockQ_this ?_ | refine blockQ_other (by decide) ?_ | refine regW_nil ?_ | refine sw_draw mixed ?_ | refine retQ_ret ?_ | refine retQ_normal ?_))
    | (with_reducible refine regD_nil ?_
       refine ⟨by kernel_rfl, ?_⟩)
    | (revert h; (first | ((with_reducible refine idx_elim ?_); intro m hm1 hm2 hm3 h; (try (simp only [Int.reduceToNat] at hm3)); (try (revert hm3; (with_reducible apply same_elim); (focus (with_reducible assumption)); rintro rfl)); (try (simp only [List.length_set, List.length_cons, List.length_nil, List.length_replicate, Nat.reduceAdd, Int.cast_ofNat_Int, Nat.zero_add, List.length_append] at hm2))) | (with_reducible refine sidx_elim ?_; intro m hm1 hm3 h) | (with_reducible refine gd_elim ?_; intro hg h; try (have hg2 := hg.2; have hg := hg.1; (try (simp only [Nat.reduceLeDiff] at hg2)); (try (revert hg2; (with_reducible refine toNat_elim hg ?_); intro hg2 hg4)); try (have hg3 := hg2.2; have hg2 := hg2.1; (try (simp only [Nat.reduceLeDiff] at hg3))))) | (with_reducible refine condt_elim ?_ ?_; (focus (with_reducible assumption)); intro h) | (with_reducible refine condf_elim ?_ ?_; (focus (with_reducible assumption)); intro h)))
    | ((first | with_reducible refine seqQ_ret (K := (fun st1 n1 => Gh st1 n1 (NextS _ 10000000 _ _ _ _))) ?_ | with_reducible refine seqQ_exit (K := (fun st1 n1 => Gh st1 n1 (NextS _ 10000000 _ _ _ _))) ?_)
       obtain rfl := h.get
       have h := hK1
       (try (simp only [Sum.elim_inl, Sum.elim_inr] at h)))
    | (with_reducible refine here_loop (c := (.seq (.seq (.region 2 _ _) _) _)) ?_
       skip
       revert h
       with_reducible refine bind_elimY ?_
       intro o1 h hK1
       refine sw_loop (ι := Nat × (List (List GI2)) × Int × Int) 10000000 (by decide) (fun x : Nat × (List (List GI2)) × Int × Int => [(.s 0, some (.v (.d (.row .bor 1 (Rw (cL .bor 2 GI2.cells) x.2.1))))), (.s 1, some (.v (V.int x.2.2.1))), (.s 5, some (.v (V.int x.2.2.2)))]) (fun x => x.1) (fun x => Yes (laws_heldValSS.l1 x.1 x.2.1 x.2.2.1 x.2.2.2) o1) (_, _, _, _) ?_ h ?_ ?_
       · exact (by simp [slNL, C.inN, V.inN, V.inNs, V.inNss, inNss_dd, inNs_map_d])
       · simp only [SubL, putSt, lk, lkb, reduceCtorEq, Nat.reduceEqDiff, List.length_set, List.length_replicate]; repeat' (first | apply And.intro | rfl | trivial | (simp only [*]; done))
       rintro ⟨_ | k, a1, a2, a3⟩ h
       · simp only [laws_heldValSS.l1] at h; exact h.none
       simp only [laws_heldValSS.l1] at h
)
    | (with_reducible refine here_next (N0 := 10000000) ?_
       skip
       refine nexts_to (_, _, _, _) (by decide) ?_ (Nat.lt_succ_self _) h ?_
       · exact (by simp [slNL, C.inN, V.inN, V.inNs, V.inNss, inNss_dd, inNs_map_d])
       · simp only [SubL, putSt, lk, lkb, reduceCtorEq, Nat.reduceEqDiff, List.length_set, List.length_replicate]; repeat' (first | apply And.intro | rfl | trivial | (simp only [*]; done)))
    | with_reducible refine sw_seq ?_
    | with_reducible refine seqQ_ret ?_
    | with_reducible refine seqQ_exit ?_
    | ((with_reducible refine wp_ite ?_ ?_)
       all_goals (intro hc; (try (simp only [Bool.not_eq_true, Bool.not_eq_false] at hc)); simp only [hc]))
    | (with_reducible apply regW_skip
       · simp only [dstOk, Nat.reduceLT]
       · rfl
       · simp only [putSt, lk, lkb, reduceCtorEq, Nat.reduceEqDiff]; done)
    | (with_reducible apply regW_yesN
       · simp only [dstOk, Nat.reduceLT]
       · rfl
       · simp only [putSt, lk, lkb, reduceCtorEq, Nat.reduceEqDiff]; done)
    | (with_reducible apply regW_no
       · simp only [dstOk, Nat.reduceLT]
       · rfl
       · simp only [putSt, lk, lkb, reduceCtorEq, Nat.reduceEqDiff, Bool.not_true, Bool.not_false]; done)
    | (with_reducible apply regW_guardN
       · simp only [dstOk, Nat.reduceLT]
       · rfl
       · simp only [putSt, lk, lkb, reduceCtorEq, Nat.reduceEqDiff]; rfl
       all_goals (intro hc; (try (simp only [Bool.not_true, Bool.not_false] at hc))))
    | (with_reducible apply sw_cond
       · simp only [putSt, lk, lkb, reduceCtorEq, Nat.reduceEqDiff]; rfl
       all_goals (intro hc; try (cases hc; done)))
    | ((first
        | ((with_reducible refine gh_ret ?_)
           revert h
           with_reducible refine some_elim ?_
           rintro rfl)
        | (with_reducible refine here_call ?_
           revert h
           with_reducible refine bind_elim ?_
           intro t ht h
           (first
             | (refine call_dataE (c_laws_heldValS ht) ?_ rfl ?_
                · first | rfl | (simp; done))))
        | (with_reducible apply regD_opK
           · simp only [dstOk, Nat.reduceLT]
           · simp only [Nat.reduceAdd]; rfl
           intro k hk)
        | (with_reducible apply regW_opK
           · simp only [dstOk, Nat.reduceLT]
           · simp only [Nat.reduceAdd]; rfl
           intro k hk)
        | skip)
       simp only [RetW, bn, lkb, evb, opC, opP, fetchN, fetchP, fetchAll, fetchO, Prog.bind, Prog.wp, Prog.wp_bind, lk, nameP, nameAll, Value.oneCell', putSt, stepP, putP, reduceCtorEq, V.lin, V.linL, D.lin, isNil, binP, unP, BinOp.isShift, Prog.ofO, Nat.reduceAdd, Nat.reduceMul, Nat.reduceSub, Nat.reduceLT, Nat.reduceLeDiff, Nat.reduceEqDiff, ite_true, ite_false, fieldAddrP, fieldP, indexAddrP, loadP, storeP, boxP, allocP, cellsP, asVal, setSeg, outP, outT, cntT, TyK.field, TyK.agg, zeroRow, V.ren, V.renL, forall_eq_or_imp, forall_const, minmaxP, lenP, lenOf, lenStr, V.asInt, decide_true, decide_false, sliceP, boundP, makeSliceP, convertP, appendP, rowsOfP, ontoP, sizeFits, V.rowSize, TyK.src, resV, resV.go, resV.gol, retP, retOne, retAll, resTo, objsAre, Option.map_eq_map, Function.const_apply, Int.reduceNeg, Int.reduceToNat, ty2, ty3, ty126, ty153, ty171, GI2.cells, cI, cB, cS, cL, GI2_e, LGI2_e, *]
       try (refine hk.use _ _ _ _ ?_; clear hk k))
    | fail)
  all_goals (try rfl)
  all_goals (try (simp; done))
  all_goals (try (simp_all; done))
def laws_heldAsmS.l1 : Nat → (List GAsm) → Int → Int → Option ((Int) ⊕ (Int))
  | 0, _, _, _ => none
  | k + 1, a1, a2, a3 => cond ((decide (a3 < ((a1.length : Int))))) ((idx a1 a3).bind fun m1 => cond ((m1.func0 != a2)) (some (.inl ((-1)))) ((laws_heldAsmInsS k m1.code ((IntKind.i64.wrap (a2 + 1)))).bind fun t2 => cond ((decide (t2 < 0))) (some (.inl ((-1)))) ((laws_heldValSS k m1.maps t2).bind fun t3 => cond ((decide (t3 < 0))) (some (.inl ((-1)))) (laws_heldAsmS.l1 k a1 t3 ((IntKind.i64.wrap (a3 + 1))))))) (some (.inr (a2)))

def laws_heldAsmS (k : Nat) (p0 : (List GAsm)) (p1 : Int) : Option (Int) :=
  (laws_heldAsmS.l1 k p0 p1 0).bind fun o1 => Sum.elim (fun o1l => some o1l) (fun o1r => some o1r) o1

theorem c_laws_heldAsmS {k : Nat} {p0 : (List GAsm)} {p1 : Int} {r : Int} (h : laws_heldAsmS k p0 p1 = some r) : Con Try.prog 62 [.d (.row .bor 3 (Rw (GAsm.cells .bor) p0)), V.int p1] [] (V.int r) [] := by
  refine con_of_sw Try.func62 rfl Try.call62 (by simp [Try.ntmps62]) (by simp [V.inNs, V.inN]) (by simp [C.inN, V.inNss, V.inNs, V.inN, inNss_dd]) (by simp [V.inNs, V.inN]) (by simp [C.inN, V.inNss, V.inNs, V.inN, inNss_dd]) rfl ?_
  rw [Try.ntmps62, Try.results62]
  unfold laws_heldAsmS at h
  replace h := Yes.mk h
  simp only [entryS, entryO, Nat.reduceAdd, List.length_nil, List.length_cons]
  repeat' (first
    | (with_reducible (first | refine sw_reg ?_ | refine sw_ret ?_ | refine sw_skip ?_ | refine sw_block ?_ | refine sw_exit ?_ | refine seqQ_normal ?_ | refine blockQ_normal ?_ | refine blockQ_ret ?_ | refine blockQ_this ?_ | refine blockQ_other (by decide) ?_ | refine regW_nil ?_ | refine sw_draw mixed ?_ | refine retQ_ret ?_ | refine retQ_normal ?_))
    | (with_reducible refine regD_nil ?_
       refine ⟨by kernel_rfl, ?_⟩)
    | (revert h; (first | ((with_reducible refine idx_elim ?_); intro m hm1 hm2 hm3 h; (try (simp only [Int.reduceToNat] at hm3)); (try (revert hm3; (with_reducible apply same_elim); (focus (with_reducible assumption)); rintro rfl)); (try (simp only [List.length_set, List.length_cons, List.length_nil, List.length_replicate, Nat.reduceAdd, Int.cast_ofNat_Int, Nat.zero_add, List.length_append] at hm2))) | (with_reducible refine sidx_elim ?_; intro m hm1 hm3 h) | (with_reducible refine gd_elim ?_; intro hg h; try (have hg2 := hg.2; have hg := hg.1; (try (simp only [Nat.reduceLeDiff] at hg2)); (try (revert hg2; (with_reducible refine toNat_elim hg ?_); intro hg2 hg4)); try (have hg3 := hg2.2; have hg2 := hg2.1; (try (simp only [Nat.reduceLeDiff] at hg3))))) | (with_reducible refine condt_elim ?_ ?_; (focus (with_reducible assumption)); intro h) | (with_reducible refine condf_elim ?_ ?_; (focus (with_reducible assumption)); intro h)))
    | ((first | with_reducible refine seqQ_ret (K := (fun st1 n1 => Gh st1 n1 (NextS _ 10000000 _ _ _ _))) ?_ | with_reducible refine seqQ_exit (K := (fun st1 n1 => Gh st1 n1 (NextS _ 10000000 _ _ _ _))) ?_)
       obtain rfl := h.get
       have h := hK1
       (try (simp only [Sum.elim_inl, Sum.elim_inr] at h)))
    | (with_reducible refine here_loop (c := (.seq (.seq (.region 2 _ _) _) _)) ?_
       skip
       revert h
       with_reducible refine bind_elimY ?_
       intro o1 h hK1
       refine sw_loop (ι := Nat × (List GAsm) × Int × Int) 10000000 (by decide) (fun x : Nat × (List GAsm) × Int × Int => [(.s 0, some (.v (.d (.row .bor 3 (Rw (GAsm.cells .bor) x.2.1))))), (.s 1, some (.v (V.int x.2.2.1))), (.s 5, some (.v (V.int x.2.2.2)))]) (fun x => x.1) (fun x => Yes (laws_heldAsmS.l1 x.1 x.2.1 x.2.2.1 x.2.2.2) o1) (_, _, _, _) ?_ h ?_ ?_
       · exact (by simp [slNL, C.inN, V.inN, V.inNs, V.inNss, inNss_dd, inNs_map_d])
       · simp only [SubL, putSt, lk, lkb, reduceCtorEq, Nat.reduceEqDiff, List.length_set, List.length_replicate]; repeat' (first | apply And.intro | rfl | trivial | (simp only [*]; done))
       rintro ⟨_ | k, a1, a2, a3⟩ h
       · simp only [laws_heldAsmS.l1] at h; exact h.none
       simp only [laws_heldAsmS.l1] at h
)
    | (with_reducible refine here_next (N0 := 10000000) ?_
       skip
       refine nexts_to (_, _, _, _) (by decide) ?_ (Nat.lt_succ_self _) h ?_
       · exact (by simp [slNL, C.inN, V.inN, V.inNs, V.inNss, inNss_dd, inNs_map_d])
       · simp only [SubL, putSt, lk, lkb, reduceCtorEq, Nat.reduceEqDiff, List.length_set, List.length_replicate]; repeat' (first | apply And.intro | rfl | trivial | (simp only [*]; done)))
    | with_reducible refine sw_seq ?_
    | with_reducible refine seqQ_ret ?_
    | with_reducible refine seqQ_exit ?_
    | ((with_reducible refine wp_ite ?_ ?_)
       all_goals (intro hc; (try (simp only [Bool.not_eq_true, Bool.not_eq_false] at hc)); simp only [hc]))
    | (with_reducible apply regW_skip
       · simp only [dstOk, Nat.reduceLT]
       · rfl
       · simp only [putSt, lk, lkb, reduceCtorEq, Nat.reduceEqDiff]; done)
    | (with_reducible apply regW_yesN
       · simp only [dstOk, Nat.reduceLT]
       · rfl
       · simp only [putSt, lk, lkb, reduceCtorEq, Nat.reduceEqDiff]; done)
    | (with_reducible apply regW_no
       · simp only [dstOk, Nat.reduceLT]
       · rfl
       · simp only [putSt, lk, lkb, reduceCtorEq, Nat.reduceEqDiff, Bool.not_true, Bool.not_false]; done)
    | (with_reducible apply regW_guardN
       · simp only [dstOk, Nat.reduceLT]
       · rfl
       · simp only [putSt, lk, lkb, reduceCtorEq, Nat.reduceEqDiff]; rfl
       all_goals (intro hc; (try (simp only [Bool.not_true, Bool.not_false] at hc))))
    | (with_reducible apply sw_cond
       · simp only [putSt, lk, lkb, reduceCtorEq, Nat.reduceEqDiff]; rfl
       all_goals (intro hc; try (cases hc; done)))
    | ((first
        | ((with_reducible refine gh_ret ?_)
           revert h
           with_reducible refine some_elim ?_
           rintro rfl)
        | (with_reducible refine here_call ?_
           revert h
           with_reducible refine bind_elim ?_
           intro t ht h
           (first
             | (refine call_dataE (c_laws_heldAsmInsS ht) ?_ rfl ?_
                · first | rfl | (simp; done))
             | (refine call_dataE (c_laws_heldValSS ht) ?_ rfl ?_
                · first | rfl | (simp; done))))
        | (with_reducible apply regD_opK
           · simp only [dstOk, Nat.reduceLT]
           · simp only [Nat.reduceAdd]; rfl
           intro k hk)
        | (with_reducible apply regW_opK
           · simp only [dstOk, Nat.reduceLT]
           · simp only [Nat.reduceAdd]; rfl
           intro k hk)
        | skip)
       simp only [RetW, bn, lkb, evb, opC, opP, fetchN, fetchP, fetchAll, fetchO, Prog.bind, Prog.wp, Prog.wp_bind, lk, nameP, nameAll, Value.oneCell', putSt, stepP, putP, reduceCtorEq, V.lin, V.linL, D.lin, isNil, binP, unP, BinOp.isShift, Prog.ofO, Nat.reduceAdd, Nat.reduceMul, Nat.reduceSub, Nat.reduceLT, Nat.reduceLeDiff, Nat.reduceEqDiff, ite_true, ite_false, fieldAddrP, fieldP, indexAddrP, loadP, storeP, boxP, allocP, cellsP, asVal, setSeg, outP, outT, cntT, TyK.field, TyK.agg, zeroRow, V.ren, V.renL, forall_eq_or_imp, forall_const, minmaxP, lenP, lenOf, lenStr, V.asInt, decide_true, decide_false, sliceP, boundP, makeSliceP, convertP, appendP, rowsOfP, ontoP, sizeFits, V.rowSize, TyK.src, resV, resV.go, resV.gol, retP, retOne, retAll, resTo, objsAre, Option.map_eq_map, Function.const_apply, Int.reduceNeg, Int.reduceToNat, ty2, ty3, ty51, ty125, ty126, ty128, ty152, ty153, ty155, ty171, ty173, GAsm.cells, GAsmIns.cells, GI2.cells, GMov.cells, cI, cB, cS, cL, GI2_e, GMov_e, GAsmIns_e, GAsm_e, LGI2_e, *]
       try (refine hk.use _ _ _ _ ?_; clear hk k))
    | fail)
  all_goals (try rfl)
  all_goals (try (simp; done))
  all_goals (try (simp_all; done))
def laws_heldMixFrameS.l1 : Nat → (List GMixFrame) → Int → Int → Option ((Int) ⊕ (Int))
  | 0, _, _, _ => none
  | k + 1, a1, a2, a3 => cond ((decide (a3 < ((a1.length : Int))))) ((idx a1 a3).bind fun m1 => cond ((!(m1.asm == ((((a2.tmod 3)) == 0))))) (some (.inl ((-1)))) (cond ((m1.func0 != ((IntKind.i64.wrap (a2 + 1))))) (some (.inl ((-1)))) (cond ((m1.pc != ((IntKind.i64.wrap (((IntKind.i64.wrap (a2 + 1))) + 1))))) (some (.inl ((-1)))) ((laws_heldInt64S k m1.locals ((IntKind.i64.wrap (((IntKind.i64.wrap (((IntKind.i64.wrap (a2 + 1))) + 1))) + 1)))).bind fun t2 => cond ((decide (t2 < 0))) (some (.inl ((-1)))) ((laws_heldInt64S k m1.stack t2).bind fun t3 => cond ((decide (t3 < 0))) (some (.inl ((-1)))) ((laws_heldInt64S k m1.locs t3).bind fun t4 => cond ((decide (t4 < 0))) (some (.inl ((-1)))) (laws_heldMixFrameS.l1 k a1 t4 ((IntKind.i64.wrap (a3 + 1)))))))))) (some (.inr (a2)))

def laws_heldMixFrameS (k : Nat) (p0 : (List GMixFrame)) (p1 : Int) : Option (Int) :=
  (laws_heldMixFrameS.l1 k p0 p1 0).bind fun o1 => Sum.elim (fun o1l => some o1l) (fun o1r => some o1r) o1

theorem c_laws_heldMixFrameS {k : Nat} {p0 : (List GMixFrame)} {p1 : Int} {r : Int} (h : laws_heldMixFrameS k p0 p1 = some r) : Con Try.prog 63 [.d (.row .bor 6 (Rw (GMixFrame.cells .bor) p0)), V.int p1] [] (V.int r) [] := by
  refine con_of_sw Try.func63 rfl Try.call63 (by simp [Try.ntmps63]) (by simp [V.inNs, V.inN]) (by simp [C.inN, V.inNss, V.inNs, V.inN, inNss_dd]) (by simp [V.inNs, V.inN]) (by simp [C.inN, V.inNss, V.inNs, V.inN, inNss_dd]) rfl ?_
  rw [Try.ntmps63, Try.results63]
  unfold laws_heldMixFrameS at h
  replace h := Yes.mk h
  simp only [entryS, entryO, Nat.reduceAdd, List.length_nil, List.length_cons]
  repeat' (first
    | (with_reducible (first | refine sw_reg ?_ | refine sw_ret ?_ | refine sw_skip ?_ | refine sw_block ?_ | refine sw_exit ?_ | refine seqQ_normal ?_ | refine blockQ_normal ?_ | refine blockQ_ret ?_ | refine blockQ_this ?_ | refine blockQ_other (by decide) ?_ | refine regW_nil ?_ | refine sw_draw mixed ?_ | refine retQ_ret ?_ | refine retQ_normal ?_))
    | (with_reducible refine regD_nil ?_
       refine ⟨by kernel_rfl, ?_⟩)
    | (revert h; (first | ((with_reducible refine idx_elim ?_); intro m hm1 hm2 hm3 h; (try (simp only [Int.reduceToNat] at hm3)); (try (revert hm3; (with_reducible apply same_elim); (focus (with_reducible assumption)); rintro rfl)); (try (simp only [List.length_set, List.length_cons, List.length_nil, List.length_replicate, Nat.reduceAdd, Int.cast_ofNat_Int, Nat.zero_add, List.length_append] at hm2))) | (with_reducible refine sidx_elim ?_; intro m hm1 hm3 h) | (with_reducible refine gd_elim ?_; intro hg h; try (have hg2 := hg.2; have hg := hg.1; (try (simp only [Nat.reduceLeDiff] at hg2)); (try (revert hg2; (with_reducible refine toNat_elim hg ?_); intro hg2 hg4)); try (have hg3 := hg2.2; have hg2 := hg2.1; (try (simp only [Nat.reduceLeDiff] at hg3))))) | (with_reducible refine condt_elim ?_ ?_; (focus (with_reducible assumption)); intro h) | (with_reducible refine condf_elim ?_ ?_; (focus (with_reducible assumption)); intro h)))
    | ((first | with_reducible refine seqQ_ret (K := (fun st1 n1 => Gh st1 n1 (NextS _ 10000000 _ _ _ _))) ?_ | with_reducible refine seqQ_exit (K := (fun st1 n1 => Gh st1 n1 (NextS _ 10000000 _ _ _ _))) ?_)
       obtain rfl := h.get
       have h := hK1
       (try (simp only [Sum.elim_inl, Sum.elim_inr] at h)))
    | (with_reducible refine here_loop (c := (.seq (.seq (.region 2 _ _) _) _)) ?_
       skip
       revert h
       with_reducible refine bind_elimY ?_
       intro o1 h hK1
       refine sw_loop (ι := Nat × (List GMixFrame) × Int × Int) 10000000 (by decide) (fun x : Nat × (List GMixFrame) × Int × Int => [(.s 0, some (.v (.d (.row .bor 6 (Rw (GMixFrame.cells .bor) x.2.1))))), (.s 1, some (.v (V.int x.2.2.1))), (.s 5, some (.v (V.int x.2.2.2)))]) (fun x => x.1) (fun x => Yes (laws_heldMixFrameS.l1 x.1 x.2.1 x.2.2.1 x.2.2.2) o1) (_, _, _, _) ?_ h ?_ ?_
       · exact (by simp [slNL, C.inN, V.inN, V.inNs, V.inNss, inNss_dd, inNs_map_d])
       · simp only [SubL, putSt, lk, lkb, reduceCtorEq, Nat.reduceEqDiff, List.length_set, List.length_replicate]; repeat' (first | apply And.intro | rfl | trivial | (simp only [*]; done))
       rintro ⟨_ | k, a1, a2, a3⟩ h
       · simp only [laws_heldMixFrameS.l1] at h; exact h.none
       simp only [laws_heldMixFrameS.l1] at h
)
    | (with_reducible refine here_next (N0 := 10000000) ?_
       skip
       refine nexts_to (_, _, _, _) (by decide) ?_ (Nat.lt_succ_self _) h ?_
       · exact (by simp [slNL, C.inN, V.inN, V.inNs, V.inNss, inNss_dd, inNs_map_d])
       · simp only [SubL, putSt, lk, lkb, reduceCtorEq, Nat.reduceEqDiff, List.length_set, List.length_replicate]; repeat' (first | apply And.intro | rfl | trivial | (simp only [*]; done)))
    | with_reducible refine sw_seq ?_
    | with_reducible refine seqQ_ret ?_
    | with_reducible refine seqQ_exit ?_
    | ((with_reducible refine wp_ite ?_ ?_)
       all_goals (intro hc; (try (simp only [Bool.not_eq_true, Bool.not_eq_false] at hc)); simp only [hc]))
    | (with_reducible apply regW_skip
       · simp only [dstOk, Nat.reduceLT]
       · rfl
       · simp only [putSt, lk, lkb, reduceCtorEq, Nat.reduceEqDiff]; done)
    | (with_reducible apply regW_yesN
       · simp only [dstOk, Nat.reduceLT]
       · rfl
       · simp only [putSt, lk, lkb, reduceCtorEq, Nat.reduceEqDiff]; done)
    | (with_reducible apply regW_no
       · simp only [dstOk, Nat.reduceLT]
       · rfl
       · simp only [putSt, lk, lkb, reduceCtorEq, Nat.reduceEqDiff, Bool.not_true, Bool.not_false]; done)
    | (with_reducible apply regW_guardN
       · simp only [dstOk, Nat.reduceLT]
       · rfl
       · simp only [putSt, lk, lkb, reduceCtorEq, Nat.reduceEqDiff]; rfl
       all_goals (intro hc; (try (simp only [Bool.not_true, Bool.not_false] at hc))))
    | (with_reducible apply sw_cond
       · simp only [putSt, lk, lkb, reduceCtorEq, Nat.reduceEqDiff]; rfl
       all_goals (intro hc; try (cases hc; done)))
    | ((first
        | ((with_reducible refine gh_ret ?_)
           revert h
           with_reducible refine some_elim ?_
           rintro rfl)
        | (with_reducible refine here_call ?_
           revert h
           with_reducible refine bind_elim ?_
           intro t ht h
           (first
             | (refine call_dataE (c_laws_heldInt64S ht) ?_ rfl ?_
                · first | rfl | (simp; done))))
        | (with_reducible apply regD_opK
           · simp only [dstOk, Nat.reduceLT]
           · simp only [Nat.reduceAdd]; rfl
           intro k hk)
        | (with_reducible apply regW_opK
           · simp only [dstOk, Nat.reduceLT]
           · simp only [Nat.reduceAdd]; rfl
           intro k hk)
        | skip)
       simp only [RetW, bn, lkb, evb, opC, opP, fetchN, fetchP, fetchAll, fetchO, Prog.bind, Prog.wp, Prog.wp_bind, lk, nameP, nameAll, Value.oneCell', putSt, stepP, putP, reduceCtorEq, V.lin, V.linL, D.lin, isNil, binP, unP, BinOp.isShift, Prog.ofO, Nat.reduceAdd, Nat.reduceMul, Nat.reduceSub, Nat.reduceLT, Nat.reduceLeDiff, Nat.reduceEqDiff, ite_true, ite_false, fieldAddrP, fieldP, indexAddrP, loadP, storeP, boxP, allocP, cellsP, asVal, setSeg, outP, outT, cntT, TyK.field, TyK.agg, zeroRow, V.ren, V.renL, forall_eq_or_imp, forall_const, minmaxP, lenP, lenOf, lenStr, V.asInt, decide_true, decide_false, sliceP, boundP, makeSliceP, convertP, appendP, rowsOfP, ontoP, sizeFits, V.rowSize, TyK.src, resV, resV.go, resV.gol, retP, retOne, retAll, resTo, objsAre, Option.map_eq_map, Function.const_apply, Int.reduceNeg, Int.reduceToNat, ty2, ty3, ty4, ty5, ty26, ty52, ty89, GMixFrame.cells, cI, cB, cS, cL, GMixFrame_e, LcIi64_e, shiftBin_shl, shiftBin_shr, intBin_quo, intBin_rem, Int.reduceLT, Int.reduceEq, not_false_eq_true, Int.not_lt, *]
       try (refine hk.use _ _ _ _ ?_; clear hk k))
    | fail)
  all_goals (try rfl)
  all_goals (try (simp; done))
  all_goals (try (simp_all; done))
def laws_heldInt64SS.l1 : Nat → (List (List Int)) → Int → Int → Option ((Int) ⊕ (Int))
  | 0, _, _, _ => none
  | k + 1, a1, a2, a3 => cond ((decide (a3 < ((a1.length : Int))))) ((idx a1 a3).bind fun m1 => (laws_heldInt64S k m1 a2).bind fun t2 => cond ((decide (t2 < 0))) (some (.inl ((-1)))) (laws_heldInt64SS.l1 k a1 t2 ((IntKind.i64.wrap (a3 + 1))))) (some (.inr (a2)))

def laws_heldInt64SS (k : Nat) (p0 : (List (List Int))) (p1 : Int) : Option (Int) :=
  (laws_heldInt64SS.l1 k p0 p1 0).bind fun o1 => Sum.elim (fun o1l => some o1l) (fun o1r => some o1r) o1

theorem c_laws_heldInt64SS {k : Nat} {p0 : (List (List Int))} {p1 : Int} {r : Int} (h : laws_heldInt64SS k p0 p1 = some r) : Con Try.prog 64 [.d (.row .bor 1 (Rw (cL .bor 1 (cI .i64)) p0)), V.int p1] [] (V.int r) [] := by
  refine con_of_sw Try.func64 rfl Try.call64 (by simp [Try.ntmps64]) (by simp [V.inNs, V.inN]) (by simp [C.inN, V.inNss, V.inNs, V.inN, inNss_dd]) (by simp [V.inNs, V.inN]) (by simp [C.inN, V.inNss, V.inNs, V.inN, inNss_dd]) rfl ?_
  rw [Try.ntmps64, Try.results64]
  unfold laws_heldInt64SS at h
  replace h := Yes.mk h
  simp only [entryS, entryO, Nat.reduceAdd, List.length_nil, List.length_cons]
  repeat' (first
    | (with_reducible (first | refine sw_reg ?_ | refine sw_ret ?_ | refine sw_skip ?_ | refine sw_block ?_ | refine sw_exit ?_ | refine seqQ_normal ?_ | refine blockQ_normal ?_ | refine blockQ_ret ?_ | refine blockQ_this ?_ | refine blockQ_other (by decide) ?_ | refine regW_nil ?_ | refine sw_draw mixed ?_ | refine retQ_ret ?_ | refine retQ_normal ?_))
    | (with_reducible refine regD_nil ?_
       refine ⟨by kernel_rfl, ?_⟩)
    | (revert h; (first | ((with_reducible refine idx_elim ?_); intro m hm1 hm2 hm3 h; (try (simp only [Int.reduceToNat] at hm3)); (try (revert hm3; (with_reducible apply same_elim); (focus (with_reducible assumption)); rintro rfl)); (try (simp only [List.length_set, List.length_cons, List.length_nil, List.length_replicate, Nat.reduceAdd, Int.cast_ofNat_Int, Nat.zero_add, List.length_append] at hm2))) | (with_reducible refine sidx_elim ?_; intro m hm1 hm3 h) | (with_reducible refine gd_elim ?_; intro hg h; try (have hg2 := hg.2; have hg := hg.1; (try (simp only [Nat.reduceLeDiff] at hg2)); (try (revert hg2; (with_reducible refine toNat_elim hg ?_); intro hg2 hg4)); try (have hg3 := hg2.2; have hg2 := hg2.1; (try (simp only [Nat.reduceLeDiff] at hg3))))) | (with_reducible refine condt_elim ?_ ?_; (focus (with_reducible assumption)); intro h) | (with_reducible refine condf_elim ?_ ?_; (focus (with_reducible assumption)); intro h)))
    | ((first | with_reducible refine seqQ_ret (K := (fun st1 n1 => Gh st1 n1 (NextS _ 10000000 _ _ _ _))) ?_ | with_reducible refine seqQ_exit (K := (fun st1 n1 => Gh st1 n1 (NextS _ 10000000 _ _ _ _))) ?_)
       obtain rfl := h.get
       have h := hK1
       (try (simp only [Sum.elim_inl, Sum.elim_inr] at h)))
    | (with_reducible refine here_loop (c := (.seq (.seq (.region 2 _ _) _) _)) ?_
       skip
       revert h
       with_reducible refine bind_elimY ?_
       intro o1 h hK1
       refine sw_loop (ι := Nat × (List (List Int)) × Int × Int) 10000000 (by decide) (fun x : Nat × (List (List Int)) × Int × Int => [(.s 0, some (.v (.d (.row .bor 1 (Rw (cL .bor 1 (cI .i64)) x.2.1))))), (.s 1, some (.v (V.int x.2.2.1))), (.s 5, some (.v (V.int x.2.2.2)))]) (fun x => x.1) (fun x => Yes (laws_heldInt64SS.l1 x.1 x.2.1 x.2.2.1 x.2.2.2) o1) (_, _, _, _) ?_ h ?_ ?_
       · exact (by simp [slNL, C.inN, V.inN, V.inNs, V.inNss, inNss_dd, inNs_map_d])
       · simp only [SubL, putSt, lk, lkb, reduceCtorEq, Nat.reduceEqDiff, List.length_set, List.length_replicate]; repeat' (first | apply And.intro | rfl | trivial | (simp only [*]; done))
       rintro ⟨_ | k, a1, a2, a3⟩ h
       · simp only [laws_heldInt64SS.l1] at h; exact h.none
       simp only [laws_heldInt64SS.l1] at h
)
    | (with_reducible refine here_next (N0 := 10000000) ?_
       skip
       refine nexts_to (_, _, _, _) (by decide) ?_ (Nat.lt_succ_self _) h ?_
       · exact (by simp [slNL, C.inN, V.inN, V.inNs, V.inNss, inNss_dd, inNs_map_d])
       · simp only [SubL, putSt, lk, lkb, reduceCtorEq, Nat.reduceEqDiff, List.length_set, List.length_replicate]; repeat' (first | apply And.intro | rfl | trivial | (simp only [*]; done)))
    | with_reducible refine sw_seq ?_
    | with_reducible refine seqQ_ret ?_
    | with_reducible refine seqQ_exit ?_
    | ((with_reducible refine wp_ite ?_ ?_)
       all_goals (intro hc; (try (simp only [Bool.not_eq_true, Bool.not_eq_false] at hc)); simp only [hc]))
    | (with_reducible apply regW_skip
       · simp only [dstOk, Nat.reduceLT]
       · rfl
       · simp only [putSt, lk, lkb, reduceCtorEq, Nat.reduceEqDiff]; done)
    | (with_reducible apply regW_yesN
       · simp only [dstOk, Nat.reduceLT]
       · rfl
       · simp only [putSt, lk, lkb, reduceCtorEq, Nat.reduceEqDiff]; done)
    | (with_reducible apply regW_no
       · simp only [dstOk, Nat.reduceLT]
       · rfl
       · simp only [putSt, lk, lkb, reduceCtorEq, Nat.reduceEqDiff, Bool.not_true, Bool.not_false]; done)
    | (with_reducible apply regW_guardN
       · simp only [dstOk, Nat.reduceLT]
       · rfl
       · simp only [putSt, lk, lkb, reduceCtorEq, Nat.reduceEqDiff]; rfl
       all_goals (intro hc; (try (simp only [Bool.not_true, Bool.not_false] at hc))))
    | (with_reducible apply sw_cond
       · simp only [putSt, lk, lkb, reduceCtorEq, Nat.reduceEqDiff]; rfl
       all_goals (intro hc; try (cases hc; done)))
    | ((first
        | ((with_reducible refine gh_ret ?_)
           revert h
           with_reducible refine some_elim ?_
           rintro rfl)
        | (with_reducible refine here_call ?_
           revert h
           with_reducible refine bind_elim ?_
           intro t ht h
           (first
             | (refine call_dataE (c_laws_heldInt64S ht) ?_ rfl ?_
                · first | rfl | (simp; done))))
        | (with_reducible apply regD_opK
           · simp only [dstOk, Nat.reduceLT]
           · simp only [Nat.reduceAdd]; rfl
           intro k hk)
        | (with_reducible apply regW_opK
           · simp only [dstOk, Nat.reduceLT]
           · simp only [Nat.reduceAdd]; rfl
           intro k hk)
        | skip)
       simp only [RetW, bn, lkb, evb, opC, opP, fetchN, fetchP, fetchAll, fetchO, Prog.bind, Prog.wp, Prog.wp_bind, lk, nameP, nameAll, Value.oneCell', putSt, stepP, putP, reduceCtorEq, V.lin, V.linL, D.lin, isNil, binP, unP, BinOp.isShift, Prog.ofO, Nat.reduceAdd, Nat.reduceMul, Nat.reduceSub, Nat.reduceLT, Nat.reduceLeDiff, Nat.reduceEqDiff, ite_true, ite_false, fieldAddrP, fieldP, indexAddrP, loadP, storeP, boxP, allocP, cellsP, asVal, setSeg, outP, outT, cntT, TyK.field, TyK.agg, zeroRow, V.ren, V.renL, forall_eq_or_imp, forall_const, minmaxP, lenP, lenOf, lenStr, V.asInt, decide_true, decide_false, sliceP, boundP, makeSliceP, convertP, appendP, rowsOfP, ontoP, sizeFits, V.rowSize, TyK.src, resV, resV.go, resV.gol, retP, retOne, retAll, resTo, objsAre, Option.map_eq_map, Function.const_apply, Int.reduceNeg, Int.reduceToNat, ty2, ty3, ty26, ty53, cI, cB, cS, cL, LcIi64_e, *]
       try (refine hk.use _ _ _ _ ?_; clear hk k))
    | fail)
  all_goals (try rfl)
  all_goals (try (simp; done))
  all_goals (try (simp_all; done))
def laws_heldMixed (k : Nat) (p0 : GMixed) (p1 : Int) : Option (Int) :=
  (laws_heldAsmS k p0.code p1).bind fun t1 => cond ((decide (t1 < 0))) (some ((-1))) ((laws_heldMixFrameS k p0.frames t1).bind fun t2 => cond ((decide (t2 < 0))) (some ((-1))) ((laws_heldInt64SS k p0.heap t2).bind fun t3 => cond ((decide (t3 < 0))) (some ((-1))) ((laws_heldInt64S k p0.out t3).bind fun t4 => cond ((decide (t4 < 0))) (some ((-1))) (some t4))))

theorem c_laws_heldMixed {k : Nat} {p0 : GMixed} {p1 : Int} {r : Int} (h : laws_heldMixed k p0 p1 = some r) : Con Try.prog 34 [.agg [.d (.row .bor 3 (Rw (GAsm.cells .bor) p0.code)), .d (.row .bor 6 (Rw (GMixFrame.cells .bor) p0.frames)), .d (.row .bor 1 (Rw (cL .bor 1 (cI .i64)) p0.heap)), .d (.row .bor 1 (Rw (cI .i64) p0.out)), V.int p0.fuel0, V.bool p0.done, V.int p0.value, V.int p0.trap], V.int p1] [] (V.int r) [] := by
  refine con_of_sw Try.func34 rfl Try.call34 (by simp [Try.ntmps34]) (by simp [V.inNs, V.inN]) (by simp [C.inN, V.inNss, V.inNs, V.inN, inNss_dd]) (by simp [V.inNs, V.inN]) (by simp [C.inN, V.inNss, V.inNs, V.inN, inNss_dd]) rfl ?_
  rw [Try.ntmps34, Try.results34]
  unfold laws_heldMixed at h
  replace h := Yes.mk h
  simp only [entryS, entryO, Nat.reduceAdd, List.length_nil, List.length_cons]
  repeat' (first
    | (with_reducible (first | refine sw_reg ?_ | refine sw_ret ?_ | refine sw_skip ?_ | refine sw_block ?_ | refine sw_exit ?_ | refine seqQ_normal ?_ | refine blockQ_normal ?_ | refine blockQ_ret ?_ | refine blockQ_this ?_ | refine blockQ_other (by decide) ?_ | refine regW_nil ?_ | refine sw_draw mixed ?_ | refine retQ_ret ?_ | refine retQ_normal ?_))
    | (with_reducible refine regD_nil ?_
       refine ⟨by kernel_rfl, ?_⟩)
    | (revert h; (first | ((with_reducible refine idx_elim ?_); intro m hm1 hm2 hm3 h; (try (simp only [Int.reduceToNat] at hm3)); (try (revert hm3; (with_reducible apply same_elim); (focus (with_reducible assumption)); rintro rfl)); (try (simp only [List.length_set, List.length_cons, List.length_nil, List.length_replicate, Nat.reduceAdd, Int.cast_ofNat_Int, Nat.zero_add, List.length_append] at hm2))) | (with_reducible refine sidx_elim ?_; intro m hm1 hm3 h) | (with_reducible refine gd_elim ?_; intro hg h; try (have hg2 := hg.2; have hg := hg.1; (try (simp only [Nat.reduceLeDiff] at hg2)); (try (revert hg2; (with_reducible refine toNat_elim hg ?_); intro hg2 hg4)); try (have hg3 := hg2.2; have hg2 := hg2.1; (try (simp only [Nat.reduceLeDiff] at hg3))))) | (with_reducible refine condt_elim ?_ ?_; (focus (with_reducible assumption)); intro h) | (with_reducible refine condf_elim ?_ ?_; (focus (with_reducible assumption)); intro h)))
    | with_reducible refine sw_seq ?_
    | with_reducible refine seqQ_ret ?_
    | with_reducible refine seqQ_exit ?_
    | ((with_reducible refine wp_ite ?_ ?_)
       all_goals (intro hc; (try (simp only [Bool.not_eq_true, Bool.not_eq_false] at hc)); simp only [hc]))
    | (with_reducible apply regW_skip
       · simp only [dstOk, Nat.reduceLT]
       · rfl
       · simp only [putSt, lk, lkb, reduceCtorEq, Nat.reduceEqDiff]; done)
    | (with_reducible apply regW_yesN
       · simp only [dstOk, Nat.reduceLT]
       · rfl
       · simp only [putSt, lk, lkb, reduceCtorEq, Nat.reduceEqDiff]; done)
    | (with_reducible apply regW_no
       · simp only [dstOk, Nat.reduceLT]
       · rfl
       · simp only [putSt, lk, lkb, reduceCtorEq, Nat.reduceEqDiff, Bool.not_true, Bool.not_false]; done)
    | (with_reducible apply regW_guardN
       · simp only [dstOk, Nat.reduceLT]
       · rfl
       · simp only [putSt, lk, lkb, reduceCtorEq, Nat.reduceEqDiff]; rfl
       all_goals (intro hc; (try (simp only [Bool.not_true, Bool.not_false] at hc))))
    | (with_reducible apply sw_cond
       · simp only [putSt, lk, lkb, reduceCtorEq, Nat.reduceEqDiff]; rfl
       all_goals (intro hc; try (cases hc; done)))
    | ((first
        | ((with_reducible refine gh_ret ?_)
           revert h
           with_reducible refine some_elim ?_
           rintro rfl)
        | (with_reducible refine here_call ?_
           revert h
           with_reducible refine bind_elim ?_
           intro t ht h
           (first
             | (refine call_dataE (c_laws_heldInt64S ht) ?_ rfl ?_
                · first | rfl | (simp; done))
             | (refine call_dataE (c_laws_heldAsmS ht) ?_ rfl ?_
                · first | rfl | (simp; done))
             | (refine call_dataE (c_laws_heldMixFrameS ht) ?_ rfl ?_
                · first | rfl | (simp; done))
             | (refine call_dataE (c_laws_heldInt64SS ht) ?_ rfl ?_
                · first | rfl | (simp; done))))
        | (with_reducible apply regD_opK
           · simp only [dstOk, Nat.reduceLT]
           · simp only [Nat.reduceAdd]; rfl
           intro k hk)
        | (with_reducible apply regW_opK
           · simp only [dstOk, Nat.reduceLT]
           · simp only [Nat.reduceAdd]; rfl
           intro k hk)
        | skip)
       simp only [RetW, bn, lkb, evb, opC, opP, fetchN, fetchP, fetchAll, fetchO, Prog.bind, Prog.wp, Prog.wp_bind, lk, nameP, nameAll, Value.oneCell', putSt, stepP, putP, reduceCtorEq, V.lin, V.linL, D.lin, isNil, binP, unP, BinOp.isShift, Prog.ofO, Nat.reduceAdd, Nat.reduceMul, Nat.reduceSub, Nat.reduceLT, Nat.reduceLeDiff, Nat.reduceEqDiff, ite_true, ite_false, fieldAddrP, fieldP, indexAddrP, loadP, storeP, boxP, allocP, cellsP, asVal, setSeg, outP, outT, cntT, TyK.field, TyK.agg, zeroRow, V.ren, V.renL, forall_eq_or_imp, forall_const, minmaxP, lenP, lenOf, lenStr, V.asInt, decide_true, decide_false, sliceP, boundP, makeSliceP, convertP, appendP, rowsOfP, ontoP, sizeFits, V.rowSize, TyK.src, resV, resV.go, resV.gol, retP, retOne, retAll, resTo, objsAre, Option.map_eq_map, Function.const_apply, Int.reduceNeg, Int.reduceToNat, ty2, ty3, ty4, ty26, ty51, ty52, ty53, ty55, ty89, ty125, ty126, ty128, ty152, ty153, ty155, ty171, ty173, GAsm.cells, GAsmIns.cells, GI2.cells, GMixFrame.cells, GMixed.cells, GMov.cells, cI, cB, cS, cL, GI2_e, GMov_e, GAsmIns_e, GAsm_e, GMixFrame_e, GMixed_e, LcIi64_e, LGI2_e, *]
       try (refine hk.use _ _ _ _ ?_; clear hk k))
    | fail)
  all_goals (try rfl)
  all_goals (try (simp; done))
  all_goals (try (simp_all; done))
def laws_FnExactMixBegin.a1 (k : Nat) (a1 : (List GFunc)) (a2 : GMixed) (a3 : GMixed) (a4 : Int) (a5 : (List Int)) (a6 : Int) (a7 : Int) : Option ((Bool) ⊕ ((List GFunc) × GMixed × GMixed × Int × (List Int) × Int)) :=
  cond ((decide (a7 < 0))) (some (.inl (false))) ((laws_eqMixed k a3 a2).bind fun t15 => cond ((!t15)) (some (.inl (false))) (some (.inr (a1, a2, a3, a4, a5, a6))))

def laws_FnExactMixBegin (k : Nat) (p0 : GProgram) (p1 : Int) (p2 : (List Int)) (p3 : Int) : Option (Bool) :=
  cond ((decide (((p2.length : Int)) > 1048576))) (some true) ((laws_szProgram k p0 1048576).bind fun t1 => cond ((decide (t1 < 0))) (some true) ((laws_toProgram k p0).bind fun t2 => (laws_toInt64S k p2).bind fun t3 => (spec_MixBegin k t2 p1 t3 p3).bind fun t4 => (laws_toProgram k p0).bind fun t5 => (laws_toInt64S k p2).bind fun t6 => (impl_MixBegin k t5 p1 t6 p3).bind fun t7 => (laws_eqMixed k t7 t4).bind fun t8 => cond ((!t8)) (some false) ((laws_toProgram k p0).bind fun t9 => (laws_eqProgram k t5 t9).bind fun t10 => cond ((!t10)) (some false) ((laws_toInt64S k p2).bind fun t11 => (laws_eqInt64S k t6 t11).bind fun t12 => cond ((!t12)) (some false) ((laws_markProgram k t5 1).bind fun t13 => gd (t13.2.length = t5.funcs.length) ((laws_markInt64S k t6 t13.1).bind fun t14 => gd (t14.2.length = t6.length) ((laws_FnExactMixBegin.a1 k p0.funcs t4 t7 p1 p2 p3 t14.1).bind fun o1 => Sum.elim (fun o1l => some o1l) (fun o1r => (laws_markMixed k o1r.2.2.1 1).bind fun t16 => gd (t16.2.1.length = o1r.2.2.1.code.length) (gd (t16.2.2.1.length = o1r.2.2.1.frames.length) (gd (t16.2.2.2.1.length = o1r.2.2.1.heap.length) (gd (t16.2.2.2.2.length = o1r.2.2.1.out.length) ((laws_heldMixed k ((⟨t16.2.1, t16.2.2.1, t16.2.2.2.1, t16.2.2.2.2, o1r.2.2.1.fuel0, o1r.2.2.1.done, o1r.2.2.1.value, o1r.2.2.1.trap⟩ : GMixed)) 1).bind fun t17 => cond ((decide (t17 < 0))) (some false) (cond ((t17 != t16.1)) (some false) ((laws_toProgram k ((⟨o1r.1⟩ : GProgram))).bind fun t18 => (laws_toInt64S k o1r.2.2.2.2.1).bind fun t19 => (impl_MixBegin k t18 o1r.2.2.2.1 t19 o1r.2.2.2.2.2).bind fun t20 => (laws_eqMixed k t20 o1r.2.1).bind fun t21 => cond ((!t21)) (some false) ((laws_heldMixed k ((⟨t16.2.1, t16.2.2.1, t16.2.2.2.1, t16.2.2.2.2, o1r.2.2.1.fuel0, o1r.2.2.1.done, o1r.2.2.1.value, o1r.2.2.1.trap⟩ : GMixed)) 1).bind fun t22 => cond ((decide (t22 < 0))) (some false) (cond ((t22 != t16.1)) (some false) (some true)))))))))) o1)))))))

theorem c_laws_FnExactMixBegin {k : Nat} {p0 : GProgram} {p1 : Int} {p2 : (List Int)} {p3 : Int} {r : Bool} (h : laws_FnExactMixBegin k p0 p1 p2 p3 = some r) : Con Try.prog 8 [.agg [.d (.row .bor 3 (Rw (GFunc.cells .bor) p0.funcs))], V.int p1, .d (.row .bor 1 (Rw (cI .i64) p2)), V.int p3] [] (V.bool r) [] := by
  refine con_of_sw Try.func8 rfl Try.call8 (by simp [Try.ntmps8]) (by simp [V.inNs, V.inN]) (by simp [C.inN, V.inNss, V.inNs, V.inN, inNss_dd]) (by simp [V.inNs, V.inN]) (by simp [C.inN, V.inNss, V.inNs, V.inN, inNss_dd]) rfl ?_
  rw [Try.ntmps8, Try.results8]
  unfold laws_FnExactMixBegin at h
  replace h := Yes.mk h
  simp only [entryS, entryO, Nat.reduceAdd, List.length_nil, List.length_cons]
  repeat' (first
    | (with_reducible (first | refine sw_reg ?_ | refine sw_ret ?_ | refine sw_skip ?_ | refine sw_block ?_ | refine sw_exit ?_ | refine seqQ_normal ?_ | refine blockQ_normal ?_ | refine blockQ_ret ?_ | refine blockQ_this ?_ | refine blockQ_other (by decide) ?_ | refine regW_nil ?_ | refine sw_draw mixed ?_ | refine retQ_ret ?_ | refine retQ_normal ?_))
    | (with_reducible refine regD_nil ?_
       refine ⟨by kernel_rfl, ?_⟩)
    | (revert h; (first | ((with_reducible refine idx_elim ?_); intro m hm1 hm2 hm3 h; (try (simp only [Int.reduceToNat] at hm3)); (try (revert hm3; (with_reducible apply same_elim); (focus (with_reducible assumption)); rintro rfl)); (try (simp only [List.length_set, List.length_cons, List.length_nil, List.length_replicate, Nat.reduceAdd, Int.cast_ofNat_Int, Nat.zero_add, List.length_append] at hm2))) | (with_reducible refine sidx_elim ?_; intro m hm1 hm3 h) | (with_reducible refine gd_elim ?_; intro hg h; try (have hg2 := hg.2; have hg := hg.1; (try (simp only [Nat.reduceLeDiff] at hg2)); (try (revert hg2; (with_reducible refine toNat_elim hg ?_); intro hg2 hg4)); try (have hg3 := hg2.2; have hg2 := hg2.1; (try (simp only [Nat.reduceLeDiff] at hg3))))) | (with_reducible refine condt_elim ?_ ?_; (focus (with_reducible assumption)); intro h) | (with_reducible refine condf_elim ?_ ?_; (focus (with_reducible assumption)); intro h)))
    | ((first | with_reducible refine seqQ_ret (K := (fun st1 n1 => Gh st1 n1 (MeetA _ 10000000 _ _))) ?_ | with_reducible refine seqQ_exit (K := (fun st1 n1 => Gh st1 n1 (MeetA _ 10000000 _ _))) ?_)
       obtain rfl := h.get
       have h := hK1
       (try (simp only [Sum.elim_inl, Sum.elim_inr] at h)))
    | (with_reducible refine here_join (a := (.seq (.region 20 _ _) _)) (b := (.seq (.region 22 _ _) _)) ?_
       skip
       revert h
       with_reducible refine bind_elimY ?_
       intro o1 h hK1
       unfold laws_FnExactMixBegin.a1 at h
       refine sw_join (ι := (List GFunc) × GMixed × GMixed × Int × (List Int) × Int) 10000000 (fun x : (List GFunc) × GMixed × GMixed × Int × (List Int) × Int => [(.s 1, some (.v (V.int x.2.2.2.1))), (.s 2, some (.v (.d (.row .bor 1 (Rw (cI .i64) x.2.2.2.2.1))))), (.s 3, some (.v (V.int x.2.2.2.2.2))), (.s 4, some (.v (.mp 0 1 0 0))), (.s 10, some (.v (.mp 1216 8 0 0))), (.s 13, some (.v (.mp 2112 8 0 0))), (.r 0, some (.o 1 [[.d (.row .bor 3 (Rw (GFunc.cells .bor) x.1))]])), (.r 1216, some (.o 8 [[.d (.row .own 3 (Rw (GAsm.cells .own) x.2.1.code)), .d (.row .own 6 (Rw (GMixFrame.cells .own) x.2.1.frames)), .d (.row .own 1 (Rw (cL .own 1 (cI .i64)) x.2.1.heap)), .d (.row .own 1 (Rw (cI .i64) x.2.1.out)), V.int x.2.1.fuel0, V.bool x.2.1.done, V.int x.2.1.value, V.int x.2.1.trap]])), (.r 2112, some (.o 8 [[.d (.row .own 3 (Rw (GAsm.cells .own) x.2.2.1.code)), .d (.row .own 6 (Rw (GMixFrame.cells .own) x.2.2.1.frames)), .d (.row .own 1 (Rw (cL .own 1 (cI .i64)) x.2.2.1.heap)), .d (.row .own 1 (Rw (cI .i64) x.2.2.1.out)), V.int x.2.2.1.fuel0, V.bool x.2.2.1.done, V.int x.2.2.1.value, V.int x.2.2.1.trap]]))]) (fun x => Yes (some (.inr x)) o1) ?_ ?_
       rotate_left
       rintro ⟨b1, b2, b3, b4, b5, b6⟩ h
       obtain rfl := h.get
       have h := hK1
       (try (simp only [Sum.elim_inl, Sum.elim_inr] at h))
       refine sw_gh ?_
       refine gh_sw ?_
       skip)
    | (with_reducible refine here_meet (N0 := 10000000) ?_
       skip
       (try (apply gh_resObj 1216; (focus (simp only [putSt, lk, lkb, reduceCtorEq, Nat.reduceEqDiff]; try rfl)); simp only [rxb, Nat.reduceAdd, Nat.reduceLeDiff, resSlotP, nameSlotP, Prog.wp, Prog.wp_bind, Prog.bind, Prog.ofO, putSt, lk, lkb, reduceCtorEq, Nat.reduceEqDiff, resV, resV.go, resV.gol, nameAll, nameP, outP, outT, cntT, V.lin, D.lin, *, mmb, GI2_Dset, GFunc_Dset, GProgram_Dset, GMov_Dset, GAsmIns_Dset, GAsm_Dset, GMixFrame_Dset, GMixed_Dset, LcIi64_Dset, LGI2_Dset]))
       (try (apply gh_resObj 2112; (focus (simp only [putSt, lk, lkb, reduceCtorEq, Nat.reduceEqDiff]; try rfl)); simp only [rxb, Nat.reduceAdd, Nat.reduceLeDiff, resSlotP, nameSlotP, Prog.wp, Prog.wp_bind, Prog.bind, Prog.ofO, putSt, lk, lkb, reduceCtorEq, Nat.reduceEqDiff, resV, resV.go, resV.gol, nameAll, nameP, outP, outT, cntT, V.lin, D.lin, *, mmb, GI2_Dset, GFunc_Dset, GProgram_Dset, GMov_Dset, GAsmIns_Dset, GAsm_Dset, GMixFrame_Dset, GMixed_Dset, LcIi64_Dset, LGI2_Dset]))
       refine meet_to (_, _, _, _, _, _) (by decide) ?_ h ?_
       · exact (by simp [slNL, C.inN, V.inN, V.inNs, V.inNss, inNss_dd, inNs_map_d])
       · simp only [SubL, putSt, lk, lkb, reduceCtorEq, Nat.reduceEqDiff, List.length_set, List.length_replicate]; repeat' (first | apply And.intro | rfl | trivial | (simp only [*]; done)))
    | with_reducible refine sw_seq ?_
    | with_reducible refine seqQ_ret ?_
    | with_reducible refine seqQ_exit ?_
    | ((with_reducible refine wp_ite ?_ ?_)
       all_goals (intro hc; (try (simp only [Bool.not_eq_true, Bool.not_eq_false] at hc)); simp only [hc]))
    | (with_reducible apply regW_skip
       · simp only [dstOk, Nat.reduceLT]
       · rfl
       · simp only [putSt, lk, lkb, reduceCtorEq, Nat.reduceEqDiff]; done)
    | (with_reducible apply regW_yesN
       · simp only [dstOk, Nat.reduceLT]
       · rfl
       · simp only [putSt, lk, lkb, reduceCtorEq, Nat.reduceEqDiff]; done)
    | (with_reducible apply regW_no
       · simp only [dstOk, Nat.reduceLT]
       · rfl
       · simp only [putSt, lk, lkb, reduceCtorEq, Nat.reduceEqDiff, Bool.not_true, Bool.not_false]; done)
    | (with_reducible apply regW_guardN
       · simp only [dstOk, Nat.reduceLT]
       · rfl
       · simp only [putSt, lk, lkb, reduceCtorEq, Nat.reduceEqDiff]; rfl
       all_goals (intro hc; (try (simp only [Bool.not_true, Bool.not_false] at hc))))
    | (with_reducible apply sw_cond
       · simp only [putSt, lk, lkb, reduceCtorEq, Nat.reduceEqDiff]; rfl
       all_goals (intro hc; try (cases hc; done)))
    | ((first
        | ((with_reducible refine gh_ret ?_)
           revert h
           with_reducible refine some_elim ?_
           rintro rfl)
        | (with_reducible refine here_call ?_
           revert h
           with_reducible refine bind_elim ?_
           intro t ht h
           (first
             | (refine call_dataE (c_laws_szProgram ht) ?_ rfl ?_
                · first | rfl | (simp; done))
             | (refine call_dataE (c_laws_toProgram ht) ?_ rfl ?_
                · first | rfl | (simp; done))
             | (refine call_autoE (c_laws_eqInt64S ht) ?_ ?_ ?_
                · simp only [hyb, lendAL, lendA, undd.unddR, D.lendL, D.lend, Md.lend, GI2_lend, GFunc_lend, GProgram_lend, GMov_lend, GAsmIns_lend, GAsm_lend, GMixFrame_lend, GMixed_lend, LcIi64_lend, LGI2_lend, List.take_of_length_le, putSt, lk, lkb, reduceCtorEq, Nat.reduceEqDiff, *]; first | rfl | done
                · first | rfl | (simp only [V.nb, V.nbL, D.nb, D.nbL, Md.nb, nbb, GI2_nb, GFunc_nb, GProgram_nb, GMov_nb, GAsmIns_nb, GAsm_nb, GMixFrame_nb, GMixed_nb, LcIi64_nb, LGI2_nb]; done)
                simp only [V.namesOf, V.namesOfL, List.foldl_cons, List.foldl_nil, List.nil_append, List.append_nil, List.cons_append])
             | (refine call_autoE (c_laws_eqProgram ht) ?_ ?_ ?_
                · simp only [hyb, lendAL, lendA, undd.unddR, D.lendL, D.lend, Md.lend, GI2_lend, GFunc_lend, GProgram_lend, GMov_lend, GAsmIns_lend, GAsm_lend, GMixFrame_lend, GMixed_lend, LcIi64_lend, LGI2_lend, List.take_of_length_le, putSt, lk, lkb, reduceCtorEq, Nat.reduceEqDiff, *]; first | rfl | done
                · first | rfl | (simp only [V.nb, V.nbL, D.nb, D.nbL, Md.nb, nbb, GI2_nb, GFunc_nb, GProgram_nb, GMov_nb, GAsmIns_nb, GAsm_nb, GMixFrame_nb, GMixed_nb, LcIi64_nb, LGI2_nb]; done)
                simp only [V.namesOf, V.namesOfL, List.foldl_cons, List.foldl_nil, List.nil_append, List.append_nil, List.cons_append])
             | (refine call_obj [1408] (c_laws_markProgram ht) (by decide) ?_ ?_
                · first | exact .inl rfl | (refine .inr ⟨?_, ?_⟩; (focus (first | rfl | (simp only [V.nb, V.nbL, D.nb, D.nbL, Md.nb, nbb, GI2_nb, GFunc_nb, GProgram_nb, GMov_nb, GAsmIns_nb, GAsm_nb, GMixFrame_nb, GMixed_nb, LcIi64_nb, LGI2_nb]; done))); (focus (simp [C.nb, V.nbLL, V.nbL, V.nb, D.nb]; done)))
                simp only [argsP, argP, V.namesOf, V.namesOfL, List.mem_append, List.append_nil, List.mem_cons, or_false, or_true, true_or, objsP, C.ren, V.ren, V.renL, renLL_dd, V.renLL, List.getD_cons_zero, List.getD_cons_succ, C.o.injEq, hyb, lendAL, lendA, undd.unddR, D.lendL, D.lend, Md.lend, GI2_lend, GFunc_lend, GProgram_lend, GMov_lend, GAsmIns_lend, GAsm_lend, GMixFrame_lend, GMixed_lend, LcIi64_lend, LGI2_lend, putSt, lk, lkb, reduceCtorEq, Nat.reduceEqDiff, Prog.wp, Prog.wp_bind, Prog.bind, Prog.ofO, List.take_of_length_le, *])
             | (refine call_obj [1664] (c_laws_markInt64S ht) (by decide) ?_ ?_
                · first | exact .inl rfl | (refine .inr ⟨?_, ?_⟩; (focus (first | rfl | (simp only [V.nb, V.nbL, D.nb, D.nbL, Md.nb, nbb, GI2_nb, GFunc_nb, GProgram_nb, GMov_nb, GAsmIns_nb, GAsm_nb, GMixFrame_nb, GMixed_nb, LcIi64_nb, LGI2_nb]; done))); (focus (simp [C.nb, V.nbLL, V.nbL, V.nb, D.nb]; done)))
                simp only [argsP, argP, V.namesOf, V.namesOfL, List.mem_append, List.append_nil, List.mem_cons, or_false, or_true, true_or, objsP, C.ren, V.ren, V.renL, renLL_dd, V.renLL, List.getD_cons_zero, List.getD_cons_succ, C.o.injEq, hyb, lendAL, lendA, undd.unddR, D.lendL, D.lend, Md.lend, GI2_lend, GFunc_lend, GProgram_lend, GMov_lend, GAsmIns_lend, GAsm_lend, GMixFrame_lend, GMixed_lend, LcIi64_lend, LGI2_lend, putSt, lk, lkb, reduceCtorEq, Nat.reduceEqDiff, Prog.wp, Prog.wp_bind, Prog.bind, Prog.ofO, List.take_of_length_le, *])
             | (refine call_autoE (c_spec_MixBegin ht) ?_ ?_ ?_
                · simp only [hyb, lendAL, lendA, undd.unddR, D.lendL, D.lend, Md.lend, GI2_lend, GFunc_lend, GProgram_lend, GMov_lend, GAsmIns_lend, GAsm_lend, GMixFrame_lend, GMixed_lend, LcIi64_lend, LGI2_lend, List.take_of_length_le, putSt, lk, lkb, reduceCtorEq, Nat.reduceEqDiff, *]; first | rfl | done
                · first | rfl | (simp only [V.nb, V.nbL, D.nb, D.nbL, Md.nb, nbb, GI2_nb, GFunc_nb, GProgram_nb, GMov_nb, GAsmIns_nb, GAsm_nb, GMixFrame_nb, GMixed_nb, LcIi64_nb, LGI2_nb]; done)
                simp only [V.namesOf, V.namesOfL, List.foldl_cons, List.foldl_nil, List.nil_append, List.append_nil, List.cons_append])
             | (refine call_dataE (c_laws_toInt64S ht) ?_ rfl ?_
                · first | rfl | (simp; done))
             | (refine call_autoE (c_impl_MixBegin ht) ?_ ?_ ?_
                · simp only [hyb, lendAL, lendA, undd.unddR, D.lendL, D.lend, Md.lend, GI2_lend, GFunc_lend, GProgram_lend, GMov_lend, GAsmIns_lend, GAsm_lend, GMixFrame_lend, GMixed_lend, LcIi64_lend, LGI2_lend, List.take_of_length_le, putSt, lk, lkb, reduceCtorEq, Nat.reduceEqDiff, *]; first | rfl | done
                · first | rfl | (simp only [V.nb, V.nbL, D.nb, D.nbL, Md.nb, nbb, GI2_nb, GFunc_nb, GProgram_nb, GMov_nb, GAsmIns_nb, GAsm_nb, GMixFrame_nb, GMixed_nb, LcIi64_nb, LGI2_nb]; done)
                simp only [V.namesOf, V.namesOfL, List.foldl_cons, List.foldl_nil, List.nil_append, List.append_nil, List.cons_append])
             | (refine call_autoE (c_laws_eqMixed ht) ?_ ?_ ?_
                · simp only [hyb, lendAL, lendA, undd.unddR, D.lendL, D.lend, Md.lend, GI2_lend, GFunc_lend, GProgram_lend, GMov_lend, GAsmIns_lend, GAsm_lend, GMixFrame_lend, GMixed_lend, LcIi64_lend, LGI2_lend, List.take_of_length_le, putSt, lk, lkb, reduceCtorEq, Nat.reduceEqDiff, *]; first | rfl | done
                · first | rfl | (simp only [V.nb, V.nbL, D.nb, D.nbL, Md.nb, nbb, GI2_nb, GFunc_nb, GProgram_nb, GMov_nb, GAsmIns_nb, GAsm_nb, GMixFrame_nb, GMixed_nb, LcIi64_nb, LGI2_nb]; done)
                simp only [V.namesOf, V.namesOfL, List.foldl_cons, List.foldl_nil, List.nil_append, List.append_nil, List.cons_append])
             | (refine call_obj [10000064, 10000065, 10000066, 10000067] (c_laws_markMixed ht) (by decide) ?_ ?_
                · first | exact .inl rfl | (refine .inr ⟨?_, ?_⟩; (focus (first | rfl | (simp only [V.nb, V.nbL, D.nb, D.nbL, Md.nb, nbb, GI2_nb, GFunc_nb, GProgram_nb, GMov_nb, GAsmIns_nb, GAsm_nb, GMixFrame_nb, GMixed_nb, LcIi64_nb, LGI2_nb]; done))); (focus (simp [C.nb, V.nbLL, V.nbL, V.nb, D.nb]; done)))
                simp only [argsP, argP, V.namesOf, V.namesOfL, List.mem_append, List.append_nil, List.mem_cons, or_false, or_true, true_or, objsP, C.ren, V.ren, V.renL, renLL_dd, V.renLL, List.getD_cons_zero, List.getD_cons_succ, C.o.injEq, hyb, lendAL, lendA, undd.unddR, D.lendL, D.lend, Md.lend, GI2_lend, GFunc_lend, GProgram_lend, GMov_lend, GAsmIns_lend, GAsm_lend, GMixFrame_lend, GMixed_lend, LcIi64_lend, LGI2_lend, putSt, lk, lkb, reduceCtorEq, Nat.reduceEqDiff, Prog.wp, Prog.wp_bind, Prog.bind, Prog.ofO, List.take_of_length_le, *])
             | (refine call_autoE (c_laws_heldMixed ht) ?_ ?_ ?_
                · simp only [hyb, lendAL, lendA, undd.unddR, D.lendL, D.lend, Md.lend, GI2_lend, GFunc_lend, GProgram_lend, GMov_lend, GAsmIns_lend, GAsm_lend, GMixFrame_lend, GMixed_lend, LcIi64_lend, LGI2_lend, List.take_of_length_le, putSt, lk, lkb, reduceCtorEq, Nat.reduceEqDiff, *]; first | rfl | done
                · first | rfl | (simp only [V.nb, V.nbL, D.nb, D.nbL, Md.nb, nbb, GI2_nb, GFunc_nb, GProgram_nb, GMov_nb, GAsmIns_nb, GAsm_nb, GMixFrame_nb, GMixed_nb, LcIi64_nb, LGI2_nb]; done)
                simp only [V.namesOf, V.namesOfL, List.foldl_cons, List.foldl_nil, List.nil_append, List.append_nil, List.cons_append])))
        | (with_reducible apply regD_opK
           · simp only [dstOk, Nat.reduceLT]
           · simp only [Nat.reduceAdd]; rfl
           intro k hk)
        | (with_reducible apply regW_opK
           · simp only [dstOk, Nat.reduceLT]
           · simp only [Nat.reduceAdd]; rfl
           intro k hk)
        | skip)
       simp only [RetW, bn, lkb, evb, opC, opP, fetchN, fetchP, fetchAll, fetchO, Prog.bind, Prog.wp, Prog.wp_bind, lk, nameP, nameAll, Value.oneCell', putSt, stepP, putP, reduceCtorEq, V.lin, V.linL, D.lin, isNil, binP, unP, BinOp.isShift, Prog.ofO, Nat.reduceAdd, Nat.reduceMul, Nat.reduceSub, Nat.reduceLT, Nat.reduceLeDiff, Nat.reduceEqDiff, ite_true, ite_false, fieldAddrP, fieldP, indexAddrP, loadP, storeP, boxP, allocP, cellsP, asVal, setSeg, outP, outT, cntT, TyK.field, TyK.agg, zeroRow, V.ren, V.renL, forall_eq_or_imp, forall_const, minmaxP, lenP, lenOf, lenStr, V.asInt, decide_true, decide_false, sliceP, boundP, makeSliceP, convertP, appendP, rowsOfP, ontoP, sizeFits, V.rowSize, TyK.src, resV, resV.go, resV.gol, retP, retOne, retAll, resTo, objsAre, Option.map_eq_map, Function.const_apply, Int.reduceNeg, Int.reduceToNat, ty2, ty3, ty4, ty22, ty24, ty26, ty28, ty30, ty51, ty52, ty53, ty55, ty63, ty65, ty89, ty101, ty103, ty107, ty125, ty126, ty128, ty152, ty153, ty155, ty159, ty171, ty173, GAsm.cells, GAsmIns.cells, GFunc.cells, GI2.cells, GMixFrame.cells, GMixed.cells, GMov.cells, GProgram.cells, cI, cB, cS, cL, GI2_e, GFunc_e, GProgram_e, GMov_e, GAsmIns_e, GAsm_e, GMixFrame_e, GMixed_e, LcIi64_e, LGI2_e, *]
       try (refine hk.use _ _ _ _ ?_; clear hk k))
    | fail)
  all_goals (try rfl)
  all_goals (try (simp; done))
  all_goals (try (simp_all; done))

end Go.Proofs.Ytdlaplgofgklnaa
namespace Go.Proofs.Ytdlaplgofgklnaa
open Go.Proofs Go.Proofs.Ytdlaplgofgklnaa.L
set_option linter.unusedVariables false
set_option linter.unusedSimpArgs false

/-- A list that is copied place by place. -/
theorem take_set_next {α : Type} {acc l : List α} {i : Nat} {m : α} (hl : acc.length = l.length) (h : acc.take i = l.take i) (hm : l[i]? = some m) : (acc.set i m).take (i + 1) = l.take (i + 1) := by
  have hi := (List.getElem?_eq_some_iff.1 hm).1
  rw [List.take_add_one, List.take_add_one, List.take_set_of_le (Nat.le_refl i), h, List.getElem?_set_self (by omega), hm]

theorem toInsS_l (l : List GI2) (hn : l.length < 4611686018427387904) : ∀ (d i : Nat) (acc : List GI2), l.length - i = d → i ≤ l.length → acc.length = l.length → acc.take i = l.take i →
    Ev (fun k => laws_toInsS.l1 k acc l (i : Int)) l := by
  intro d
  induction d with
  | zero =>
    intro i acc hd hi ha ht
    have : i = l.length := by omega
    subst this
    refine Ev.succ ?_
    simp only [laws_toInsS.l1]
    refine Ev.cf (df (by omega)) ?_
    rw [List.take_of_length_le (by omega), List.take_of_length_le (by omega)] at ht
    rw [ht]; exact Ev.pure
  | succ d ih =>
    intro i acc hd hi ha ht
    obtain ⟨m, hm⟩ := list_get (show i < l.length by omega)
    obtain ⟨m', hm'⟩ := list_get (show i < acc.length by omega)
    refine Ev.succ ?_
    simp only [laws_toInsS.l1, laws_toIns]
    refine Ev.ct (dt (by omega)) (Ev.idx hm (Ev.bind Ev.pure (Ev.idx hm' ?_)))
    rw [wrap_nat (by omega), Int.toNat_natCast]
    exact ih (i + 1) _ (by omega) (by omega) (by simpa using ha) (take_set_next ha ht hm)

theorem toInsS_ev {l : List GI2} (h : l.length * 16 ≤ 35184372088832) : Ev (fun k => laws_toInsS k l) l := by
  unfold laws_toInsS
  refine Ev.gd ⟨by omega, by omega, by omega⟩ (Ev.bind (toInsS_l l (by omega) _ 0 _ rfl (by omega) (by simp) (by simp)) Ev.pure)

theorem toFunc_ev {f : GFunc} (h : f.code.length * 16 ≤ 35184372088832) : Ev (fun k => laws_toFunc k f) f :=
  Ev.bind (toInsS_ev h) Ev.pure

theorem toFuncS_l (l : List GFunc) (hn : l.length < 4611686018427387904) (hc : ∀ f ∈ l, f.code.length * 16 ≤ 35184372088832) : ∀ (d i : Nat) (acc : List GFunc), l.length - i = d → i ≤ l.length → acc.length = l.length → acc.take i = l.take i →
    Ev (fun k => laws_toFuncS.l1 k acc l (i : Int)) l := by
  intro d
  induction d with
  | zero =>
    intro i acc hd hi ha ht
    have : i = l.length := by omega
    subst this
    refine Ev.succ ?_
    simp only [laws_toFuncS.l1]
    refine Ev.cf (df (by omega)) ?_
    rw [List.take_of_length_le (by omega), List.take_of_length_le (by omega)] at ht
    rw [ht]; exact Ev.pure
  | succ d ih =>
    intro i acc hd hi ha ht
    obtain ⟨m, hm⟩ := list_get (show i < l.length by omega)
    obtain ⟨m', hm'⟩ := list_get (show i < acc.length by omega)
    refine Ev.succ ?_
    simp only [laws_toFuncS.l1]
    refine Ev.ct (dt (by omega)) (Ev.idx hm (Ev.bind (toFunc_ev (hc m (List.mem_of_getElem? hm))) (Ev.idx hm' ?_)))
    rw [wrap_nat (by omega), Int.toNat_natCast]
    exact ih (i + 1) _ (by omega) (by omega) (by simpa using ha) (take_set_next ha ht hm)

/-- The sizes of a program that a law deals with. -/
structure Small (p : GProgram) : Prop where
  funcs : p.funcs.length ≤ 1048576
  code : ∀ f ∈ p.funcs, f.code.length ≤ 1048576

theorem toProgram_ev {p : GProgram} (h : Small p) : Ev (fun k => laws_toProgram k p) p := by
  have h1 := h.funcs
  refine Ev.bind (a := p.funcs) ?_ Ev.pure
  unfold laws_toFuncS
  refine Ev.gd ⟨by omega, by omega, by omega⟩ (Ev.bind (toFuncS_l p.funcs (by omega) (fun f hf => by have := h.code f hf; omega) _ 0 _ rfl (by omega) (by simp) (by simp)) Ev.pure)

/-! ### Sizes -/
theorem szInsS_ev (l : List GI2) (n : Int) (h0 : 0 ≤ n) (h1 : n ≤ 1048576) (h : l.length ≤ 9223372036854775807) : laws_szInsS l n = some (if n < l.length then -1 else n - l.length) := by
  unfold laws_szInsS
  rw [wrap_id (by omega) (by omega)]
  by_cases c : n < l.length
  · rw [dt (by omega), if_pos c]; rfl
  · rw [df (by omega), if_neg c]; rfl

theorem szFunc_ev (f : GFunc) (n : Int) (h0 : 0 ≤ n) (h1 : n ≤ 1048576) (h : f.code.length ≤ 9223372036854775807) : laws_szFunc f n = some (if n < f.code.length then -1 else n - f.code.length) := by
  unfold laws_szFunc
  rw [szInsS_ev _ _ h0 h1 h]
  show cond _ _ _ = _
  by_cases c : n < f.code.length
  · rw [if_pos c]; rfl
  · rw [if_neg c, df (by omega)]; rfl

theorem szFuncS_l (l : List GFunc) (hn : l.length ≤ 1048576) (hc : ∀ f ∈ l, f.code.length ≤ 9223372036854775807) : ∀ (d i : Nat) (n : Int), l.length - i = d → i ≤ l.length → 0 ≤ n → n ≤ 1048576 →
    ∃ r, Ev (fun k => laws_szFuncS.l1 k l n (i : Int)) r ∧ ((∃ x, r = .inl x ∧ x = -1) ∨ ∃ x, r = .inr x ∧ 0 ≤ x ∧ x ≤ n ∧ ∀ j f, i ≤ j → l[j]? = some f → f.code.length ≤ n) := by
  intro d
  induction d with
  | zero =>
    intro i n hd hi h0 h1
    refine ⟨.inr n, ?_, .inr ⟨n, rfl, h0, Int.le_refl _, fun j f hj hf => ?_⟩⟩
    · refine Ev.succ ?_
      simp only [laws_szFuncS.l1]
      exact Ev.cf (df (by omega)) Ev.pure
    · have := (List.getElem?_eq_some_iff.1 hf).1
      omega
  | succ d ih =>
    intro i n hd hi h0 h1
    obtain ⟨m, hm⟩ := list_get (show i < l.length by omega)
    by_cases c : n < m.code.length
    · refine ⟨.inl (-1), ?_, .inl ⟨_, rfl, rfl⟩⟩
      refine Ev.succ ?_
      simp only [laws_szFuncS.l1]
      refine Ev.ct (dt (by omega)) (Ev.idx hm ?_)
      simp only [szFunc_ev m n h0 h1 (hc m (List.mem_of_getElem? hm)), if_pos c, Option.bind_some]
      exact Ev.ct (dt (by omega)) Ev.pure
    · obtain ⟨r, hr, h⟩ := ih (i + 1) (n - m.code.length) (by omega) (by omega) (by omega) (by omega)
      refine ⟨r, ?_, ?_⟩
      · refine Ev.succ ?_
        simp only [laws_szFuncS.l1]
        refine Ev.ct (dt (by omega)) (Ev.idx hm ?_)
        simp only [szFunc_ev m n h0 h1 (hc m (List.mem_of_getElem? hm)), if_neg c, Option.bind_some]
        refine Ev.cf (df (by omega)) ?_
        rw [wrap_nat (by omega)]
        exact hr
      · rcases h with h | ⟨x, rfl, h2, h3, h4⟩
        · exact .inl h
        · refine .inr ⟨x, rfl, h2, by omega, fun j f hj hf => ?_⟩
          rcases Nat.lt_or_ge i j with hij | hij
          · have := h4 j f hij hf; omega
          · have : j = i := by omega
            subst this
            rw [hm] at hf
            cases hf
            omega

/-- A program is too large, or its sizes are small. -/
theorem szProgram_ev (p : GProgram) (hn : p.funcs.length ≤ 9223372036854775807) (hc : ∀ f ∈ p.funcs, f.code.length ≤ 9223372036854775807) :
    ∃ t, Ev (fun k => laws_szProgram k p 1048576) t ∧ (t < 0 ∨ (0 ≤ t ∧ Small p)) := by
  by_cases c : (1048576 : Int) < p.funcs.length
  · refine ⟨-1, ?_, .inl (by omega)⟩
    refine Ev.bind (a := -1) ?_ (Ev.ct (dt (by omega)) Ev.pure)
    unfold laws_szFuncS
    rw [wrap_id (by omega) (by omega)]
    exact Ev.ct (dt (by omega)) Ev.pure
  · obtain ⟨r, hr, h⟩ := szFuncS_l p.funcs (by omega) hc _ 0 (1048576 - p.funcs.length) rfl (by omega) (by omega) (by omega)
    have key : ∀ x, (r = .inl x ∨ r = .inr x) → Ev (fun k => laws_szFuncS k p.funcs 1048576) x := by
      intro x hx
      unfold laws_szFuncS
      rw [wrap_id (by omega) (by omega)]
      refine Ev.cf (df (by omega)) (Ev.bind hr ?_)
      rcases hx with rfl | rfl <;> exact Ev.pure
    rcases h with ⟨x, rfl, rfl⟩ | ⟨x, rfl, h1, h2, h3⟩
    · exact ⟨-1, Ev.bind (key _ (.inl rfl)) (Ev.ct (dt (by omega)) Ev.pure), .inl (by omega)⟩
    · refine ⟨x, Ev.bind (key _ (.inr rfl)) (Ev.cf (df (by omega)) Ev.pure), .inr ⟨h1, ⟨by omega, fun f hf => ?_⟩⟩⟩
      obtain ⟨j, hj⟩ := List.getElem?_of_mem hf
      have := h3 j f (by omega) hj
      omega

/-! ### The same -/
theorem eqInt64S_l (l : List Int) (hn : l.length < 4611686018427387904) : ∀ (d i : Nat), l.length - i = d → i ≤ l.length → Ev (fun k => laws_eqInt64S.l1 k l l (i : Int)) (.inr ()) := by
  intro d
  induction d with
  | zero =>
    intro i hd hi
    refine Ev.succ ?_
    simp only [laws_eqInt64S.l1]
    exact Ev.cf (df (by omega)) Ev.pure
  | succ d ih =>
    intro i hd hi
    obtain ⟨m, hm⟩ := list_get (show i < l.length by omega)
    refine Ev.succ ?_
    simp only [laws_eqInt64S.l1]
    refine Ev.ct (dt (by omega)) (Ev.idx hm (Ev.idx hm (Ev.cf (by simp) ?_)))
    rw [wrap_nat (by omega)]
    exact ih (i + 1) (by omega) (by omega)
theorem eqInt64S_ev (l : List Int) (hn : l.length < 4611686018427387904) : Ev (fun k => laws_eqInt64S k l l) true := by
  unfold laws_eqInt64S
  refine Ev.cf (by simp) (Ev.bind (eqInt64S_l l hn _ 0 rfl (by omega)) Ev.pure)

theorem eqIns_same (x : GI2) : laws_eqIns x x = some true := by simp [laws_eqIns]
theorem eqInsS_l (l : List GI2) (hn : l.length < 4611686018427387904) : ∀ (d i : Nat), l.length - i = d → i ≤ l.length → Ev (fun k => laws_eqInsS.l1 k l l (i : Int)) (.inr ()) := by
  intro d
  induction d with
  | zero =>
    intro i hd hi
    refine Ev.succ ?_
    simp only [laws_eqInsS.l1]
    exact Ev.cf (df (by omega)) Ev.pure
  | succ d ih =>
    intro i hd hi
    obtain ⟨m, hm⟩ := list_get (show i < l.length by omega)
    refine Ev.succ ?_
    simp only [laws_eqInsS.l1, eqIns_same]
    refine Ev.ct (dt (by omega)) (Ev.idx hm (Ev.idx hm (Ev.bind (eqIns_same m ▸ Ev.pure) (Ev.cf (by simp) ?_))))
    rw [wrap_nat (by omega)]
    exact ih (i + 1) (by omega) (by omega)
theorem eqInsS_ev (l : List GI2) (hn : l.length < 4611686018427387904) : Ev (fun k => laws_eqInsS k l l) true := by
  unfold laws_eqInsS
  refine Ev.cf (by simp) (Ev.bind (eqInsS_l l hn _ 0 rfl (by omega)) Ev.pure)
theorem eqFunc_ev (f : GFunc) (hn : f.code.length < 4611686018427387904) : Ev (fun k => laws_eqFunc k f f) true := by
  unfold laws_eqFunc
  refine Ev.cf (by simp) (Ev.cf (by simp) (Ev.bind (eqInsS_ev _ hn) (Ev.cf (by simp) Ev.pure)))
theorem eqFuncS_l (l : List GFunc) (hn : l.length < 4611686018427387904) (hc : ∀ f ∈ l, f.code.length < 4611686018427387904) : ∀ (d i : Nat), l.length - i = d → i ≤ l.length → Ev (fun k => laws_eqFuncS.l1 k l l (i : Int)) (.inr ()) := by
  intro d
  induction d with
  | zero =>
    intro i hd hi
    refine Ev.succ ?_
    simp only [laws_eqFuncS.l1]
    exact Ev.cf (df (by omega)) Ev.pure
  | succ d ih =>
    intro i hd hi
    obtain ⟨m, hm⟩ := list_get (show i < l.length by omega)
    refine Ev.succ ?_
    simp only [laws_eqFuncS.l1]
    refine Ev.ct (dt (by omega)) (Ev.idx hm (Ev.idx hm (Ev.bind (eqFunc_ev m (hc m (List.mem_of_getElem? hm))) (Ev.cf (by simp) ?_))))
    rw [wrap_nat (by omega)]
    exact ih (i + 1) (by omega) (by omega)
theorem eqProgram_ev {p : GProgram} (h : Small p) : Ev (fun k => laws_eqProgram k p p) true := by
  have h1 := h.funcs
  refine Ev.bind (a := true) ?_ (Ev.cf (by simp) Ev.pure)
  unfold laws_eqFuncS
  refine Ev.cf (by simp) (Ev.bind (eqFuncS_l p.funcs (by omega) (fun f hf => by have := h.code f hf; omega) _ 0 rfl (by omega)) Ev.pure)

/-! ### Marks -/
theorem markInsS_l : ∀ (d i : Nat) (l : List GI2) (n : Nat), l.length - i = d → i ≤ l.length → l.length ≤ 1048576 → n + 2 * d < 4611686018427387904 →
    ∃ l', Ev (fun k => laws_markInsS.l1 k l (n : Int) (i : Int)) (l', ((n + 2 * d : Nat) : Int)) ∧ l'.length = l.length := by
  intro d
  induction d with
  | zero =>
    intro i l n hd hi hl hn
    refine ⟨l, ?_, rfl⟩
    refine Ev.succ ?_
    simp only [laws_markInsS.l1]
    exact Ev.cf (df (by omega)) Ev.pure
  | succ d ih =>
    intro i l n hd hi hl hn
    obtain ⟨m, hm⟩ := list_get (show i < l.length by omega)
    obtain ⟨l', h1, h2⟩ := ih (i + 1) (l.set i ⟨n, ((n + 1 : Nat) : Int)⟩) (n + 2) (by simp; omega) (by simp; omega) (by simpa using hl) (by omega)
    refine ⟨l', ?_, by simpa using h2⟩
    refine Ev.succ ?_
    simp only [laws_markInsS.l1]
    refine Ev.ct (dt (by omega)) (Ev.idx hm ?_)
    rw [wrap_nat (show n < _ by omega), wrap_nat (show n + 1 < _ by omega), wrap_nat (show i < _ by omega), Int.toNat_natCast]
    rw [show n + 2 * (d + 1) = n + 2 + 2 * d by omega]
    exact h1
theorem markInsS_ev (l : List GI2) (n : Nat) (hl : l.length ≤ 1048576) (hn : n + 2 * l.length < 4611686018427387904) :
    ∃ l', Ev (fun k => laws_markInsS k l (n : Int)) (((n + 2 * l.length : Nat) : Int), l') ∧ l'.length = l.length := by
  obtain ⟨l', h1, h2⟩ := markInsS_l l.length 0 l n (by omega) (by omega) hl hn
  exact ⟨l', Ev.bind h1 Ev.pure, h2⟩

theorem markFuncS_l : ∀ (d i : Nat) (l : List GFunc) (n : Nat), l.length - i = d → i ≤ l.length → l.length ≤ 1048576 → (∀ j f, i ≤ j → l[j]? = some f → f.code.length ≤ 1048576) → n + 2097154 * d < 4611686018427387904 →
    ∃ l' n', Ev (fun k => laws_markFuncS.l1 k l (n : Int) (i : Int)) (l', ((n' : Nat) : Int)) ∧ l'.length = l.length ∧ n' ≤ n + 2097154 * d := by
  intro d
  induction d with
  | zero =>
    intro i l n hd hi hl hc hn
    refine ⟨l, n, ?_, rfl, by omega⟩
    refine Ev.succ ?_
    simp only [laws_markFuncS.l1]
    exact Ev.cf (df (by omega)) Ev.pure
  | succ d ih =>
    intro i l n hd hi hl hc hn
    obtain ⟨m, hm⟩ := list_get (show i < l.length by omega)
    have hmc := hc i m (Nat.le_refl _) hm
    obtain ⟨c, hc1, hc2⟩ := markInsS_ev m.code (n + 2) hmc (by omega)
    obtain ⟨l', n', h1, h2, h5⟩ := ih (i + 1) ((l.set i ⟨n, ((n + 1 : Nat) : Int), m.code⟩).set i ⟨n, ((n + 1 : Nat) : Int), c⟩) (n + 2 + 2 * m.code.length) (by simp; omega) (by simp; omega) (by simpa using hl)
      (fun j f hj hf => by
        rw [List.getElem?_set_ne (by omega), List.getElem?_set_ne (by omega)] at hf
        exact hc j f (by omega) hf) (by omega)
    refine ⟨l', n', ?_, by simpa using h2, by omega⟩
    refine Ev.succ ?_
    simp only [laws_markFuncS.l1]
    refine Ev.ct (dt (by omega)) (Ev.idx hm ?_)
    rw [wrap_nat (show n < _ by omega), wrap_nat (show n + 1 < _ by omega), wrap_nat (show i < _ by omega), Int.toNat_natCast]
    exact Ev.bind hc1 (Ev.gd hc2 h1)
theorem markProgram_b {p : GProgram} (h : Small p) : ∃ (l' : List GFunc) (n' : Nat), Ev (fun k => laws_markProgram k p 1) (((n' : Nat) : Int), l') ∧ l'.length = p.funcs.length ∧ n' ≤ 1 + 2097154 * p.funcs.length := by
  have h1 := h.funcs
  obtain ⟨l', n', h2, h3, h4⟩ := markFuncS_l p.funcs.length 0 p.funcs 1 (by omega) (by omega) h.funcs (fun j f _ hf => h.code f (List.mem_of_getElem? hf)) (by omega)
  refine ⟨l', n', ?_, h3, h4⟩
  exact Ev.bind (a := (((n' : Nat) : Int), l')) (Ev.bind h2 Ev.pure) (Ev.gd h3 Ev.pure)
theorem markInt64S_l : ∀ (d i : Nat) (l : List Int) (n : Nat), l.length - i = d → i ≤ l.length → n + l.length < 4611686018427387904 → (∀ j, j < i → l[j]? = some ((n + j : Nat) : Int)) →
    ∃ l', Ev (fun k => laws_markInt64S.l1 k l ((n + i : Nat) : Int) (i : Int)) (l', ((n + l.length : Nat) : Int)) ∧ l'.length = l.length ∧ ∀ j, j < l.length → l'[j]? = some ((n + j : Nat) : Int) := by
  intro d
  induction d with
  | zero =>
    intro i l n hd hi hn hp
    have : i = l.length := by omega
    subst this
    refine ⟨l, ?_, rfl, hp⟩
    refine Ev.succ ?_
    simp only [laws_markInt64S.l1]
    exact Ev.cf (df (by omega)) Ev.pure
  | succ d ih =>
    intro i l n hd hi hn hp
    obtain ⟨m, hm⟩ := list_get (show i < l.length by omega)
    obtain ⟨l', h1, h2, h3⟩ := ih (i + 1) (l.set i ((n + i : Nat) : Int)) n (by simp; omega) (by simp; omega) (by simpa using hn) (by
      intro j hj
      by_cases e : j = i
      · subst e; rw [List.getElem?_set_self (by omega)]
      · rw [List.getElem?_set_ne (fun h => e h.symm)]; exact hp j (by omega))
    rw [List.length_set] at h1 h2 h3
    refine ⟨l', ?_, h2, h3⟩
    refine Ev.succ ?_
    simp only [laws_markInt64S.l1]
    refine Ev.ct (dt (by omega)) (Ev.idx hm ?_)
    rw [wrap_nat (show i < _ by omega), wrap_nat (show n + i < _ by omega), Int.toNat_natCast]
    exact h1
theorem heldInt64S_l (l : List Int) (n : Nat) (hn : n + l.length < 4611686018427387904) (hp : ∀ j, j < l.length → l[j]? = some ((n + j : Nat) : Int)) : ∀ (d i : Nat), l.length - i = d → i ≤ l.length →
    Ev (fun k => laws_heldInt64S.l1 k l ((n + i : Nat) : Int) (i : Int)) (.inr ((n + l.length : Nat) : Int)) := by
  intro d
  induction d with
  | zero =>
    intro i hd hi
    have : i = l.length := by omega
    subst this
    refine Ev.succ ?_
    simp only [laws_heldInt64S.l1]
    exact Ev.cf (df (by omega)) Ev.pure
  | succ d ih =>
    intro i hd hi
    refine Ev.succ ?_
    simp only [laws_heldInt64S.l1]
    refine Ev.ct (dt (by omega)) (Ev.idx (hp i (by omega)) (Ev.cf (by simp) ?_))
    rw [wrap_nat (show i < _ by omega), wrap_nat (show n + i < _ by omega)]
    exact ih (i + 1) (by omega) (by omega)
def takesL (p : GProgram) (i : GI2) : Int :=
  if (10 ≤ i.a ∧ i.a ≤ 23) ∨ i.a = 35 then 2 else if i.a = 36 then 3 else if i.a = 32 then (if 0 ≤ i.b then match p.funcs[i.b.toNat]? with | some f => f.args | none => 0 else 0)
  else if 24 ≤ i.a ∧ i.a ≤ 29 then 1 else if i.a = 3 ∨ i.a = 4 ∨ i.a = 5 ∨ i.a = 31 ∨ i.a = 33 ∨ i.a = 34 ∨ i.a = 37 ∨ i.a = 38 then 1 else 0
def putsL (i : GI2) : Int :=
  if i.a = 4 then 2 else if i.a = 1 ∨ i.a = 2 ∨ i.a = 32 ∨ i.a = 34 ∨ i.a = 35 ∨ i.a = 37 ∨ (10 ≤ i.a ∧ i.a ≤ 29) then 1 else 0
def nextL (i : GI2) (x : Int) : List Int := if i.a = 33 then [] else if i.a = 30 then [i.b] else if i.a = 31 then [x + 1, i.b] else [x + 1]

theorem putsL_range (i : GI2) : 0 ≤ putsL i ∧ putsL i ≤ 2 := by unfold putsL; split <;> (try split) <;> omega

theorem op_cases (a : Int) : (a = 0 ∨ a = 1 ∨ a = 2 ∨ a = 3 ∨ a = 4 ∨ a = 5 ∨ a = 6 ∨ a = 7 ∨ a = 8 ∨ a = 9 ∨ a = 10 ∨ a = 11 ∨ a = 12 ∨ a = 13 ∨ a = 14 ∨ a = 15 ∨ a = 16 ∨ a = 17 ∨ a = 18 ∨ a = 19 ∨ a = 20 ∨ a = 21 ∨ a = 22 ∨ a = 23 ∨ a = 24 ∨ a = 25 ∨ a = 26 ∨ a = 27 ∨ a = 28 ∨ a = 29 ∨ a = 30 ∨ a = 31 ∨ a = 32 ∨ a = 33 ∨ a = 34 ∨ a = 35 ∨ a = 36 ∨ a = 37 ∨ a = 38) ∨ (a < 0 ∨ 38 < a) := by omega
theorem specTakes (k : Nat) (p : GProgram) (i : GI2) : spec_Takes k p i = some (takesL p i) := by
  obtain ⟨fs⟩ := p
  obtain ⟨a, b⟩ := i
  rcases op_cases a with (rfl | rfl | rfl | rfl | rfl | rfl | rfl | rfl | rfl | rfl | rfl | rfl | rfl | rfl | rfl | rfl | rfl | rfl | rfl | rfl | rfl | rfl | rfl | rfl | rfl | rfl | rfl | rfl | rfl | rfl | rfl | rfl | rfl | rfl | rfl | rfl | rfl | rfl | rfl) | h
  all_goals (try rfl)
  · unfold spec_Takes spec_Takes.a1 spec_Takes.a2 spec_l03Binary spec_l03Unary takesL
    by_cases hb : b < 0
    · simp [hb, show ¬ 0 ≤ b by omega]
    · by_cases hc : (fs.length : Int) ≤ b
      · have : fs[b.toNat]? = none := List.getElem?_eq_none (by omega)
        simp [hb, hc, show 0 ≤ b by omega, this]
      · obtain ⟨m, hm⟩ := list_get (show b.toNat < fs.length by omega)
        simp [hb, hc, show 0 ≤ b by omega, hm, idx_of]
  · have e : ∀ c : Int, 0 ≤ c → c ≤ 38 → (a == c) = false := by intro c h1 h2; simp; omega
    have e2 : ∀ c : Int, 0 ≤ c → c ≤ 38 → ¬ a = c := by intro c h1 h2; omega
    have r1 : ¬ (10 ≤ a ∧ a ≤ 23) := by omega
    have r2 : ¬ (24 ≤ a ∧ a ≤ 29) := by omega
    unfold spec_Takes spec_Takes.a1 spec_Takes.a2 spec_l03Binary spec_l03Unary takesL
    rcases h with h | h
    · simp [e, e2, show ¬ 10 ≤ a by omega, show ¬ 24 ≤ a by omega]
    · simp [e, e2, show 10 ≤ a by omega, show 24 ≤ a by omega, show ¬ a ≤ 23 by omega, show ¬ a ≤ 29 by omega]

theorem implTakes (k : Nat) (p : GProgram) (i : GI2) : impl_Takes k p i = some (takesL p i) := by
  obtain ⟨fs⟩ := p
  obtain ⟨a, b⟩ := i
  rcases op_cases a with (rfl | rfl | rfl | rfl | rfl | rfl | rfl | rfl | rfl | rfl | rfl | rfl | rfl | rfl | rfl | rfl | rfl | rfl | rfl | rfl | rfl | rfl | rfl | rfl | rfl | rfl | rfl | rfl | rfl | rfl | rfl | rfl | rfl | rfl | rfl | rfl | rfl | rfl | rfl) | h
  all_goals (try rfl)
  · unfold impl_Takes impl_Takes.a1 impl_Takes.a2 impl_isBinary impl_isUnary impl_hasFunc impl_in takesL
    by_cases hb : 0 ≤ b
    · by_cases hc : b < (fs.length : Int)
      · obtain ⟨m, hm⟩ := list_get (show b.toNat < fs.length by omega)
        simp [hb, hc, hm, idx_of]
      · have : fs[b.toNat]? = none := List.getElem?_eq_none (by omega)
        simp [hb, hc, this]
    · simp [hb]
  · have e : ∀ c : Int, 0 ≤ c → c ≤ 38 → (a == c) = false := by intro c h1 h2; simp; omega
    have e2 : ∀ c : Int, 0 ≤ c → c ≤ 38 → ¬ a = c := by intro c h1 h2; omega
    unfold impl_Takes impl_Takes.a1 impl_Takes.a2 impl_isBinary impl_isUnary impl_hasFunc impl_in takesL
    rcases h with h | h
    · simp [e, e2, show ¬ 10 ≤ a by omega, show ¬ 24 ≤ a by omega]
    · simp [e, e2, show 10 ≤ a by omega, show 24 ≤ a by omega, show ¬ a ≤ 23 by omega, show ¬ a ≤ 29 by omega]

theorem specPuts (k : Nat) (i : GI2) : spec_Puts k i = some (putsL i) := by
  obtain ⟨a, b⟩ := i
  rcases op_cases a with (rfl | rfl | rfl | rfl | rfl | rfl | rfl | rfl | rfl | rfl | rfl | rfl | rfl | rfl | rfl | rfl | rfl | rfl | rfl | rfl | rfl | rfl | rfl | rfl | rfl | rfl | rfl | rfl | rfl | rfl | rfl | rfl | rfl | rfl | rfl | rfl | rfl | rfl | rfl) | h
  all_goals (try rfl)
  have e : ∀ c : Int, 0 ≤ c → c ≤ 38 → (a == c) = false := by intro c h1 h2; simp; omega
  have e2 : ∀ c : Int, 0 ≤ c → c ≤ 38 → ¬ a = c := by intro c h1 h2; omega
  unfold spec_Puts spec_Puts.a1 spec_l03Binary spec_l03Unary putsL
  rcases h with h | h
  · simp [e, e2, show ¬ 10 ≤ a by omega, show ¬ 24 ≤ a by omega]
  · simp [e, e2, show 10 ≤ a by omega, show 24 ≤ a by omega, show ¬ a ≤ 23 by omega, show ¬ a ≤ 29 by omega]

theorem implPuts (i : GI2) : impl_Puts i = some (putsL i) := by
  obtain ⟨a, b⟩ := i
  rcases op_cases a with (rfl | rfl | rfl | rfl | rfl | rfl | rfl | rfl | rfl | rfl | rfl | rfl | rfl | rfl | rfl | rfl | rfl | rfl | rfl | rfl | rfl | rfl | rfl | rfl | rfl | rfl | rfl | rfl | rfl | rfl | rfl | rfl | rfl | rfl | rfl | rfl | rfl | rfl | rfl) | h
  all_goals (try rfl)
  have e : ∀ c : Int, 0 ≤ c → c ≤ 38 → (a == c) = false := by intro c h1 h2; simp; omega
  have e2 : ∀ c : Int, 0 ≤ c → c ≤ 38 → ¬ a = c := by intro c h1 h2; omega
  unfold impl_Puts impl_isArith impl_in putsL
  rcases h with h | h
  · simp [e, e2, show ¬ 10 ≤ a by omega]
  · simp [e, e2, show 10 ≤ a by omega, show ¬ a ≤ 29 by omega]

theorem implNext (i : GI2) (x : Nat) (h : x < 1000000) : impl_next i (x : Int) = some (nextL i x) := by
  unfold impl_next nextL
  rw [wrap_id (by omega) (by omega)]
  have e : ∀ c : Int, ¬ i.a = c → (i.a == c) = false := by intro c h1; simp; exact h1
  by_cases h1 : i.a = 33 <;> by_cases h2 : i.a = 30 <;> by_cases h3 : i.a = 31 <;> simp [h1, h2, h3, e]

theorem nextL_length (i : GI2) (x : Int) : (nextL i x).length ≤ 2 := by
  unfold nextL
  split <;> (try split) <;> (try split) <;> simp

/-! ### The clean machine -/
/-- The heights of the places to which one goes on. -/
def putN (len : Nat) (v : Int) : List Int → List Int → List Bool → Option (List Int × List Bool)
  | [], h, w => some (h, w)
  | n :: ns, h, w => if (len : Int) ≤ n then none else match h[n.toNat]? with
    | none => none
    | some x => if 0 ≤ x then (if x = v then putN len v ns h w else none) else putN len v ns (h.set n.toNat v) (w.set n.toNat true)

abbrev StepF := Nat → List Int → List Bool → Option (List Int × List Bool)
/-- .. in the program's way, and the reference's. -/
def stepI (p : GProgram) (code : List GI2) : StepF := fun x h w => match code[x]?, h[x]? with
  | some i, some y => if IntKind.i64.wrap (y - takesL p i) < 0 then none else if 8 < IntKind.i64.wrap (IntKind.i64.wrap (y - takesL p i) + putsL i) then none
      else putN code.length (IntKind.i64.wrap (IntKind.i64.wrap (y - takesL p i) + putsL i)) (nextL i x) h (w.set x false)
  | _, _ => none
def stepS (p : GProgram) (code : List GI2) : StepF := fun x h w => match code[x]?, h[x]? with
  | some i, some y => if y < takesL p i then none else if 8 < IntKind.i64.wrap (IntKind.i64.wrap (y - takesL p i) + putsL i) then none
      else putN code.length (IntKind.i64.wrap (IntKind.i64.wrap (y - takesL p i) + putsL i)) (nextL i x) h (w.set x false)
  | _, _ => none

/-- The least place that waits. -/
def Least (w : List Bool) (x : Nat) : Prop := w[x]? = some true ∧ ∀ j, j < x → w[j]? ≠ some true

inductive HRun (st : StepF) : List Int → List Bool → Option (List Int) → Prop
  | done {h : List Int} {w : List Bool} : (∀ j : Nat, w[j]? ≠ some true) → HRun st h w (some h)
  | bad {h : List Int} {w : List Bool} {x : Nat} : Least w x → st x h w = none → HRun st h w none
  | go {h h' : List Int} {w w' : List Bool} {x : Nat} {r : Option (List Int)} : Least w x → st x h w = some (h', w') → HRun st h' w' r → HRun st h w r

theorem least_or (w : List Bool) : (∀ j : Nat, w[j]? ≠ some true) ∨ ∃ x, Least w x := by
  by_cases h : ∃ j : Nat, w[j]? = some true
  · right
    obtain ⟨j, hj⟩ := h
    induction j using Nat.strongRecOn with
    | _ j ih =>
      by_cases c : ∃ i, i < j ∧ w[i]? = some true
      · obtain ⟨i, hi, hw⟩ := c
        exact ih i hi hw
      · exact ⟨j, hj, fun i hi hw => c ⟨i, hi, hw⟩⟩
  · left
    intro j hj
    exact h ⟨j, hj⟩
theorem wrap64_eq (x : Int) : IntKind.i64.wrap x = if x % 18446744073709551616 ≥ 9223372036854775808 then x % 18446744073709551616 - 18446744073709551616 else x % 18446744073709551616 := by
  simp [IntKind.wrap, IntKind.bits, IntKind.signed]

/-- What is still to come: a place that has no height, or waits. -/
def cw (N j : Nat) (x : Int) (b : Bool) : Nat := (if x < 0 then 3 * N else 0) + (if b then (if x < 0 then N - j else 3 * N) else 0)
def mz (N : Nat) : Nat → List Int → List Bool → Nat
  | j, x :: h, b :: w => cw N j x b + mz N (j + 1) h w
  | _, _, _ => 0
theorem mz_set (N : Nat) : ∀ (j : Nat) (h : List Int) (w : List Bool) (i : Nat) (x : Int) (b : Bool) (x' : Int) (b' : Bool), h[i]? = some x → w[i]? = some b → mz N j (h.set i x') (w.set i b') + cw N (j + i) x b = mz N j h w + cw N (j + i) x' b'
  | j, [], w, i, x, b, x', b', h1, h2 => by simp at h1
  | j, y :: h, [], i, x, b, x', b', h1, h2 => by simp at h2
  | j, y :: h, c :: w, 0, x, b, x', b', h1, h2 => by
    simp at h1 h2
    subst h1 h2
    simp only [List.set_cons_zero, mz, Nat.add_zero]
    omega
  | j, y :: h, c :: w, i + 1, x, b, x', b', h1, h2 => by
    simp only [List.getElem?_cons_succ] at h1 h2
    simp only [List.set_cons_succ, mz]
    have := mz_set N (j + 1) h w i x b x' b' h1 h2
    rw [show j + 1 + i = j + (i + 1) by omega] at this
    omega
theorem set_same {α : Type} {l : List α} {i : Nat} {x : α} (h : l[i]? = some x) : l.set i x = l := by
  apply List.ext_getElem?
  intro j
  by_cases e : i = j
  · subst e
    rw [List.getElem?_set_self (List.getElem?_eq_some_iff.1 h).1, h]
  · rw [List.getElem?_set_ne e]
theorem mz_setw {N : Nat} {h : List Int} {w : List Bool} {i : Nat} {x : Int} {b : Bool} (b' : Bool) (h1 : h[i]? = some x) (h2 : w[i]? = some b) : mz N 0 h (w.set i b') + cw N i x b = mz N 0 h w + cw N i x b' := by
  have := mz_set N 0 h w i x b x b' h1 h2
  rw [Nat.zero_add] at this
  rwa [set_same h1] at this

/-- What a height may be: the numbers of some set; what waits is in a smaller one. -/
structure HInv (A : Int → Prop) (W : Int → Prop) (h : List Int) (w : List Bool) : Prop where
  len : h.length = w.length
  all : ∀ (j : Nat) (x : Int), h[j]? = some x → A x
  wt : ∀ (j : Nat) (x : Int), h[j]? = some x → w[j]? = some true → W x

theorem HInv.drop {A W : Int → Prop} {h : List Int} {w : List Bool} (i : HInv A W h w) (x : Nat) : HInv A W h (w.set x false) := by
  refine ⟨by simpa using i.len, i.all, fun j y h1 h2 => ?_⟩
  by_cases e : x = j
  · subst e
    rw [List.getElem?_set_self (by have := (List.getElem?_eq_some_iff.1 h1).1; have := i.len; omega)] at h2
    cases h2
  · rw [List.getElem?_set_ne e] at h2
    exact i.wt j y h1 h2

theorem HInv.put {A W : Int → Prop} {h : List Int} {w : List Bool} (i : HInv A W h w) (x : Nat) {v : Int} (hA : A v) (hW : W v) : HInv A W (h.set x v) (w.set x true) := by
  refine ⟨by simpa using i.len, fun j y h1 => ?_, fun j y h1 h2 => ?_⟩
  · by_cases e : x = j
    · subst e
      by_cases hx : x < h.length
      · rw [List.getElem?_set_self hx] at h1; cases h1; exact hA
      · rw [List.getElem?_eq_none (by simp; omega)] at h1; cases h1
    · rw [List.getElem?_set_ne e] at h1; exact i.all j y h1
  · by_cases e : x = j
    · subst e
      by_cases hx : x < h.length
      · rw [List.getElem?_set_self hx] at h1; cases h1; exact hW
      · rw [List.getElem?_eq_none (by simp; omega)] at h1; cases h1
    · rw [List.getElem?_set_ne e] at h1 h2; exact i.wt j y h1 h2

def more (N : Nat) : List Int → Nat
  | [] => 0
  | n :: ns => (N - n.toNat) + more N ns
theorem putN_inv {A W : Int → Prop} {len : Nat} {v : Int} (N : Nat) (hA : A v) (hW : W v) : ∀ (ns : List Int) (h : List Int) (w : List Bool) (h' : List Int) (w' : List Bool), HInv A W h w → putN len v ns h w = some (h', w') →
    HInv A W h' w' ∧ h'.length = h.length ∧ mz N 0 h' w' ≤ mz N 0 h w + (if v < 0 then more N ns else 0)
  | [], h, w, h', w', hi, hp => by
    simp only [putN, Option.some.injEq, Prod.mk.injEq] at hp
    obtain ⟨rfl, rfl⟩ := hp
    exact ⟨hi, rfl, by simp⟩
  | n :: ns, h, w, h', w', hi, hp => by
    simp only [putN] at hp
    split at hp
    · cases hp
    split at hp
    · cases hp
    rename_i x hx
    split at hp
    · split at hp
      · obtain ⟨h1, h2, h3⟩ := putN_inv N hA hW ns h w h' w' hi hp
        refine ⟨h1, h2, ?_⟩
        simp only [more]
        split at h3 <;> simp_all <;> omega
      · cases hp
    · rename_i hneg
      obtain ⟨h1, h2, h3⟩ := putN_inv N hA hW ns _ _ h' w' (hi.put n.toNat hA hW) hp
      obtain ⟨b, hb⟩ := list_get (show n.toNat < w.length by have := (List.getElem?_eq_some_iff.1 hx).1; have := hi.len; omega)
      have hm := mz_set N 0 h w n.toNat x b v true hx hb
      rw [Nat.zero_add] at hm
      refine ⟨h1, by simpa using h2, ?_⟩
      have c1 : 3 * N ≤ cw N n.toNat x b := by unfold cw; rw [if_pos (by omega)]; omega
      have c2 : cw N n.toNat v true ≤ 3 * N + (if v < 0 then N - n.toNat else 0) := by unfold cw; split <;> simp
      simp only [more]
      split at h3
      · rename_i c; rw [if_pos c] at c2; rw [if_pos c]; omega
      · rename_i c; rw [if_neg c] at c2; rw [if_neg c]; omega

/-- A step keeps what heights may be, and something falls. -/
def Good (len : Nat) (A W : Int → Prop) (st : StepF) : Prop := ∀ (x : Nat) (h : List Int) (w : List Bool) (h' : List Int) (w' : List Bool), h.length = len → HInv A W h w → w[x]? = some true → st x h w = some (h', w') →
  HInv A W h' w' ∧ h'.length = h.length ∧ mz (len + 1) 0 h' w' < mz (len + 1) 0 h w

theorem run_ex {len : Nat} {A W : Int → Prop} {st : StepF} (g : Good len A W st) : ∀ (n : Nat) (h : List Int) (w : List Bool), mz (len + 1) 0 h w = n → h.length = len → HInv A W h w → ∃ r, HRun st h w r := by
  intro n
  induction n using Nat.strongRecOn with
  | _ n ih =>
    intro h w hn hl hi
    rcases least_or w with hd | ⟨x, hx⟩
    · exact ⟨_, .done hd⟩
    · cases hs : st x h w with
      | none => exact ⟨_, .bad hx hs⟩
      | some q =>
        obtain ⟨h', w'⟩ := q
        obtain ⟨h1, h2, h3⟩ := g x h w h' w' hl hi hx.1 hs
        obtain ⟨r, hr⟩ := ih _ (hn ▸ h3) h' w' rfl (h2.trans hl) h1
        exact ⟨r, .go hx hs hr⟩

theorem step_fall {A W : Int → Prop} {len : Nat} {v y : Int} {ns h h' : List Int} {w w' : List Bool} {x : Nat} (hl : h.length = len) (hi : HInv A W h w) (hA : A v) (hW : W v) (hy : h[x]? = some y) (hw : w[x]? = some true) (hns : ns.length ≤ 2)
    (hv : y < 0 → 0 ≤ v ∨ ns = [(x : Int) + 1])
    (hp : putN len v ns h (w.set x false) = some (h', w')) : HInv A W h' w' ∧ h'.length = h.length ∧ mz (len + 1) 0 h' w' < mz (len + 1) 0 h w := by
  obtain ⟨h1, h2, h3⟩ := putN_inv (len + 1) hA hW ns h _ h' w' (hi.drop x) hp
  have hx := (List.getElem?_eq_some_iff.1 hy).1
  have hm := mz_setw (N := len + 1) false hy hw
  refine ⟨h1, h2, ?_⟩
  have c1 : cw (len + 1) x y true = cw (len + 1) x y false + (if y < 0 then len + 1 - x else 3 * (len + 1)) := by unfold cw; simp
  have c3 : more (len + 1) ns ≤ 2 * (len + 1) := by
    match ns, hns with
    | [], _ => simp [more]
    | [a], _ => simp only [more]; omega
    | [a, b], _ => simp only [more]; omega
  by_cases c : y < 0
  · rw [if_pos c] at c1
    rcases hv c with h0 | h0
    · rw [if_neg (by omega)] at h3
      omega
    · subst h0
      have : more (len + 1) [(x : Int) + 1] = len + 1 - (x + 1) := by simp only [more]; omega
      rw [this] at h3
      split at h3 <;> omega
  · rw [if_neg c] at c1
    split at h3 <;> omega

abbrev A1 (x : Int) : Prop := -1 ≤ x ∧ x ≤ 8
abbrev W1 (x : Int) : Prop := 0 ≤ x ∧ x ≤ 8
abbrev A2 (x : Int) : Prop := (-1 ≤ x ∧ x ≤ 8) ∨ (-9223372036854775808 ≤ x ∧ x ≤ -9223372036854775788)
abbrev W2 (x : Int) : Prop := (0 ≤ x ∧ x ≤ 8) ∨ (-9223372036854775808 ≤ x ∧ x ≤ -9223372036854775788)

def Args64 (p : GProgram) : Prop := ∀ f ∈ p.funcs, -9223372036854775808 ≤ f.args ∧ f.args ≤ 9223372036854775807
theorem takes64 {p : GProgram} (h : Args64 p) (i : GI2) : -9223372036854775808 ≤ takesL p i ∧ takesL p i ≤ 9223372036854775807 := by
  unfold takesL
  split
  · omega
  split
  · omega
  split
  · split
    · split
      · rename_i f hf
        exact h f (List.mem_of_getElem? hf)
      · omega
    · omega
  split
  · omega
  split <;> omega

theorem puts_next {i : GI2} {x : Int} (h : 0 < putsL i) : nextL i x = [x + 1] := by
  unfold putsL at h
  unfold nextL
  split at h
  · rw [if_neg (by omega), if_neg (by omega), if_neg (by omega)]
  · split at h
    · rw [if_neg (by omega), if_neg (by omega), if_neg (by omega)]
    · omega

theorem goodI (p : GProgram) (code : List GI2) (hp : Args64 p) : Good code.length A2 W2 (stepI p code) := by
  intro x h w h' w' hl hi hw hs
  unfold stepI at hs
  split at hs
  · rename_i i y hi' hy
    split at hs
    · cases hs
    split at hs
    · cases hs
    rename_i c1 c2
    have hW := hi.wt x y hy hw
    have hpu := putsL_range i
    have e1 : 0 ≤ IntKind.i64.wrap (y - takesL p i) := by omega
    have e2 : IntKind.i64.wrap (y - takesL p i) ≤ 9223372036854775807 := by rw [wrap64_eq]; split <;> omega
    generalize IntKind.i64.wrap (y - takesL p i) = q at *
    have hv : W2 (IntKind.i64.wrap (q + putsL i)) ∧ (0 ≤ IntKind.i64.wrap (q + putsL i) ∨ 0 < putsL i) := by
      by_cases c : q + putsL i ≤ 9223372036854775807
      · rw [wrap_id (by omega) c] at c2 ⊢
        exact ⟨.inl ⟨by omega, by omega⟩, .inl (by omega)⟩
      · have : IntKind.i64.wrap (q + putsL i) = q + putsL i - 18446744073709551616 := by rw [wrap64_eq]; split <;> omega
        rw [this]
        exact ⟨.inr ⟨by omega, by omega⟩, .inr (by omega)⟩
    refine step_fall hl hi ?_ hv.1 hy hw (nextL_length _ _) (fun hh => ?_) hs
    · have := hv.1; rcases this with h1 | h1
      · exact .inl ⟨by omega, h1.2⟩
      · exact .inr h1
    · rcases hv.2 with h1 | h1
      · exact .inl h1
      · exact .inr (puts_next h1)
  · cases hs

theorem goodS (p : GProgram) (code : List GI2) (hp : Args64 p) : Good code.length A2 W2 (stepS p code) := by
  intro x h w h' w' hl hi hw hs
  unfold stepS at hs
  split at hs
  · rename_i i y hi' hy
    split at hs
    · cases hs
    split at hs
    · cases hs
    rename_i c1 c2
    have hW := hi.wt x y hy hw
    have hpu := putsL_range i
    have ht := takes64 hp i
    have hv : W2 (IntKind.i64.wrap (IntKind.i64.wrap (y - takesL p i) + putsL i)) ∧ (y < 0 → 0 ≤ IntKind.i64.wrap (IntKind.i64.wrap (y - takesL p i) + putsL i)) := by
      by_cases c : y - takesL p i ≤ 9223372036854775807
      · rw [wrap_id (x := y - takesL p i) (by omega) c] at c2 ⊢
        by_cases d : y - takesL p i + putsL i ≤ 9223372036854775807
        · rw [wrap_id (by omega) d] at c2 ⊢
          exact ⟨.inl ⟨by omega, by omega⟩, fun _ => by omega⟩
        · have : IntKind.i64.wrap (y - takesL p i + putsL i) = y - takesL p i + putsL i - 18446744073709551616 := by rw [wrap64_eq]; split <;> omega
          rw [this]
          exact ⟨.inr ⟨by omega, by omega⟩, fun _ => by omega⟩
      · have : IntKind.i64.wrap (y - takesL p i) = y - takesL p i - 18446744073709551616 := by rw [wrap64_eq]; split <;> omega
        rw [this, wrap_id (by omega) (by omega)]
        exact ⟨.inr ⟨by omega, by omega⟩, fun _ => by omega⟩
    refine step_fall hl hi ?_ hv.1 hy hw (nextL_length _ _) (fun hh => .inl (hv.2 hh)) hs
    have := hv.1; rcases this with h1 | h1
    · exact .inl ⟨by omega, h1.2⟩
    · exact .inr h1
  · cases hs

/-! ### Where nothing is taken that is out of bounds -/
def Normal (p : GProgram) : Prop := ∀ f ∈ p.funcs, 0 ≤ f.args ∧ f.args ≤ 4
theorem takesN {p : GProgram} (h : Normal p) (i : GI2) : 0 ≤ takesL p i ∧ takesL p i ≤ 4 := by
  unfold takesL
  split
  · omega
  split
  · omega
  split
  · split
    · split
      · rename_i f hf
        exact h f (List.mem_of_getElem? hf)
      · omega
    · omega
  split
  · omega
  split <;> omega

/-- A step, in plain numbers. -/
def stepN (p : GProgram) (code : List GI2) : StepF := fun x h w => match code[x]?, h[x]? with
  | some i, some y => if y < takesL p i then none else if 8 < y - takesL p i + putsL i then none
      else putN code.length (y - takesL p i + putsL i) (nextL i x) h (w.set x false)
  | _, _ => none

theorem stepI_N {p : GProgram} (hp : Normal p) {code : List GI2} {x : Nat} {h : List Int} {w : List Bool} (hi : HInv A1 W1 h w) (hw : w[x]? = some true) : stepI p code x h w = stepN p code x h w := by
  unfold stepI stepN
  cases hi' : code[x]? with
  | none => rfl
  | some i =>
    cases hy : h[x]? with
    | none => rfl
    | some y =>
      have hW := hi.wt x y hy hw
      have ht := takesN hp i
      have hpu := putsL_range i
      simp only []
      rw [wrap_id (x := y - takesL p i) (by omega) (by omega), wrap_id (by omega) (by omega)]
      by_cases c : y < takesL p i
      · rw [if_pos (by omega), if_pos c]
      · rw [if_neg (by omega), if_neg c]
theorem stepS_N {p : GProgram} (hp : Normal p) {code : List GI2} {x : Nat} {h : List Int} {w : List Bool} (hi : HInv A1 W1 h w) (hw : w[x]? = some true) : stepS p code x h w = stepN p code x h w := by
  unfold stepS stepN
  cases hi' : code[x]? with
  | none => rfl
  | some i =>
    cases hy : h[x]? with
    | none => rfl
    | some y =>
      have hW := hi.wt x y hy hw
      have ht := takesN hp i
      have hpu := putsL_range i
      simp only []
      rw [wrap_id (x := y - takesL p i) (by omega) (by omega), wrap_id (by omega) (by omega)]
theorem stepN_inv {p : GProgram} (hp : Normal p) {code : List GI2} {x : Nat} {h h' : List Int} {w w' : List Bool} (hi : HInv A1 W1 h w) (hw : w[x]? = some true) (hs : stepN p code x h w = some (h', w')) : HInv A1 W1 h' w' ∧ h'.length = h.length := by
  unfold stepN at hs
  split at hs
  · rename_i i y hi' hy
    split at hs
    · cases hs
    split at hs
    · cases hs
    have hpu := putsL_range i
    obtain ⟨h1, h2, -⟩ := putN_inv 0 (A := A1) (W := W1) ⟨by omega, by omega⟩ ⟨by omega, by omega⟩ _ _ _ _ _ (hi.drop x) hs
    exact ⟨h1, h2⟩
  · cases hs

theorem run_N {p : GProgram} (hp : Normal p) {code : List GI2} {st : StepF} (he : ∀ (x : Nat) (h : List Int) (w : List Bool), HInv A1 W1 h w → w[x]? = some true → st x h w = stepN p code x h w) {h : List Int} {w : List Bool} {r : Option (List Int)}
    (hr : HRun st h w r) (hi : HInv A1 W1 h w) : HRun (stepN p code) h w r := by
  induction hr with
  | done h1 => exact .done h1
  | bad h1 h2 => exact .bad h1 ((he _ _ _ hi h1.1).symm.trans h2)
  | go h1 h2 _ ih =>
    have h3 := (he _ _ _ hi h1.1).symm.trans h2
    exact .go h1 h3 (ih (stepN_inv hp hi h1.1 h3).1)

theorem least_same {w : List Bool} {x y : Nat} (h1 : Least w x) (h2 : Least w y) : x = y := by
  rcases Nat.lt_trichotomy x y with h | h | h
  · exact absurd h1.1 (h2.2 x h)
  · exact h
  · exact absurd h2.1 (h1.2 y h)

theorem run_same {st : StepF} {h : List Int} {w : List Bool} {r s : Option (List Int)} (hr : HRun st h w r) (hs : HRun st h w s) : r = s := by
  induction hr generalizing s with
  | done h1 =>
    cases hs with
    | done => rfl
    | bad h2 _ => exact absurd h2.1 (h1 _)
    | go h2 _ _ => exact absurd h2.1 (h1 _)
  | bad h1 h2 =>
    cases hs with
    | done h3 => exact absurd h1.1 (h3 _)
    | bad => rfl
    | go h3 h4 _ =>
      rw [least_same h1 h3, h4] at h2; cases h2
  | go h1 h2 _ ih =>
    cases hs with
    | done h3 => exact absurd h1.1 (h3 _)
    | bad h3 h4 => rw [least_same h1 h3, h4] at h2; cases h2
    | go h3 h4 h5 =>
      rw [least_same h1 h3, h4] at h2
      cases h2
      exact ih h5
theorem Ev.idxI {α β : Type} {l : List α} {i : Int} {m : α} {g : Nat → α → Option β} {v : β} (h0 : 0 ≤ i) (h : l[i.toNat]? = some m) (h2 : Ev (fun k => g k m) v) : Ev (fun k => (L.idx l i).bind (g k)) v := by
  refine Ev.bind (a := m) (Ev.const ?_) h2
  rw [idx_of h0, h]
theorem at_mid {α : Type} (pre : List α) (n : α) (ns : List α) : (pre ++ n :: ns)[pre.length]? = some n := by simp

theorem specLeast_l (w : List Bool) (hn : w.length < 1099511627776) : ∀ (d i : Nat), w.length - i = d → i ≤ w.length → (∀ j : Nat, j < i → w[j]? ≠ some true) →
    (∃ x, Least w x ∧ Ev (fun k => spec_l04Least.l1 k w (i : Int)) (.inl (x : Int))) ∨ ((∀ j : Nat, w[j]? ≠ some true) ∧ Ev (fun k => spec_l04Least.l1 k w (i : Int)) (.inr ())) := by
  intro d
  induction d with
  | zero =>
    intro i hd hi hj
    right
    refine ⟨fun j => ?_, ?_⟩
    · rcases Nat.lt_or_ge j i with h | h
      · exact hj j h
      · rw [List.getElem?_eq_none (by omega)]; simp
    · refine Ev.succ ?_
      simp only [spec_l04Least.l1]
      exact Ev.cf (df (by omega)) Ev.pure
  | succ d ih =>
    intro i hd hi hj
    obtain ⟨b, hb⟩ := list_get (show i < w.length by omega)
    cases b with
    | true =>
      left
      refine ⟨i, ⟨hb, hj⟩, ?_⟩
      refine Ev.succ ?_
      simp only [spec_l04Least.l1]
      exact Ev.ct (dt (by omega)) (Ev.idx hb (Ev.ct rfl Ev.pure))
    | false =>
      have step : ∀ o, Ev (fun k => spec_l04Least.l1 k w ((i + 1 : Nat) : Int)) o → Ev (fun k => spec_l04Least.l1 k w (i : Int)) o := by
        intro o ho
        refine Ev.succ ?_
        simp only [spec_l04Least.l1]
        refine Ev.ct (dt (by omega)) (Ev.idx hb (Ev.cf rfl ?_))
        rw [wrap_nat (by omega)]
        exact ho
      rcases ih (i + 1) (by omega) (by omega) (fun j hji => by
        by_cases e : j = i
        · subst e; rw [hb]; simp
        · exact hj j (by omega)) with ⟨x, h1, h2⟩ | ⟨h1, h2⟩
      · exact .inl ⟨x, h1, step _ h2⟩
      · exact .inr ⟨h1, step _ h2⟩

theorem specLeast_some {w : List Bool} (hn : w.length < 1099511627776) {x : Nat} (h : Least w x) : Ev (fun k => spec_l04Least k w) (x : Int) := by
  rcases specLeast_l w hn _ 0 rfl (by omega) (fun j hj => by omega) with ⟨y, h1, h2⟩ | ⟨h1, h2⟩
  · rw [least_same h h1]
    exact Ev.bind h2 Ev.pure
  · exact absurd h.1 (h1 x)
theorem specLeast_none {w : List Bool} (hn : w.length < 1099511627776) (h : ∀ j : Nat, w[j]? ≠ some true) : Ev (fun k => spec_l04Least k w) (-1) := by
  rcases specLeast_l w hn _ 0 rfl (by omega) (fun j hj => by omega) with ⟨y, h1, h2⟩ | ⟨h1, h2⟩
  · exact absurd h1.1 (h y)
  · exact Ev.bind h2 Ev.pure

theorem specPut (fs : List GFunc) (z : GI3) (f : Int) (code : List GI2) (bad : GI3) (v : Int) (hbad : bad.c ≠ 0) (hlen : code.length < 1099511627776) :
    ∀ (ns pre : List Int) (h : List Int) (w : List Bool), (∀ n ∈ ns, 0 ≤ n) → h.length = code.length → w.length = code.length → (pre ++ ns).length < 1099511627776 →
    ∃ o, Ev (fun k => spec_l04Heights.l6 k fs z h w bad (pre ++ ns) f code v (pre.length : Int)) o ∧
      match putN code.length v ns h w with
      | some (h', w') => o = .inr (fs, z, h', w', f, code)
      | none => ∃ hh e, o = .inl (hh, e) ∧ e.c ≠ 0
  | [], pre, h, w, hns, hh, hw, hp => by
    refine ⟨.inr (fs, z, h, w, f, code), ?_, rfl⟩
    refine Ev.succ ?_
    simp only [spec_l04Heights.l6, List.append_nil]
    exact Ev.cf (df (by omega)) Ev.pure
  | n :: ns, pre, h, w, hns, hh, hw, hp => by
    have hn0 := hns n (by simp)
    have hmid := at_mid pre n ns
    have hl : (pre.length : Int) < ((pre ++ n :: ns).length : Int) := by simp; omega
    by_cases c : (code.length : Int) ≤ n
    · refine ⟨.inl (h, ⟨bad.a, bad.b, 6⟩), ?_, ?_⟩
      · refine Ev.succ ?_
        simp only [spec_l04Heights.l6]
        exact Ev.ct (dt hl) (Ev.idx hmid (Ev.ct (dt c) Ev.pure))
      · simp only [putN, if_pos c]
        exact ⟨_, _, rfl, by simp⟩
    · obtain ⟨x, hx⟩ := list_get (show n.toNat < h.length by omega)
      obtain ⟨b, hb⟩ := list_get (show n.toNat < w.length by omega)
      have ha7 : Ev (fun k => spec_l04Heights.a7 k fs z h w bad (pre ++ n :: ns) f code v (pre.length : Int)) (if 0 ≤ x ∧ x ≠ v then .inl (h, bad) else .inr (fs, z, h, w, bad, pre ++ n :: ns, f, code, v, (pre.length : Int))) := by
        unfold spec_l04Heights.a7
        refine Ev.idx hmid (Ev.idxI hn0 hx ?_)
        by_cases c1 : 0 ≤ x
        · refine Ev.ct (dt c1) ?_
          by_cases c2 : x = v
          · rw [if_neg (by omega)]
            exact Ev.cf (by simp [c2]) Ev.pure
          · rw [if_pos ⟨c1, c2⟩]
            exact Ev.ct (by simp [c2]) Ev.pure
        · rw [if_neg (by omega)]
          exact Ev.cf (df c1) Ev.pure
      have pre' : pre ++ n :: ns = (pre ++ [n]) ++ ns := by simp
      have plen : ((pre.length + 1 : Nat) : Int) = ((pre ++ [n]).length : Int) := by simp
      by_cases c1 : 0 ≤ x
      · by_cases c2 : x = v
        · obtain ⟨o, ho, hm⟩ := specPut fs z f code bad v hbad hlen ns (pre ++ [n]) h w (fun m hm => hns m (by simp [hm])) hh hw (by rw [← pre']; exact hp)
          refine ⟨o, ?_, ?_⟩
          · refine Ev.succ ?_
            simp only [spec_l04Heights.l6]
            refine Ev.ct (dt hl) (Ev.idx hmid (Ev.cf (df (by omega)) (Ev.bind ha7 ?_)))
            rw [if_neg (by omega)]
            simp only [Sum.elim_inr]
            refine Ev.idx hmid (Ev.idxI hn0 hx (Ev.cf (df (by omega)) ?_))
            rw [wrap_nat (by simp at hp; omega), plen, pre']
            exact ho
          · simp only [putN, if_neg c, hx, if_pos c1, if_pos c2]
            exact hm
        · refine ⟨.inl (h, bad), ?_, ?_⟩
          · refine Ev.succ ?_
            simp only [spec_l04Heights.l6]
            refine Ev.ct (dt hl) (Ev.idx hmid (Ev.cf (df (by omega)) (Ev.bind ha7 ?_)))
            rw [if_pos ⟨c1, c2⟩]
            exact Ev.pure
          · simp only [putN, if_neg c, hx, if_pos c1, if_neg c2]
            exact ⟨_, _, rfl, hbad⟩
      · obtain ⟨o, ho, hm⟩ := specPut fs z f code bad v hbad hlen ns (pre ++ [n]) (h.set n.toNat v) (w.set n.toNat true) (fun m hm => hns m (by simp [hm])) (by simpa using hh) (by simpa using hw) (by rw [← pre']; exact hp)
        refine ⟨o, ?_, ?_⟩
        · refine Ev.succ ?_
          simp only [spec_l04Heights.l6]
          refine Ev.ct (dt hl) (Ev.idx hmid (Ev.cf (df (by omega)) (Ev.bind ha7 ?_)))
          rw [if_neg (by omega)]
          simp only [Sum.elim_inr]
          refine Ev.idx hmid (Ev.idxI hn0 hx (Ev.ct (dt (by omega)) (Ev.idxI hn0 hb ?_)))
          rw [wrap_nat (by simp at hp; omega), plen, pre']
          exact ho
        · simp only [putN, if_neg c, hx, if_neg c1]
          exact hm

/-- Where a jump goes there is a place. -/
def JumpsOk (code : List GI2) : Prop := ∀ i ∈ code, (i.a = 30 ∨ i.a = 31) → 0 ≤ i.b ∧ i.b < (code.length : Int)
theorem nextL_pos {code : List GI2} (hj : JumpsOk code) {i : GI2} (hi : i ∈ code) (x : Nat) : ∀ n ∈ nextL i (x : Int), 0 ≤ n := by
  intro n hn
  unfold nextL at hn
  split at hn
  · cases hn
  split at hn
  · simp at hn; subst hn; exact (hj i hi (.inl ‹_›)).1
  split at hn
  · simp at hn
    rcases hn with rfl | rfl
    · omega
    · exact (hj i hi (.inr ‹_›)).1
  · simp at hn; omega

/-- What an answer tells of a run's end. -/
def SpecRes (code : List GI2) (o : List Int × GI3) : Option (List Int) → Prop
  | some hf => o = (hf, ⟨0, 0, 0⟩) ∧ hf.length = code.length
  | none => o.2.c ≠ 0
theorem specRun (p : GProgram) (f : Int) (code : List GI2) (z : GI3) (hj : JumpsOk code) (hlen : code.length < 1099511627) {h : List Int} {w : List Bool} {r : Option (List Int)} (hr : HRun (stepS p code) h w r) :
    h.length = code.length → w.length = code.length → ∃ o, Ev (fun k => spec_l04Heights.l2 k p.funcs z h w f code) o ∧ SpecRes code o r := by
  -- what a round does
  have round : ∀ (h : List Int) (w : List Bool) (x : Nat), h.length = code.length → w.length = code.length → Least w x →
      match stepS p code x h w with
      | none => ∃ o, Ev (fun k => spec_l04Heights.l2 k p.funcs z h w f code) o ∧ o.2.c ≠ 0
      | some (h', w') => ∀ o, Ev (fun k => spec_l04Heights.l2 k p.funcs z h' w' f code) o → Ev (fun k => spec_l04Heights.l2 k p.funcs z h w f code) o := by
    intro h w x hh hw hx
    have hxw := (List.getElem?_eq_some_iff.1 hx.1).1
    obtain ⟨i, hi⟩ := list_get (show x < code.length by omega)
    obtain ⟨y, hy⟩ := list_get (show x < h.length by omega)
    have him := List.mem_of_getElem? hi
    have hp : (⟨p.funcs⟩ : GProgram) = p := rfl
    -- the part ahead of the places
    have ha3 : Ev (fun k => spec_l04Heights.a3 k p.funcs z h (w.set x false) i ⟨f, x, 5⟩ f code (x : Int) (takesL p i) (IntKind.i64.wrap (IntKind.i64.wrap (y - takesL p i) + putsL i)))
        (if y < takesL p i ∨ 8 < IntKind.i64.wrap (IntKind.i64.wrap (y - takesL p i) + putsL i) then .inl (h, ⟨f, x, 5⟩) else .inr (p.funcs, z, h, w.set x false, i, ⟨f, x, 5⟩, f, code, (x : Int), IntKind.i64.wrap (IntKind.i64.wrap (y - takesL p i) + putsL i))) := by
      unfold spec_l04Heights.a3
      refine Ev.idx hy ?_
      by_cases c1 : y < takesL p i
      · rw [if_pos (.inl c1)]; exact Ev.ct (dt c1) Ev.pure
      · refine Ev.cf (df c1) ?_
        by_cases c2 : 8 < IntKind.i64.wrap (IntKind.i64.wrap (y - takesL p i) + putsL i)
        · rw [if_pos (.inr c2)]; exact Ev.ct (dt c2) Ev.pure
        · rw [if_neg (by omega)]; exact Ev.cf (df c2) Ev.pure
    unfold stepS
    simp only [hi, hy]
    by_cases c1 : y < takesL p i
    · rw [if_pos c1]
      refine ⟨(h, ⟨f, x, 5⟩), ?_, by simp⟩
      refine Ev.succ ?_
      simp only [spec_l04Heights.l2, specTakes, specPuts, Option.bind_some, hp]
      refine Ev.bind (specLeast_some (by omega) hx) (Ev.cf (df (by omega)) (Ev.idx hx.1 (Ev.idx hi ?_)))
      simp only [specTakes, specPuts, Option.bind_some, Int.toNat_natCast]
      refine Ev.idx hy (Ev.bind ha3 ?_)
      rw [if_pos (.inl c1)]
      exact Ev.pure
    · rw [if_neg c1]
      by_cases c2 : 8 < IntKind.i64.wrap (IntKind.i64.wrap (y - takesL p i) + putsL i)
      · rw [if_pos c2]
        refine ⟨(h, ⟨f, x, 5⟩), ?_, by simp⟩
        refine Ev.succ ?_
        simp only [spec_l04Heights.l2]
        refine Ev.bind (specLeast_some (by omega) hx) (Ev.cf (df (by omega)) (Ev.idx hx.1 (Ev.idx hi ?_)))
        simp only [specTakes, specPuts, Option.bind_some, Int.toNat_natCast]
        refine Ev.idx hy (Ev.bind ha3 ?_)
        rw [if_pos (.inr c2)]
        exact Ev.pure
      · rw [if_neg c2]
        generalize hv : IntKind.i64.wrap (IntKind.i64.wrap (y - takesL p i) + putsL i) = v at *
        have ha4 : Ev (fun k => spec_l04Heights.a4 k p.funcs z h (w.set x false) i ⟨f, x, 5⟩ [] f code (x : Int) v) (p.funcs, z, h, w.set x false, i, ⟨f, x, 5⟩, f, code, v, if i.a ≠ 30 ∧ i.a ≠ 33 then [(x : Int) + 1] else []) := by
          unfold spec_l04Heights.a4
          by_cases d1 : i.a = 30
          · rw [if_neg (by omega)]; exact Ev.cf (by simp [d1]) Ev.pure
          · refine Ev.ct (by simp [d1]) ?_
            by_cases d2 : i.a = 33
            · rw [if_neg (by omega)]; exact Ev.cf (by simp [d2]) Ev.pure
            · rw [if_pos ⟨d1, d2⟩]
              refine Ev.ct (by simp [d2]) (Ev.gd ⟨by simp, by simp⟩ ?_)
              rw [wrap_nat (by omega)]
              exact Ev.pure
        have ha5 : Ev (fun k => spec_l04Heights.a5 k p.funcs z h (w.set x false) i ⟨f, x, 5⟩ (if i.a ≠ 30 ∧ i.a ≠ 33 then [(x : Int) + 1] else []) f code v) (p.funcs, z, h, w.set x false, ⟨f, x, 5⟩, f, code, v, nextL i x) := by
          unfold spec_l04Heights.a5 nextL
          by_cases d1 : i.a = 30
          · refine Ev.ct (by simp [d1]) ?_
            simp only [d1]
            exact Ev.gd ⟨by simp, by simp⟩ Ev.pure
          · refine Ev.cf (by simp [d1]) ?_
            by_cases d2 : i.a = 31
            · refine Ev.ct (by simp [d2]) ?_
              simp only [d2]
              exact Ev.gd ⟨by simp, by simp⟩ Ev.pure
            · refine Ev.cf (by simp [d2]) ?_
              by_cases d3 : i.a = 33
              · simp only [d3]; exact Ev.pure
              · rw [if_pos ⟨d1, d3⟩, if_neg d3, if_neg d1, if_neg d2]; exact Ev.pure
        obtain ⟨o, ho, hm⟩ := specPut p.funcs z f code ⟨f, x, 5⟩ v (by simp) (by omega) (nextL i x) [] h (w.set x false) (nextL_pos hj him x) hh (by simpa using hw) (by have := nextL_length i x; simp; omega)
        have go : ∀ o', (Ev (fun k => (Sum.elim (fun o6l => some (o6l.1, o6l.2)) (fun o6r => spec_l04Heights.l2 k o6r.1 o6r.2.1 o6r.2.2.1 o6r.2.2.2.1 o6r.2.2.2.2.1 o6r.2.2.2.2.2) o : Option (List Int × GI3))) o') → Ev (fun k => spec_l04Heights.l2 k p.funcs z h w f code) o' := by
          intro o' h'
          refine Ev.succ ?_
          simp only [spec_l04Heights.l2]
          refine Ev.bind (specLeast_some (by omega) hx) (Ev.cf (df (by omega)) (Ev.idx hx.1 (Ev.idx hi ?_)))
          simp only [specTakes, specPuts, Option.bind_some, Int.toNat_natCast]
          refine Ev.idx hy ?_
          rw [hv]
          refine Ev.bind ha3 ?_
          rw [if_neg (by omega)]
          simp only [Sum.elim_inr]
          exact Ev.bind ha4 (Ev.bind ha5 (Ev.bind ho h'))
        cases hput : putN code.length v (nextL i x) h (w.set x false) with
        | none =>
          rw [hput] at hm
          obtain ⟨hh', e, rfl, he⟩ := hm
          exact ⟨(hh', e), go _ Ev.pure, he⟩
        | some q =>
          obtain ⟨h', w'⟩ := q
          rw [hput] at hm
          subst hm
          exact fun o ho => go o ho
  induction hr with
  | done h1 =>
    intro hh hw
    refine ⟨_, ?_, rfl, hh⟩
    refine Ev.succ ?_
    simp only [spec_l04Heights.l2]
    exact Ev.bind (specLeast_none (by omega) h1) (Ev.ct (dt (by omega)) Ev.pure)
  | bad h1 h2 =>
    intro hh hw
    have := round _ _ _ hh hw h1
    rw [h2] at this
    exact this
  | @go h h' w w' x r h1 h2 h3 ih =>
    intro hh hw
    have hr := round _ _ _ hh hw h1
    rw [h2] at hr
    have hl : h'.length = code.length ∧ w'.length = code.length := by
      unfold stepS at h2
      split at h2
      · split at h2
        · cases h2
        split at h2
        · cases h2
        obtain ⟨i1, i2, -⟩ := putN_inv 0 (A := fun _ => True) (W := fun _ => True) trivial trivial _ _ _ _ _ (show HInv (fun _ => True) (fun _ => True) h (w.set x false) from ⟨by simp; omega, fun _ _ _ => trivial, fun _ _ _ _ => trivial⟩) h2
        exact ⟨by omega, by have := i1.len; omega⟩
      · cases h2
    obtain ⟨o, ho, hm⟩ := ih hl.1 hl.2
    exact ⟨o, hr o ho, hm⟩
/-- What a round's end tells. -/
def PutRes (fs : List GFunc) (code : List GI2) (L : Nat) (w : List Bool) (o : (List Int × Int × Int) ⊕ (List GFunc × List Int × List Bool × List GI2 × Int)) : Option (List Int × List Bool) → Prop
  | some (h', w') => ∃ L' : Nat, o = .inr (fs, h', w', code, (L' : Int)) ∧ L' ≤ L ∧ ((∀ j : Nat, j < L → w[j]? ≠ some true) → ∀ j : Nat, j < L' → w'[j]? ≠ some true)
  | none => ∃ e, o = .inl e ∧ e.2.2 ≠ 0

theorem implPut (fs : List GFunc) (code : List GI2) (i : GI2) (x : Int) (left v : Int) (hv : IntKind.i64.wrap (left + putsL i) = v) (hlen : code.length < 1099511627776) :
    ∀ (ns pre : List Int) (h : List Int) (w : List Bool) (L : Nat), (∀ n ∈ ns, 0 ≤ n ∧ n ≤ (code.length : Int)) → h.length = code.length → w.length = code.length → (pre ++ ns).length < 1099511627776 →
    ∃ o, Ev (fun k => impl_heightsOf.l4 k fs h w i (pre ++ ns) code x left (L : Int) ((pre ++ ns).length : Int) (pre.length : Int)) o ∧ PutRes fs code L w o (putN code.length v ns h w)
  | [], pre, h, w, L, hns, hh, hw, hp => by
    refine ⟨.inr (fs, h, w, code, (L : Int)), ?_, L, rfl, Nat.le_refl _, fun g => g⟩
    refine Ev.succ ?_
    simp only [impl_heightsOf.l4, List.append_nil]
    exact Ev.cf (df (by omega)) Ev.pure
  | n :: ns, pre, h, w, L, hns, hh, hw, hp => by
    obtain ⟨hn0, hn1⟩ := hns n (by simp)
    have hmid := at_mid pre n ns
    have hl : (pre.length : Int) < ((pre ++ n :: ns).length : Int) := by simp; omega
    by_cases c : (code.length : Int) ≤ n
    · refine ⟨.inl (h, x, 6), ?_, ?_⟩
      · refine Ev.succ ?_
        simp only [impl_heightsOf.l4]
        exact Ev.ct (dt hl) (Ev.idx hmid (Ev.ct (by simp; omega) Ev.pure))
      · simp only [putN, if_pos c]
        exact ⟨_, rfl, by simp⟩
    · obtain ⟨y, hy⟩ := list_get (show n.toNat < h.length by omega)
      obtain ⟨b, hb⟩ := list_get (show n.toNat < w.length by omega)
      have ha5 : Ev (fun k => impl_heightsOf.a5 k fs h w i (pre ++ n :: ns) code x left (L : Int) n ((pre ++ n :: ns).length : Int) (pre.length : Int))
          (if 0 ≤ y ∧ y ≠ v then .inl (h, x, 5) else .inr (fs, h, w, i, pre ++ n :: ns, code, x, left, (L : Int), n, ((pre ++ n :: ns).length : Int), (pre.length : Int))) := by
        unfold impl_heightsOf.a5
        refine Ev.idxI hn0 hy ?_
        by_cases c1 : 0 ≤ y
        · refine Ev.ct (dt c1) (Ev.bind (Ev.const (implPuts i)) ?_)
          rw [hv]
          by_cases c2 : y = v
          · rw [if_neg (by omega)]
            exact Ev.cf (by simp [c2]) Ev.pure
          · rw [if_pos ⟨c1, c2⟩]
            exact Ev.ct (by simp [c2]) Ev.pure
        · rw [if_neg (by omega)]
          exact Ev.cf (df c1) Ev.pure
      have pre' : pre ++ n :: ns = (pre ++ [n]) ++ ns := by simp
      have plen : ((pre.length + 1 : Nat) : Int) = ((pre ++ [n]).length : Int) := by simp
      by_cases c1 : 0 ≤ y
      · by_cases c2 : y = v
        · obtain ⟨o, ho, hm⟩ := implPut fs code i x left v hv hlen ns (pre ++ [n]) h w L (fun m hm => hns m (by simp [hm])) hh hw (by rw [← pre']; exact hp)
          refine ⟨o, ?_, ?_⟩
          · refine Ev.succ ?_
            simp only [impl_heightsOf.l4]
            refine Ev.ct (dt hl) (Ev.idx hmid (Ev.cf (by simp; omega) (Ev.bind ha5 ?_)))
            rw [if_neg (by omega)]
            simp only [Sum.elim_inr]
            refine Ev.idxI hn0 hy (Ev.cf (df (by omega)) ?_)
            rw [wrap_nat (by simp at hp; omega), plen, pre']
            exact ho
          · simp only [putN, if_neg c, hy, if_pos c1, if_pos c2]
            exact hm
        · refine ⟨.inl (h, x, 5), ?_, ?_⟩
          · refine Ev.succ ?_
            simp only [impl_heightsOf.l4]
            refine Ev.ct (dt hl) (Ev.idx hmid (Ev.cf (by simp; omega) (Ev.bind ha5 ?_)))
            rw [if_pos ⟨c1, c2⟩]
            exact Ev.pure
          · simp only [putN, if_neg c, hy, if_pos c1, if_neg c2]
            exact ⟨_, rfl, by simp⟩
      · obtain ⟨o, ho, hm⟩ := implPut fs code i x left v hv hlen ns (pre ++ [n]) (h.set n.toNat v) (w.set n.toNat true) (min n.toNat L) (fun m hm => hns m (by simp [hm])) (by simpa using hh) (by simpa using hw) (by rw [← pre']; exact hp)
        refine ⟨o, ?_, ?_⟩
        · refine Ev.succ ?_
          simp only [impl_heightsOf.l4]
          refine Ev.ct (dt hl) (Ev.idx hmid (Ev.cf (by simp; omega) (Ev.bind ha5 ?_)))
          rw [if_neg (by omega)]
          simp only [Sum.elim_inr]
          refine Ev.idxI hn0 hy (Ev.ct (dt (by omega)) (Ev.bind (Ev.const (implPuts i)) (Ev.idxI hn0 hb ?_)))
          rw [hv, wrap_nat (by simp at hp; omega), plen, pre']
          have : (if decide (n < (L : Int)) = true then n else (L : Int)) = ((min n.toNat L : Nat) : Int) := by
            by_cases d : n < (L : Int)
            · rw [if_pos (by simpa using d)]; omega
            · rw [if_neg (by simpa using d)]; omega
          rw [this]
          exact ho
        · simp only [putN, if_neg c, hy, if_neg c1]
          revert hm
          cases putN code.length v ns (h.set n.toNat v) (w.set n.toNat true) with
          | none => exact fun hm => hm
          | some q =>
            rintro ⟨L', h1, h2, h3⟩
            refine ⟨L', h1, by omega, fun g => h3 fun j hj => ?_⟩
            rw [List.getElem?_set_ne (by omega)]
            exact g j (by omega)

/-- What an answer tells of a run's end. -/
def ImplRes (code : List GI2) (o : (List Int × Int × Int) ⊕ List Int) : Option (List Int) → Prop
  | some hf => o = .inr hf ∧ hf.length = code.length
  | none => ∃ e, o = .inl e ∧ e.2.2 ≠ 0

theorem implSkip (p : GProgram) (code : List GI2) (hlen : code.length < 1099511627) (h : List Int) (w : List Bool) (hw : w.length = code.length) (o : (List Int × Int × Int) ⊕ List Int) : ∀ (d x y : Nat), y - x = d → x ≤ y → y ≤ code.length → (∀ j : Nat, x ≤ j → j < y → w[j]? ≠ some true) →
    Ev (fun k => impl_heightsOf.l2 k p.funcs h w code (y : Int)) o → Ev (fun k => impl_heightsOf.l2 k p.funcs h w code (x : Int)) o := by
  intro d
  induction d with
  | zero =>
    intro x y hd hxy hy hj ho
    have : x = y := by omega
    subst this
    exact ho
  | succ d ih =>
    intro x y hd hxy hy hj ho
    have h1 := ih (x + 1) y (by omega) (by omega) hy (fun j h1 h2 => hj j (by omega) h2) ho
    obtain ⟨b, hb⟩ := list_get (show x < w.length by omega)
    have : b = false := by
      have := hj x (Nat.le_refl _) (by omega)
      rw [hb] at this
      cases b
      · rfl
      · exact absurd rfl this
    subst this
    refine Ev.succ ?_
    simp only [impl_heightsOf.l2]
    refine Ev.ct (dt (by omega)) (Ev.idx hb (Ev.ct rfl ?_))
    rw [wrap_nat (by omega)]
    exact h1

theorem nextL_in {code : List GI2} (hj : JumpsOk code) {i : GI2} {x : Nat} (hi : code[x]? = some i) : ∀ n ∈ nextL i (x : Int), 0 ≤ n ∧ n ≤ (code.length : Int) := by
  intro n hn
  have hx := (List.getElem?_eq_some_iff.1 hi).1
  refine ⟨nextL_pos hj (List.mem_of_getElem? hi) x n hn, ?_⟩
  unfold nextL at hn
  split at hn
  · cases hn
  split at hn
  · simp at hn; subst hn; have := (hj i (List.mem_of_getElem? hi) (.inl ‹_›)).2; omega
  split at hn
  · simp at hn
    rcases hn with rfl | rfl
    · omega
    · have := (hj i (List.mem_of_getElem? hi) (.inr ‹_›)).2; omega
  · simp at hn; omega

theorem implRun (p : GProgram) (code : List GI2) (hj : JumpsOk code) (hlen : code.length < 1000000) {h : List Int} {w : List Bool} {r : Option (List Int)} (hr : HRun (stepI p code) h w r) :
    h.length = code.length → w.length = code.length → ∀ x : Nat, x ≤ code.length → (∀ j : Nat, j < x → w[j]? ≠ some true) → ∃ o, Ev (fun k => impl_heightsOf.l2 k p.funcs h w code (x : Int)) o ∧ ImplRes code o r := by
  have round : ∀ (h : List Int) (w : List Bool) (x : Nat), h.length = code.length → w.length = code.length → Least w x →
      match stepI p code x h w with
      | none => ∃ o, Ev (fun k => impl_heightsOf.l2 k p.funcs h w code (x : Int)) o ∧ ∃ e, o = .inl e ∧ e.2.2 ≠ 0
      | some (h', w') => ∃ L' : Nat, L' ≤ x ∧ (∀ j : Nat, j < L' → w'[j]? ≠ some true) ∧ ∀ o, Ev (fun k => impl_heightsOf.l2 k p.funcs h' w' code (L' : Int)) o → Ev (fun k => impl_heightsOf.l2 k p.funcs h w code (x : Int)) o := by
    intro h w x hh hw hx
    have hxw := (List.getElem?_eq_some_iff.1 hx.1).1
    obtain ⟨i, hi⟩ := list_get (show x < code.length by omega)
    obtain ⟨y, hy⟩ := list_get (show x < h.length by omega)
    generalize hq : IntKind.i64.wrap (y - takesL p i) = q
    generalize hv : IntKind.i64.wrap (q + putsL i) = v
    have ha3 : Ev (fun k => impl_heightsOf.a3 k p.funcs h (w.set x false) i code (x : Int) q) (if q < 0 ∨ 8 < v then .inl (h, (x : Int), 5) else .inr (p.funcs, h, w.set x false, i, code, (x : Int), q)) := by
      unfold impl_heightsOf.a3
      by_cases c1 : q < 0
      · rw [if_pos (.inl c1)]; exact Ev.ct (dt c1) Ev.pure
      · refine Ev.cf (df c1) (Ev.bind (Ev.const (implPuts i)) ?_)
        rw [hv]
        by_cases c2 : 8 < v
        · rw [if_pos (.inr c2)]; exact Ev.ct (dt c2) Ev.pure
        · rw [if_neg (by omega)]; exact Ev.cf (df c2) Ev.pure
    unfold stepI
    simp only [hi, hy, hq, hv]
    by_cases c : q < 0 ∨ 8 < v
    · have : (if q < 0 then none else if 8 < v then none else putN code.length v (nextL i x) h (w.set x false)) = none := by
        rcases c with c | c
        · rw [if_pos c]
        · by_cases d : q < 0
          · rw [if_pos d]
          · rw [if_neg d, if_pos c]
      rw [this]
      refine ⟨.inl (h, (x : Int), 5), ?_, _, rfl, by simp⟩
      refine Ev.succ ?_
      simp only [impl_heightsOf.l2]
      refine Ev.ct (dt (by omega)) (Ev.idx hx.1 (Ev.cf rfl (Ev.idx hi (Ev.idx hy ?_))))
      simp only [implTakes, Option.bind_some, Int.toNat_natCast, hq]
      refine Ev.bind ha3 ?_
      rw [if_pos c]
      exact Ev.pure
    · rw [if_neg (by omega), if_neg (by omega)]
      obtain ⟨o, ho, hm⟩ := implPut p.funcs code i (x : Int) q v hv (by omega) (nextL i x) [] h (w.set x false) x (nextL_in hj hi) hh (by simpa using hw) (by have := nextL_length i x; simp; omega)
      have go : ∀ o', Ev (fun k => (Sum.elim (fun o4l => some (.inl (o4l.1, o4l.2.1, o4l.2.2))) (fun o4r => impl_heightsOf.l2 k o4r.1 o4r.2.1 o4r.2.2.1 o4r.2.2.2.1 o4r.2.2.2.2) o : Option ((List Int × Int × Int) ⊕ List Int))) o' → Ev (fun k => impl_heightsOf.l2 k p.funcs h w code (x : Int)) o' := by
        intro o' h'
        refine Ev.succ ?_
        simp only [impl_heightsOf.l2]
        refine Ev.ct (dt (by omega)) (Ev.idx hx.1 (Ev.cf rfl (Ev.idx hi (Ev.idx hy ?_))))
        simp only [implTakes, Option.bind_some, Int.toNat_natCast, hq]
        refine Ev.bind ha3 ?_
        rw [if_neg c]
        simp only [Sum.elim_inr, implNext i x (by omega), Option.bind_some]
        exact Ev.bind ho h'
      cases hput : putN code.length v (nextL i x) h (w.set x false) with
      | none =>
        rw [hput] at hm
        obtain ⟨e, rfl, he⟩ := hm
        exact ⟨.inl e, go _ Ev.pure, e, rfl, he⟩
      | some z =>
        obtain ⟨h', w'⟩ := z
        rw [hput] at hm
        obtain ⟨L', rfl, h2, h3⟩ := hm
        refine ⟨L', h2, h3 fun j hj => ?_, fun o ho => go o ho⟩
        rw [List.getElem?_set_ne (by omega)]
        exact hx.2 j hj
  induction hr with
  | @done h w h1 =>
    intro hh hw x hx hj
    refine ⟨.inr h, implSkip p code (by omega) h w hw _ _ x code.length rfl hx (Nat.le_refl _) (fun j _ _ => h1 j) ?_, rfl, hh⟩
    refine Ev.succ ?_
    simp only [impl_heightsOf.l2]
    exact Ev.cf (df (by omega)) Ev.pure
  | @bad h w y h1 h2 =>
    intro hh hw x hx hj
    have hyw := (List.getElem?_eq_some_iff.1 h1.1).1
    have hxy : x ≤ y := by
      rcases Nat.lt_or_ge y x with hlt | hge
      · exact absurd h1.1 (hj y hlt)
      · exact hge
    have := round _ _ _ hh hw h1
    rw [h2] at this
    obtain ⟨o, ho, he⟩ := this
    exact ⟨o, implSkip p code (by omega) h w hw _ _ x y rfl hxy (by omega) (fun j _ hj2 => h1.2 j hj2) ho, he⟩
  | @go h h' w w' y r h1 h2 h3 ih =>
    intro hh hw x hx hj
    have hyw := (List.getElem?_eq_some_iff.1 h1.1).1
    have hxy : x ≤ y := by
      rcases Nat.lt_or_ge y x with hlt | hge
      · exact absurd h1.1 (hj y hlt)
      · exact hge
    have hr := round _ _ _ hh hw h1
    rw [h2] at hr
    obtain ⟨L', l1, l2, l3⟩ := hr
    have hl : h'.length = code.length ∧ w'.length = code.length := by
      unfold stepI at h2
      split at h2
      · split at h2
        · cases h2
        split at h2
        · cases h2
        obtain ⟨i1, i2, -⟩ := putN_inv 0 (A := fun _ => True) (W := fun _ => True) trivial trivial _ _ _ _ _ (show HInv (fun _ => True) (fun _ => True) h (w.set y false) from ⟨by simp; omega, fun _ _ _ => trivial, fun _ _ _ _ => trivial⟩) h2
        exact ⟨by omega, by have := i1.len; omega⟩
      · cases h2
    obtain ⟨o, ho, hm⟩ := ih hl.1 hl.2 L' (by omega) l2
    exact ⟨o, implSkip p code (by omega) h w hw _ _ x y rfl hxy (by omega) (fun j _ hj2 => h1.2 j hj2) (l3 o ho), hm⟩

end Go.Proofs.Ytdlaplgofgklnaa
namespace Go.Proofs.Ytdlaplgofgklnaa
open Go.Proofs Go.Proofs.Ytdlaplgofgklnaa.L
set_option linter.unusedVariables false
set_option linter.unusedSimpArgs false
set_option maxRecDepth 10000

def opKnown (a : Int) : Bool := decide ((1 ≤ a ∧ a ≤ 5) ∨ (10 ≤ a ∧ a ≤ 38))
def insOk (p : GProgram) (m : GFunc) (i : GI2) : Bool :=
  if i.a = 1 then true else if i.a = 2 ∨ i.a = 3 then decide (0 ≤ i.b ∧ i.b < m.locals) else if i.a = 30 ∨ i.a = 31 then decide (0 ≤ i.b ∧ i.b < (m.code.length : Int))
  else if i.a = 32 then decide (0 ≤ i.b ∧ i.b < (p.funcs.length : Int)) else (opKnown i.a && (i.b == 0))

theorem specOp (k : Nat) (a : Int) : ∃ t, spec_OpName k a = some t ∧ (t.toList == (⟨#[]⟩ : ByteArray).toList) = !opKnown a := by
  rcases op_cases a with (rfl | rfl | rfl | rfl | rfl | rfl | rfl | rfl | rfl | rfl | rfl | rfl | rfl | rfl | rfl | rfl | rfl | rfl | rfl | rfl | rfl | rfl | rfl | rfl | rfl | rfl | rfl | rfl | rfl | rfl | rfl | rfl | rfl | rfl | rfl | rfl | rfl | rfl | rfl) | h
  all_goals (try exact ⟨_, rfl, by decide +kernel⟩)
  refine ⟨⟨#[]⟩, ?_, ?_⟩
  · unfold spec_OpName spec_OpName.a1
    rcases h with h | h
    · simp [show ¬ 1 ≤ a by omega, show ¬ 10 ≤ a by omega]
    · simp [show 1 ≤ a by omega, show ¬ a ≤ 5 by omega, show 10 ≤ a by omega, show ¬ a ≤ 38 by omega]
  · have : opKnown a = false := by unfold opKnown; rw [decide_eq_false_iff_not]; omega
    rw [this]; simp
theorem implOp (a : Int) : ∃ t, impl_OpName a = some t ∧ (t.toList == (⟨#[]⟩ : ByteArray).toList) = !opKnown a := by
  rcases op_cases a with (rfl | rfl | rfl | rfl | rfl | rfl | rfl | rfl | rfl | rfl | rfl | rfl | rfl | rfl | rfl | rfl | rfl | rfl | rfl | rfl | rfl | rfl | rfl | rfl | rfl | rfl | rfl | rfl | rfl | rfl | rfl | rfl | rfl | rfl | rfl | rfl | rfl | rfl | rfl) | h
  all_goals (try exact ⟨_, rfl, by decide +kernel⟩)
  refine ⟨⟨#[]⟩, ?_, ?_⟩
  · unfold impl_OpName impl_in
    rcases h with h | h
    · simp [show ¬ 0 ≤ a by omega]
    · simp [show 0 ≤ a by omega, show ¬ a ≤ 38 by omega]
  · have : opKnown a = false := by unfold opKnown; rw [decide_eq_false_iff_not]; omega
    rw [this]; simp

theorem specIns (k : Nat) {p : GProgram} {f : Nat} {m : GFunc} (hm : p.funcs[f]? = some m) (i : GI2) : spec_InsRight k p (f : Int) i = some (insOk p m i) := by
  obtain ⟨a, b⟩ := i
  have hf := (List.getElem?_eq_some_iff.1 hm).1
  obtain ⟨t, ht, hk⟩ := specOp k a
  unfold spec_InsRight spec_InsRight.a1 spec_InsRight.a2 spec_InsRight.a3 spec_InsRight.a4 insOk
  simp only [show ¬ (f : Int) < 0 by omega, show ¬ (f : Int) ≥ (p.funcs.length : Int) by omega, decide_false, cond_false, Option.bind_some, Sum.elim_inr, idx_nat, hm, ht, hk]
  by_cases h1 : a = 1
  · simp [h1]
  have e1 : (a == 1) = false := by simpa using h1
  by_cases h2 : a = 2
  · by_cases hb : 0 ≤ b <;> simp [h2, hb, idx_nat, hm]
  have e2 : (a == 2) = false := by simpa using h2
  by_cases h3 : a = 3
  · by_cases hb : 0 ≤ b <;> simp [h3, hb, idx_nat, hm]
  have e3 : (a == 3) = false := by simpa using h3
  by_cases h4 : a = 30
  · by_cases hb : 0 ≤ b <;> simp [h4, hb, idx_nat, hm]
  have e4 : (a == 30) = false := by simpa using h4
  by_cases h5 : a = 31
  · by_cases hb : 0 ≤ b <;> simp [h5, hb, idx_nat, hm]
  have e5 : (a == 31) = false := by simpa using h5
  by_cases h6 : a = 32
  · by_cases hb : 0 ≤ b <;> simp [h6, hb, idx_nat, hm]
  have e6 : (a == 32) = false := by simpa using h6
  simp only [e1, e2, e3, e4, e5, e6, h1, h2, h3, h4, h5, h6, cond_false, Option.bind_some, Sum.elim_inr, if_false, or_self]
  simp only [ht, hk, Option.bind_some, Bool.not_not]
  cases opKnown a <;> simp

theorem implIns (k : Nat) {p : GProgram} {f : Nat} {m : GFunc} (hm : p.funcs[f]? = some m) (i : GI2) : impl_InsRight k p (f : Int) i = some (insOk p m i) := by
  obtain ⟨a, b⟩ := i
  have hf := (List.getElem?_eq_some_iff.1 hm).1
  obtain ⟨t, ht, hk⟩ := implOp a
  unfold impl_InsRight impl_InsRight.a1 impl_InsRight.a2 impl_InsRight.a3 impl_hasFunc insOk
  simp only [show (f : Int) ≥ 0 by omega, show (f : Int) < (p.funcs.length : Int) by omega, decide_true, cond_true, cond_false, Bool.not_true, Option.bind_some, Sum.elim_inr, idx_nat, hm, ht, hk]
  by_cases h1 : a = 1
  · simp [h1]
  have e1 : (a == 1) = false := by simpa using h1
  by_cases h2 : a = 2
  · by_cases hb : 0 ≤ b <;> simp [h2, hb, idx_nat, hm]
  have e2 : (a == 2) = false := by simpa using h2
  by_cases h3 : a = 3
  · by_cases hb : 0 ≤ b <;> simp [h3, hb, idx_nat, hm]
  have e3 : (a == 3) = false := by simpa using h3
  by_cases h4 : a = 30
  · by_cases hb : 0 ≤ b <;> simp [h4, hb, idx_nat, hm]
  have e4 : (a == 30) = false := by simpa using h4
  by_cases h5 : a = 31
  · by_cases hb : 0 ≤ b <;> simp [h5, hb, idx_nat, hm]
  have e5 : (a == 31) = false := by simpa using h5
  by_cases h6 : a = 32
  · by_cases hb : 0 ≤ b <;> simp [h6, hb, idx_nat, hm]
  have e6 : (a == 32) = false := by simpa using h6
  simp only [e1, e2, e3, e4, e5, e6, h1, h2, h3, h4, h5, h6, cond_false, Option.bind_some, Sum.elim_inr, if_false, or_self]
  simp only [ht, hk, Option.bind_some, Bool.not_not]
  cases opKnown a <;> simp

theorem insOk_jump {p : GProgram} {m : GFunc} {i : GI2} (h : insOk p m i = true) (hj : i.a = 30 ∨ i.a = 31) : 0 ≤ i.b ∧ i.b < (m.code.length : Int) := by
  unfold insOk at h
  rw [if_neg (by omega), if_neg (by omega), if_pos hj] at h
  simpa using h

/-! ### Heights, from the beginning -/
def h0 (n : Nat) : List Int := (List.replicate n (-1)).set 0 0
def w0 (n : Nat) : List Bool := (List.replicate n false).set 0 true
theorem h0_len (n : Nat) : (h0 n).length = n := by simp [h0]
theorem w0_len (n : Nat) : (w0 n).length = n := by simp [w0]
theorem h0_inv {A W : Int → Prop} (n : Nat) (a1 : A (-1)) (a0 : A 0) (hw : W 0) : HInv A W (h0 n) (w0 n) := by
  refine ⟨by rw [h0_len, w0_len], fun j x hx => ?_, fun j x hx hj => ?_⟩
  · by_cases e : 0 = j
    · subst e
      unfold h0 at hx
      by_cases hn : 0 < n
      · rw [List.getElem?_set_self (by simpa using hn)] at hx; cases hx; exact a0
      · rw [List.getElem?_eq_none (by simp; omega)] at hx; cases hx
    · unfold h0 at hx
      rw [List.getElem?_set_ne e, List.getElem?_replicate] at hx
      split at hx
      · cases hx; exact a1
      · cases hx
  · by_cases e : 0 = j
    · subst e
      unfold h0 at hx
      by_cases hn : 0 < n
      · rw [List.getElem?_set_self (by simpa using hn)] at hx; cases hx; exact hw
      · rw [List.getElem?_eq_none (by simp; omega)] at hx; cases hx
    · unfold w0 at hj
      rw [List.getElem?_set_ne e, List.getElem?_replicate] at hj
      split at hj <;> cases hj

theorem specFill (fs : List GFunc) (z : GI3) (f : Int) (code : List GI2) (n : Nat) (hn : n < 1000000) : ∀ (d i : Nat) (acc : List Int), n - i = d → i ≤ n → acc.length = n → (∀ j : Nat, j < i → acc[j]? = some (-1)) →
    Ev (fun k => spec_l04Heights.l1 k fs z acc f code (i : Int)) (fs, z, List.replicate n (-1), f, code) := by
  intro d
  induction d with
  | zero =>
    intro i acc hd hi ha hj
    have : acc = List.replicate n (-1) := by
      apply List.ext_getElem?
      intro j
      rcases Nat.lt_or_ge j n with h | h
      · rw [hj j (by omega), List.getElem?_replicate, if_pos h]
      · rw [List.getElem?_eq_none (by omega), List.getElem?_eq_none (by simp; omega)]
    rw [this]
    refine Ev.succ ?_
    simp only [spec_l04Heights.l1]
    exact Ev.cf (df (by simp; omega)) Ev.pure
  | succ d ih =>
    intro i acc hd hi ha hj
    obtain ⟨m, hm⟩ := list_get (show i < acc.length by omega)
    refine Ev.succ ?_
    simp only [spec_l04Heights.l1]
    refine Ev.ct (dt (by omega)) (Ev.idx hm ?_)
    rw [wrap_nat (by omega), Int.toNat_natCast]
    refine ih (i + 1) _ (by omega) (by omega) (by simpa using ha) (fun j hji => ?_)
    by_cases e : i = j
    · subst e; rw [List.getElem?_set_self (by omega)]
    · rw [List.getElem?_set_ne e]; exact hj j (by omega)
theorem implFill (fs : List GFunc) (w : List Bool) (code : List GI2) (n : Nat) (hn : n < 1000000) : ∀ (d i : Nat) (acc : List Int), n - i = d → i ≤ n → acc.length = n → (∀ j : Nat, j < i → acc[j]? = some (-1)) →
    Ev (fun k => impl_heightsOf.l1 k fs acc w code (n : Int) (i : Int)) (fs, List.replicate n (-1), w, code) := by
  intro d
  induction d with
  | zero =>
    intro i acc hd hi ha hj
    have : acc = List.replicate n (-1) := by
      apply List.ext_getElem?
      intro j
      rcases Nat.lt_or_ge j n with h | h
      · rw [hj j (by omega), List.getElem?_replicate, if_pos h]
      · rw [List.getElem?_eq_none (by omega), List.getElem?_eq_none (by simp; omega)]
    rw [this]
    refine Ev.succ ?_
    simp only [impl_heightsOf.l1]
    exact Ev.cf (df (by omega)) Ev.pure
  | succ d ih =>
    intro i acc hd hi ha hj
    obtain ⟨m, hm⟩ := list_get (show i < acc.length by omega)
    refine Ev.succ ?_
    simp only [impl_heightsOf.l1]
    refine Ev.ct (dt (by omega)) (Ev.idx hm ?_)
    rw [wrap_nat (by omega), Int.toNat_natCast]
    refine ih (i + 1) _ (by omega) (by omega) (by simpa using ha) (fun j hji => ?_)
    by_cases e : i = j
    · subst e; rw [List.getElem?_set_self (by omega)]
    · rw [List.getElem?_set_ne e]; exact hj j (by omega)

theorem rep_get {α : Type} {n : Nat} {x : α} (h : 1 ≤ n) : (List.replicate n x)[(0 : Int).toNat]? = some x := by
  rw [List.getElem?_replicate, if_pos (by simp; omega)]

theorem specHeights {p : GProgram} {f : Nat} {m : GFunc} (hm : p.funcs[f]? = some m) (hj : JumpsOk m.code) (h1 : 1 ≤ m.code.length) (h2 : m.code.length ≤ 60) {r : Option (List Int)}
    (hr : HRun (stepS p m.code) (h0 m.code.length) (w0 m.code.length) r) : ∃ o, Ev (fun k => spec_l04Heights k p (f : Int)) o ∧ SpecRes m.code o r := by
  obtain ⟨o, ho, hres⟩ := specRun p (f : Int) m.code ⟨0, 0, 0⟩ hj (by omega) hr (h0_len _) (w0_len _)
  refine ⟨o, ?_, hres⟩
  unfold spec_l04Heights
  refine Ev.idx hm (Ev.gd ⟨by omega, by omega, by omega⟩ (Ev.bind (specFill p.funcs ⟨0, 0, 0⟩ (f : Int) m.code m.code.length (by omega) _ 0 _ rfl (by omega) (by simp) (fun j hj => by omega)) ?_))
  refine Ev.idxI (by omega) (rep_get h1) (Ev.gd ⟨by simp, by simp; omega, by simp; omega⟩ (Ev.idxI (by omega) (rep_get h1) (Ev.bind ho Ev.pure)))

/-- What the program's heights tell. -/
def HRes (code : List GI2) (o : List Int × Int × Int) : Option (List Int) → Prop
  | some hf => o = (hf, 0, 0) ∧ hf.length = code.length
  | none => o.2.2 ≠ 0
theorem implHeights {p : GProgram} {f : Nat} {m : GFunc} (hm : p.funcs[f]? = some m) (hj : JumpsOk m.code) (h1 : 1 ≤ m.code.length) (h2 : m.code.length ≤ 60) {r : Option (List Int)}
    (hr : HRun (stepI p m.code) (h0 m.code.length) (w0 m.code.length) r) : ∃ o, Ev (fun k => impl_heightsOf k p (f : Int)) o ∧ HRes m.code o r := by
  obtain ⟨o, ho, hres⟩ := implRun p m.code hj (by omega) hr (h0_len _) (w0_len _) 0 (by omega) (fun j hj => by omega)
  have key : ∀ o', (Ev (fun _ => (Sum.elim (fun o2l => some (o2l.1, o2l.2.1, o2l.2.2)) (fun o2r => some (o2r, 0, 0)) o : Option (List Int × Int × Int))) o') → Ev (fun k => impl_heightsOf k p (f : Int)) o' := by
    intro o' h'
    unfold impl_heightsOf
    refine Ev.idx hm (Ev.gd ⟨by omega, by omega, by omega⟩ (Ev.gd ⟨by omega, by omega, by omega⟩ (Ev.bind (implFill p.funcs _ m.code m.code.length (by omega) _ 0 _ rfl (by omega) (by simp) (fun j hj => by omega)) ?_)))
    exact Ev.idxI (by omega) (rep_get h1) (Ev.idxI (by omega) (rep_get h1) (Ev.bind ho h'))
  cases r with
  | none =>
    obtain ⟨e, rfl, he⟩ := hres
    exact ⟨_, key _ Ev.pure, he⟩
  | some hf =>
    obtain ⟨rfl, hl⟩ := hres
    exact ⟨_, key _ Ev.pure, rfl, hl⟩

/-- Both heights have an answer; where no function takes more than it may they are the same. -/
theorem heights_both {p : GProgram} (ha : Args64 p) {f : Nat} {m : GFunc} (hm : p.funcs[f]? = some m) (hj : JumpsOk m.code) (h1 : 1 ≤ m.code.length) (h2 : m.code.length ≤ 60) :
    ∃ rI rS oI oS, HRun (stepI p m.code) (h0 m.code.length) (w0 m.code.length) rI ∧ Ev (fun k => impl_heightsOf k p (f : Int)) oI ∧ HRes m.code oI rI ∧ Ev (fun k => spec_l04Heights k p (f : Int)) oS ∧ SpecRes m.code oS rS ∧ (Normal p → rI = rS ∧ HRun (stepN p m.code) (h0 m.code.length) (w0 m.code.length) rI) := by
  obtain ⟨rI, hI⟩ := run_ex (goodI p m.code ha) _ _ _ rfl (h0_len _) (h0_inv m.code.length (by omega) (by omega) (by omega))
  obtain ⟨rS, hS⟩ := run_ex (goodS p m.code ha) _ _ _ rfl (h0_len _) (h0_inv m.code.length (by omega) (by omega) (by omega))
  obtain ⟨oI, e1, e2⟩ := implHeights hm hj h1 h2 hI
  obtain ⟨oS, e3, e4⟩ := specHeights hm hj h1 h2 hS
  refine ⟨rI, rS, oI, oS, hI, e1, e2, e3, e4, fun hN => ?_⟩
  have hi : HInv A1 W1 (h0 m.code.length) (w0 m.code.length) := h0_inv m.code.length (by omega) (by omega) (by omega)
  have i1 := run_N hN (fun x h w hh hw => stepI_N hN hh hw) hI hi
  have i2 := run_N hN (fun x h w hh hw => stepS_N hN hh hw) hS hi
  exact ⟨run_same i1 i2, i1⟩

end Go.Proofs.Ytdlaplgofgklnaa
namespace Go.Proofs.Ytdlaplgofgklnaa
open Go.Proofs Go.Proofs.Ytdlaplgofgklnaa.L
set_option linter.unusedVariables false
set_option linter.unusedSimpArgs false

structure FormOk (p : GProgram) (m : GFunc) : Prop where
  args : 0 ≤ m.args ∧ m.args ≤ 4
  locals : m.args ≤ m.locals ∧ m.locals ≤ 8
  code : 1 ≤ m.code.length ∧ m.code.length ≤ 60
  ins : ∀ i ∈ m.code, insOk p m i = true
theorem FormOk.jumps {p : GProgram} {m : GFunc} (h : FormOk p m) : JumpsOk m.code := fun i hi hj => insOk_jump (h.ins i hi) hj

abbrev RunI (p : GProgram) (m : GFunc) (r : Option (List Int)) : Prop := HRun (stepI p m.code) (h0 m.code.length) (w0 m.code.length) r
abbrev RunS (p : GProgram) (m : GFunc) (r : Option (List Int)) : Prop := HRun (stepS p m.code) (h0 m.code.length) (w0 m.code.length) r
abbrev RunN (p : GProgram) (m : GFunc) (r : Option (List Int)) : Prop := HRun (stepN p m.code) (h0 m.code.length) (w0 m.code.length) r

/-- Do all instructions from a place on stand right? -/
theorem ins_from {p : GProgram} {m : GFunc} : (∀ i ∈ m.code, insOk p m i = true) ∨ ∃ x i, m.code[x]? = some i ∧ insOk p m i = false ∧ ∀ (y : Nat) (j : GI2), y < x → m.code[y]? = some j → insOk p m j = true := by
  by_cases h : ∀ i ∈ m.code, insOk p m i = true
  · exact .inl h
  · right
    obtain ⟨x, i, hx, hi⟩ : ∃ x i, m.code[x]? = some i ∧ insOk p m i = false := by
      have : ∃ i, i ∈ m.code ∧ insOk p m i = false := by
        refine Classical.byContradiction fun hh => h fun i hi => ?_
        cases e : insOk p m i with
        | true => rfl
        | false => exact absurd ⟨i, hi, e⟩ hh
      obtain ⟨i, hi, he⟩ := this
      obtain ⟨x, hx⟩ := List.getElem?_of_mem hi
      exact ⟨x, i, hx, he⟩
    induction x using Nat.strongRecOn generalizing i with
    | _ x ih =>
      by_cases c : ∃ y j, y < x ∧ m.code[y]? = some j ∧ insOk p m j = false
      · obtain ⟨y, j, hy, hj, he⟩ := c
        exact ih y hy j hj he
      · refine ⟨x, i, hx, hi, fun y j hy hj => ?_⟩
        cases e : insOk p m j with
        | true => rfl
        | false => exact absurd ⟨y, j, hy, hj, e⟩ c

theorem implInsLoop {p : GProgram} {f : Nat} {m : GFunc} (hm : p.funcs[f]? = some m) (hl : m.code.length ≤ 60) (z : GI3) (hs : List (List Int)) (fs : List GFunc) (L J : Int) (h : ∀ i ∈ m.code, insOk p m i = true) : ∀ (d x : Nat), m.code.length - x = d → x ≤ m.code.length →
    Ev (fun k => impl_verify.l5 k p.funcs z hs (f : Int) fs L J m.code (m.code.length : Int) (x : Int)) (.inr (p.funcs, z, hs, (f : Int), fs, L, J)) := by
  intro d
  induction d with
  | zero =>
    intro x hd hx
    refine Ev.succ ?_
    simp only [impl_verify.l5]
    exact Ev.cf (df (by omega)) Ev.pure
  | succ d ih =>
    intro x hd hx
    obtain ⟨i, hi⟩ := list_get (show x < m.code.length by omega)
    refine Ev.succ ?_
    simp only [impl_verify.l5]
    refine Ev.ct (dt (by omega)) (Ev.idx hi (Ev.bind (Ev.of fun k => implIns k hm i) (Ev.cf (by rw [h i (List.mem_of_getElem? hi)]; rfl) ?_)))
    rw [wrap_nat (by omega)]
    exact ih (x + 1) (by omega) (by omega)
theorem implInsBad {p : GProgram} {f : Nat} {m : GFunc} (hm : p.funcs[f]? = some m) (hl : m.code.length ≤ 60) (z : GI3) (hs : List (List Int)) (fs : List GFunc) (L J : Int) {y : Nat} {b : GI2} (hy : m.code[y]? = some b) (hb : insOk p m b = false) (h : ∀ (x : Nat) (j : GI2), x < y → m.code[x]? = some j → insOk p m j = true) : ∀ (d x : Nat), y - x = d → x ≤ y →
    Ev (fun k => impl_verify.l5 k p.funcs z hs (f : Int) fs L J m.code (m.code.length : Int) (x : Int)) (.inl (⟨(f : Int), (y : Int), 1⟩, [])) := by
  have hyl := (List.getElem?_eq_some_iff.1 hy).1
  intro d
  induction d with
  | zero =>
    intro x hd hx
    have : x = y := by omega
    subst this
    refine Ev.succ ?_
    simp only [impl_verify.l5]
    exact Ev.ct (dt (by omega)) (Ev.idx hy (Ev.bind (Ev.of fun k => implIns k hm b) (Ev.ct (by rw [hb]; rfl) Ev.pure)))
  | succ d ih =>
    intro x hd hx
    obtain ⟨i, hi⟩ := list_get (show x < m.code.length by omega)
    refine Ev.succ ?_
    simp only [impl_verify.l5]
    refine Ev.ct (dt (by omega)) (Ev.idx hi (Ev.bind (Ev.of fun k => implIns k hm i) (Ev.cf (by rw [h x i (by omega) hi]; rfl) ?_)))
    rw [wrap_nat (by omega)]
    exact ih (x + 1) (by omega) (by omega)

theorem specInsLoop {p : GProgram} {f : Nat} {m : GFunc} (hm : p.funcs[f]? = some m) (hl : m.code.length ≤ 60) (z : GI3) (A B : Int) (h : ∀ i ∈ m.code, insOk p m i = true) : ∀ (d x : Nat), m.code.length - x = d → x ≤ m.code.length →
    Ev (fun k => spec_l04Func.l2 k p.funcs z A B m.code (f : Int) (x : Int)) (.inr (p.funcs, z, (f : Int))) := by
  intro d
  induction d with
  | zero =>
    intro x hd hx
    refine Ev.succ ?_
    simp only [spec_l04Func.l2]
    exact Ev.cf (df (by omega)) Ev.pure
  | succ d ih =>
    intro x hd hx
    obtain ⟨i, hi⟩ := list_get (show x < m.code.length by omega)
    refine Ev.succ ?_
    simp only [spec_l04Func.l2]
    refine Ev.ct (dt (by omega)) (Ev.idx hi (Ev.bind (Ev.of fun k => specIns k hm i) (Ev.cf (by rw [h i (List.mem_of_getElem? hi)]; rfl) ?_)))
    rw [wrap_nat (by omega)]
    exact ih (x + 1) (by omega) (by omega)
theorem specInsBad {p : GProgram} {f : Nat} {m : GFunc} (hm : p.funcs[f]? = some m) (hl : m.code.length ≤ 60) (z : GI3) (A B : Int) {y : Nat} {b : GI2} (hy : m.code[y]? = some b) (hb : insOk p m b = false) (h : ∀ (x : Nat) (j : GI2), x < y → m.code[x]? = some j → insOk p m j = true) : ∀ (d x : Nat), y - x = d → x ≤ y →
    Ev (fun k => spec_l04Func.l2 k p.funcs z A B m.code (f : Int) (x : Int)) (.inl ⟨(f : Int), (y : Int), 1⟩) := by
  have hyl := (List.getElem?_eq_some_iff.1 hy).1
  intro d
  induction d with
  | zero =>
    intro x hd hx
    have : x = y := by omega
    subst this
    refine Ev.succ ?_
    simp only [spec_l04Func.l2]
    exact Ev.ct (dt (by omega)) (Ev.idx hy (Ev.bind (Ev.of fun k => specIns k hm b) (Ev.ct (by rw [hb]; rfl) Ev.pure)))
  | succ d ih =>
    intro x hd hx
    obtain ⟨i, hi⟩ := list_get (show x < m.code.length by omega)
    refine Ev.succ ?_
    simp only [spec_l04Func.l2]
    refine Ev.ct (dt (by omega)) (Ev.idx hi (Ev.bind (Ev.of fun k => specIns k hm i) (Ev.cf (by rw [h x i (by omega) hi]; rfl) ?_)))
    rw [wrap_nat (by omega)]
    exact ih (x + 1) (by omega) (by omega)

def formB (m : GFunc) : Prop := (0 ≤ m.args ∧ m.args ≤ 4) ∧ (m.args ≤ m.locals ∧ m.locals ≤ 8) ∧ 1 ≤ m.code.length ∧ m.code.length ≤ 60
instance (m : GFunc) : Decidable (formB m) := by unfold formB; exact inferInstance

theorem impl_in_eq (n a b : Int) : impl_in n a b = some (decide (a ≤ n ∧ n ≤ b)) := by
  unfold impl_in
  by_cases h : a ≤ n
  · simp [h]
  · simp [h]

/-- What is asked of a function, in the program. -/
theorem implFunc {p : GProgram} (ha : Args64 p) {f : Nat} {m : GFunc} (hm : p.funcs[f]? = some m) (z : GI3) (L : Int) :
    (∃ e : GI3, e.c ≠ 0 ∧ (∀ h, ¬ (FormOk p m ∧ RunI p m (some h))) ∧ ∀ hs, Ev (fun k => impl_verify.a3 k p.funcs z hs p.funcs L (f : Int)) (.inl (e, []))) ∨
    (∃ h, FormOk p m ∧ RunI p m (some h) ∧ h.length = m.code.length ∧ ∀ hs : List (List Int), hs.length ≤ 100 → Ev (fun k => impl_verify.a3 k p.funcs z hs p.funcs L (f : Int)) (.inr (p.funcs, z, hs ++ [h], p.funcs, L, (f : Int)))) := by
  by_cases hf : formB m
  · obtain ⟨f1, f2, f3, f4⟩ := hf
    have ha4 : ∀ hs, Ev (fun k => impl_verify.a4 k p.funcs z hs m.args m.locals m.code (f : Int) p.funcs L (f : Int)) (.inr (p.funcs, z, hs, m.args, m.locals, m.code, (f : Int), p.funcs, L, (f : Int))) := by
      intro hs
      unfold impl_verify.a4
      simp only [impl_in_eq]
      refine Ev.bind Ev.pure (Ev.cf (by simp; omega) (Ev.bind Ev.pure (Ev.cf (by simp; omega) (Ev.bind Ev.pure (Ev.cf (by simp; omega) Ev.pure)))))
    rcases ins_from (p := p) (m := m) with hi | ⟨y, b, hy, hb, hlt⟩
    · have hF : FormOk p m := ⟨f1, f2, ⟨f3, f4⟩, hi⟩
      obtain ⟨rI, rS, oI, oS, hI, e1, e2, -, -, -⟩ := heights_both ha hm hF.jumps f3 f4
      cases rI with
      | none =>
        left
        refine ⟨⟨(f : Int), oI.2.1, oI.2.2⟩, e2, fun h hh => (by have := run_same hI hh.2; cases this), fun hs => ?_⟩
        unfold impl_verify.a3
        refine Ev.idx hm (Ev.bind (ha4 hs) (Ev.bind (implInsLoop hm f4 z hs p.funcs L (f : Int) hi _ 0 rfl (by omega)) ?_))
        refine Ev.bind e1 (Ev.ct ?_ Ev.pure)
        have e2' : oI.2.2 ≠ 0 := e2
        simpa using e2'
      | some h =>
        right
        obtain ⟨rfl, hl⟩ := e2
        refine ⟨h, hF, hI, hl, fun hs hlen => ?_⟩
        unfold impl_verify.a3
        refine Ev.idx hm (Ev.bind (ha4 hs) (Ev.bind (implInsLoop hm f4 z hs p.funcs L (f : Int) hi _ 0 rfl (by omega)) ?_))
        exact Ev.bind e1 (Ev.cf (by simp) (Ev.gd ⟨by simp only []; omega, by simp only []; omega⟩ Ev.pure))
    · left
      refine ⟨⟨(f : Int), (y : Int), 1⟩, by simp, fun h hh => (by have := hh.1.ins b (List.mem_of_getElem? hy); rw [hb] at this; cases this), fun hs => ?_⟩
      unfold impl_verify.a3
      exact Ev.idx hm (Ev.bind (ha4 hs) (Ev.bind (implInsBad hm f4 z hs p.funcs L (f : Int) hy hb hlt _ 0 rfl (by omega)) Ev.pure))
  · left
    refine ⟨⟨(f : Int), 0, 1⟩, by simp, fun h hh => hf ⟨hh.1.args, hh.1.locals, hh.1.code⟩, fun hs => ?_⟩
    have ha4 : Ev (fun k => impl_verify.a4 k p.funcs z hs m.args m.locals m.code (f : Int) p.funcs L (f : Int)) (.inl (⟨(f : Int), 0, 1⟩, [])) := by
      unfold impl_verify.a4
      simp only [impl_in_eq]
      refine Ev.bind Ev.pure ?_
      by_cases c1 : 0 ≤ m.args ∧ m.args ≤ 4
      · refine Ev.cf (by simp; omega) (Ev.bind Ev.pure ?_)
        by_cases c2 : m.args ≤ m.locals ∧ m.locals ≤ 8
        · refine Ev.cf (by simp; omega) (Ev.bind Ev.pure ?_)
          by_cases c3 : 1 ≤ m.code.length ∧ m.code.length ≤ 60
          · exact absurd ⟨c1, c2, c3⟩ hf
          · exact Ev.ct (by simp; omega) Ev.pure
        · exact Ev.ct (by simp; omega) Ev.pure
      · exact Ev.ct (by simp; omega) Ev.pure
    unfold impl_verify.a3
    exact Ev.idx hm (Ev.bind ha4 Ev.pure)

/-- .. in the reference. -/
theorem specFunc {p : GProgram} (ha : Args64 p) {f : Nat} {m : GFunc} (hm : p.funcs[f]? = some m) :
    ∃ o, Ev (fun k => spec_l04Func k p (f : Int)) o ∧ (o.c = 0 ↔ FormOk p m ∧ ∃ h, RunS p m (some h)) := by
  by_cases hf : formB m
  · obtain ⟨f1, f2, f3, f4⟩ := hf
    have ha1 : Ev (fun k => spec_l04Func.a1 k p.funcs ⟨0, 0, 0⟩ m.args m.locals m.code (f : Int)) (.inr (p.funcs, ⟨0, 0, 0⟩, m.args, m.locals, m.code, (f : Int))) := by
      unfold spec_l04Func.a1
      exact Ev.cf (df (by omega)) (Ev.cf (df (by omega)) (Ev.cf (df (by omega)) (Ev.cf (df (by omega)) (Ev.cf (df (by omega)) (Ev.cf (df (by omega)) Ev.pure)))))
    rcases ins_from (p := p) (m := m) with hi | ⟨y, b, hy, hb, hlt⟩
    · have hF : FormOk p m := ⟨f1, f2, ⟨f3, f4⟩, hi⟩
      obtain ⟨rS, hS⟩ := run_ex (goodS p m.code ha) _ _ _ rfl (h0_len _) (h0_inv m.code.length (by omega) (by omega) (by omega))
      obtain ⟨oS, e3, e4⟩ := specHeights hm hF.jumps f3 f4 hS
      refine ⟨oS.2, ?_, ?_⟩
      · unfold spec_l04Func
        exact Ev.idx hm (Ev.bind ha1 (Ev.bind (specInsLoop hm f4 ⟨0, 0, 0⟩ m.args m.locals hi _ 0 rfl (by omega)) (Ev.bind e3 Ev.pure)))
      · cases rS with
        | none =>
          refine ⟨fun h => absurd h e4, fun ⟨_, h, hh⟩ => ?_⟩
          have := run_same hS hh; cases this
        | some h =>
          obtain ⟨rfl, hl⟩ := e4
          exact ⟨fun _ => ⟨hF, h, hS⟩, fun _ => rfl⟩
    · refine ⟨⟨(f : Int), (y : Int), 1⟩, ?_, ?_⟩
      · unfold spec_l04Func
        exact Ev.idx hm (Ev.bind ha1 (Ev.bind (specInsBad hm f4 ⟨0, 0, 0⟩ m.args m.locals hy hb hlt _ 0 rfl (by omega)) Ev.pure))
      · refine ⟨fun h => (by cases h), fun hh => ?_⟩
        have := hh.1.ins b (List.mem_of_getElem? hy); rw [hb] at this; cases this
  · refine ⟨⟨(f : Int), 0, 1⟩, ?_, ⟨fun h => (by cases h), fun hh => absurd ⟨hh.1.args, hh.1.locals, hh.1.code⟩ hf⟩⟩
    have ha1 : Ev (fun k => spec_l04Func.a1 k p.funcs ⟨0, 0, 0⟩ m.args m.locals m.code (f : Int)) (.inl ⟨(f : Int), 0, 1⟩) := by
      unfold spec_l04Func.a1
      by_cases c1 : m.args < 0
      · exact Ev.ct (dt c1) Ev.pure
      refine Ev.cf (df c1) ?_
      by_cases c2 : m.args > 4
      · exact Ev.ct (dt c2) Ev.pure
      refine Ev.cf (df c2) ?_
      by_cases c3 : m.locals < m.args
      · exact Ev.ct (dt c3) Ev.pure
      refine Ev.cf (df c3) ?_
      by_cases c4 : m.locals > 8
      · exact Ev.ct (dt c4) Ev.pure
      refine Ev.cf (df c4) ?_
      by_cases c5 : (m.code.length : Int) < 1
      · exact Ev.ct (dt c5) Ev.pure
      refine Ev.cf (df c5) ?_
      by_cases c6 : (m.code.length : Int) > 60
      · exact Ev.ct (dt c6) Ev.pure
      exact absurd ⟨by omega, by omega, by omega, by omega⟩ hf
    unfold spec_l04Func
    exact Ev.idx hm (Ev.bind ha1 Ev.pure)
/-- A right program. -/
structure RightP (p : GProgram) : Prop where
  many : 1 ≤ p.funcs.length ∧ p.funcs.length ≤ 6
  all : ∀ m ∈ p.funcs, FormOk p m ∧ ∃ h, RunN p m (some h)
theorem RightP.normal {p : GProgram} (h : RightP p) : Normal p := fun m hm => (h.all m hm).1.args

/-- The heights of its functions. -/
structure Hts (p : GProgram) (hs : List (List Int)) : Prop where
  len : hs.length = p.funcs.length
  at_ : ∀ (x : Nat) (m : GFunc), p.funcs[x]? = some m → ∃ h, hs[x]? = some h ∧ RunN p m (some h) ∧ h.length = m.code.length

theorem inv1 (n : Nat) : HInv A1 W1 (h0 n) (w0 n) := h0_inv n (by omega) (by omega) (by omega)
theorem runI_N {p : GProgram} (hN : Normal p) {m : GFunc} {r : Option (List Int)} (h : RunI p m r) : RunN p m r := run_N hN (fun x h w hh hw => stepI_N hN hh hw) h (inv1 _)
theorem runS_N {p : GProgram} (hN : Normal p) {m : GFunc} {r : Option (List Int)} (h : RunS p m r) : RunN p m r := run_N hN (fun x h w hh hw => stepS_N hN hh hw) h (inv1 _)
theorem runN_I {p : GProgram} (ha : Args64 p) (hN : Normal p) {m : GFunc} {r : Option (List Int)} (h : RunN p m r) : RunI p m r := by
  obtain ⟨r', h'⟩ := run_ex (goodI p m.code ha) _ _ _ rfl (h0_len _) (h0_inv m.code.length (by omega) (by omega) (by omega))
  rw [run_same h (runI_N hN h')]
  exact h'
theorem runN_S {p : GProgram} (ha : Args64 p) (hN : Normal p) {m : GFunc} {r : Option (List Int)} (h : RunN p m r) : RunS p m r := by
  obtain ⟨r', h'⟩ := run_ex (goodS p m.code ha) _ _ _ rfl (h0_len _) (h0_inv m.code.length (by omega) (by omega) (by omega))
  rw [run_same h (runS_N hN h')]
  exact h'

theorem implVerLoop {p : GProgram} (ha : Args64 p) (hl : p.funcs.length ≤ 6) (z : GI3) : ∀ (d j : Nat) (hs : List (List Int)), p.funcs.length - j = d → j ≤ p.funcs.length → hs.length = j →
    (∀ (x : Nat) (m : GFunc), x < j → p.funcs[x]? = some m → ∃ h, hs[x]? = some h ∧ FormOk p m ∧ RunI p m (some h) ∧ h.length = m.code.length) →
    (∃ e : GI3, e.c ≠ 0 ∧ (∃ m ∈ p.funcs, ∀ h, ¬ (FormOk p m ∧ RunI p m (some h))) ∧ Ev (fun k => impl_verify.l2 k p.funcs z hs p.funcs (p.funcs.length : Int) (j : Int)) (.inl (e, []))) ∨
    (∃ hs', Ev (fun k => impl_verify.l2 k p.funcs z hs p.funcs (p.funcs.length : Int) (j : Int)) (.inr (z, hs')) ∧ hs'.length = p.funcs.length ∧ ∀ (x : Nat) (m : GFunc), p.funcs[x]? = some m → ∃ h, hs'[x]? = some h ∧ FormOk p m ∧ RunI p m (some h) ∧ h.length = m.code.length) := by
  intro d
  induction d with
  | zero =>
    intro j hs hd hj hlen hall
    right
    refine ⟨hs, ?_, by omega, fun x m hm => hall x m (by have := (List.getElem?_eq_some_iff.1 hm).1; omega) hm⟩
    refine Ev.succ ?_
    simp only [impl_verify.l2]
    exact Ev.cf (df (by omega)) Ev.pure
  | succ d ih =>
    intro j hs hd hj hlen hall
    obtain ⟨m, hm⟩ := list_get (show j < p.funcs.length by omega)
    rcases implFunc ha hm z (p.funcs.length : Int) with ⟨e, he, hno, hev⟩ | ⟨h, hF, hI, hlh, hev⟩
    · left
      refine ⟨e, he, ⟨m, List.mem_of_getElem? hm, hno⟩, ?_⟩
      refine Ev.succ ?_
      simp only [impl_verify.l2]
      exact Ev.ct (dt (by omega)) (Ev.bind (hev hs) Ev.pure)
    · have hall' : ∀ (x : Nat) (m : GFunc), x < j + 1 → p.funcs[x]? = some m → ∃ h', (hs ++ [h])[x]? = some h' ∧ FormOk p m ∧ RunI p m (some h') ∧ h'.length = m.code.length := by
        intro x m' hx hm'
        by_cases c : x < j
        · obtain ⟨h', g1, g2⟩ := hall x m' c hm'
          exact ⟨h', by rw [List.getElem?_append_left (by omega)]; exact g1, g2⟩
        · have : x = j := by omega
          subst this
          rw [hm] at hm'
          cases hm'
          exact ⟨h, by rw [List.getElem?_append_right (by omega)]; simp [hlen], hF, hI, hlh⟩
      have step : ∀ o, Ev (fun k => impl_verify.l2 k p.funcs z (hs ++ [h]) p.funcs (p.funcs.length : Int) ((j + 1 : Nat) : Int)) o → Ev (fun k => impl_verify.l2 k p.funcs z hs p.funcs (p.funcs.length : Int) (j : Int)) o := by
        intro o ho
        refine Ev.succ ?_
        simp only [impl_verify.l2]
        refine Ev.ct (dt (by omega)) (Ev.bind (hev hs (by omega)) ?_)
        simp only [Sum.elim_inr]
        rw [wrap_nat (by omega)]
        exact ho
      rcases ih (j + 1) (hs ++ [h]) (by omega) (by omega) (by simp [hlen]) hall' with ⟨e, h1, h2, h3⟩ | ⟨hs', h1, h2⟩
      · exact .inl ⟨e, h1, h2, step _ h3⟩
      · exact .inr ⟨hs', step _ h1, h2⟩

theorem implVerify {p : GProgram} (ha : Args64 p) (hn : p.funcs.length ≤ 1048576) : ∃ r, Ev (fun k => impl_verify k p) r ∧ ((r.1.c = 0 ∧ RightP p ∧ Hts p r.2) ∨ (r.1.c ≠ 0 ∧ ¬ RightP p)) := by
  by_cases c1 : p.funcs.length < 1
  · refine ⟨(⟨0, 0, 1⟩, []), ?_, .inr ⟨by simp, fun h => by have := h.many; omega⟩⟩
    unfold impl_verify impl_verify.a1
    exact Ev.bind (Ev.ct (dt (by omega)) Ev.pure) Ev.pure
  by_cases c2 : p.funcs.length > 6
  · refine ⟨(⟨0, 0, 1⟩, []), ?_, .inr ⟨by simp, fun h => by have := h.many; omega⟩⟩
    unfold impl_verify impl_verify.a1
    exact Ev.bind (Ev.cf (df (by omega)) (Ev.ct (dt (by omega)) Ev.pure)) Ev.pure
  have ha1 : Ev (fun k => impl_verify.a1 k p.funcs ⟨0, 0, 0⟩) (.inr (p.funcs, ⟨0, 0, 0⟩)) := by
    unfold impl_verify.a1
    exact Ev.cf (df (by omega)) (Ev.cf (df (by omega)) Ev.pure)
  rcases implVerLoop ha (by omega) ⟨0, 0, 0⟩ _ 0 [] rfl (by omega) rfl (fun x m hx => by omega) with ⟨e, h1, ⟨m, hm, hno⟩, h3⟩ | ⟨hs', h1, h2, h3⟩
  · refine ⟨(e, []), ?_, .inr ⟨h1, fun h => ?_⟩⟩
    · unfold impl_verify
      exact Ev.bind ha1 (Ev.bind h3 Ev.pure)
    · obtain ⟨g1, hh, g2⟩ := h.all m hm
      exact hno hh ⟨g1, runN_I ha h.normal g2⟩
  · have hN : Normal p := by
      intro m hm
      obtain ⟨x, hx⟩ := List.getElem?_of_mem hm
      obtain ⟨h, -, g, -⟩ := h3 x m hx
      exact g.args
    refine ⟨(⟨0, 0, 0⟩, hs'), ?_, .inl ⟨rfl, ⟨⟨by omega, by omega⟩, fun m hm => ?_⟩, ⟨h2, fun x m hx => ?_⟩⟩⟩
    · unfold impl_verify
      exact Ev.bind ha1 (Ev.bind h1 Ev.pure)
    · obtain ⟨x, hx⟩ := List.getElem?_of_mem hm
      obtain ⟨h, -, g1, g2, -⟩ := h3 x m hx
      exact ⟨g1, h, runI_N hN g2⟩
    · obtain ⟨h, g0, g1, g2, g3⟩ := h3 x m hx
      exact ⟨h, g0, runI_N hN g2, g3⟩

theorem specVerLoop {p : GProgram} (ha : Args64 p) (hl : p.funcs.length ≤ 6) (z : GI3) : ∀ (d j : Nat), p.funcs.length - j = d → j ≤ p.funcs.length →
    (∃ e : GI3, e.c ≠ 0 ∧ (∃ m ∈ p.funcs, ¬ (FormOk p m ∧ ∃ h, RunS p m (some h))) ∧ Ev (fun k => spec_Verify.l2 k p.funcs z (j : Int)) (.inl e)) ∨
    (Ev (fun k => spec_Verify.l2 k p.funcs z (j : Int)) (.inr z) ∧ ∀ (x : Nat) (m : GFunc), j ≤ x → p.funcs[x]? = some m → FormOk p m ∧ ∃ h, RunS p m (some h)) := by
  intro d
  induction d with
  | zero =>
    intro j hd hj
    right
    refine ⟨?_, fun x m hx hm => by have := (List.getElem?_eq_some_iff.1 hm).1; omega⟩
    refine Ev.succ ?_
    simp only [spec_Verify.l2]
    exact Ev.cf (df (by omega)) Ev.pure
  | succ d ih =>
    intro j hd hj
    obtain ⟨m, hm⟩ := list_get (show j < p.funcs.length by omega)
    obtain ⟨o, ho, hiff⟩ := specFunc ha hm
    by_cases c : o.c = 0
    · have step : ∀ o', Ev (fun k => spec_Verify.l2 k p.funcs z ((j + 1 : Nat) : Int)) o' → Ev (fun k => spec_Verify.l2 k p.funcs z (j : Int)) o' := by
        intro o' ho'
        refine Ev.succ ?_
        simp only [spec_Verify.l2]
        refine Ev.ct (dt (by omega)) (Ev.bind ho (Ev.cf (by simp [c]) ?_))
        rw [wrap_nat (by omega)]
        exact ho'
      rcases ih (j + 1) (by omega) (by omega) with ⟨e, h1, h2, h3⟩ | ⟨h1, h2⟩
      · exact .inl ⟨e, h1, h2, step _ h3⟩
      · refine .inr ⟨step _ h1, fun x m' hx hm' => ?_⟩
        by_cases e : x = j
        · subst e
          rw [hm] at hm'
          cases hm'
          exact hiff.1 c
        · exact h2 x m' (by omega) hm'
    · left
      refine ⟨o, c, ⟨m, List.mem_of_getElem? hm, fun h => c (hiff.2 h)⟩, ?_⟩
      refine Ev.succ ?_
      simp only [spec_Verify.l2]
      exact Ev.ct (dt (by omega)) (Ev.bind ho (Ev.ct (by simp [c]) Ev.pure))

theorem specVerify {p : GProgram} (ha : Args64 p) (hn : p.funcs.length ≤ 1048576) : ∃ s, Ev (fun k => spec_Verify k p) s ∧ (s.c = 0 ↔ RightP p) := by
  by_cases c1 : p.funcs.length < 1
  · refine ⟨⟨0, 0, 1⟩, ?_, ⟨fun h => (by cases h), fun h => by have := h.many; omega⟩⟩
    unfold spec_Verify spec_Verify.a1
    exact Ev.bind (Ev.ct (dt (by omega)) Ev.pure) Ev.pure
  by_cases c2 : p.funcs.length > 6
  · refine ⟨⟨0, 0, 1⟩, ?_, ⟨fun h => (by cases h), fun h => by have := h.many; omega⟩⟩
    unfold spec_Verify spec_Verify.a1
    exact Ev.bind (Ev.cf (df (by omega)) (Ev.ct (dt (by omega)) Ev.pure)) Ev.pure
  have ha1 : Ev (fun k => spec_Verify.a1 k p.funcs ⟨0, 0, 0⟩) (.inr (p.funcs, ⟨0, 0, 0⟩)) := by
    unfold spec_Verify.a1
    exact Ev.cf (df (by omega)) (Ev.cf (df (by omega)) Ev.pure)
  rcases specVerLoop ha (by omega) ⟨0, 0, 0⟩ _ 0 rfl (by omega) with ⟨e, h1, ⟨m, hm, hno⟩, h3⟩ | ⟨h1, h2⟩
  · refine ⟨e, ?_, ⟨fun h => absurd h h1, fun h => ?_⟩⟩
    · unfold spec_Verify
      exact Ev.bind ha1 (Ev.bind h3 Ev.pure)
    · obtain ⟨g1, hh, g2⟩ := h.all m hm
      exact absurd ⟨g1, hh, runN_S ha h.normal g2⟩ hno
  · have hN : Normal p := by
      intro m hm
      obtain ⟨x, hx⟩ := List.getElem?_of_mem hm
      exact (h2 x m (by omega) hx).1.args
    refine ⟨⟨0, 0, 0⟩, ?_, ⟨fun _ => ⟨⟨by omega, by omega⟩, fun m hm => ?_⟩, fun _ => rfl⟩⟩
    · unfold spec_Verify
      exact Ev.bind ha1 (Ev.bind h1 Ev.pure)
    · obtain ⟨x, hx⟩ := List.getElem?_of_mem hm
      obtain ⟨g1, h, g2⟩ := h2 x m (by omega) hx
      exact ⟨g1, h, runS_N hN g2⟩

/-! ### What the program knows -/
theorem known_ev {p : GProgram} (ha : Args64 p) (hn : p.funcs.length ≤ 1048576) : ∃ hs ok, Ev (fun k => impl_known k p) (⟨p, hs⟩, ok) ∧ (ok = true ↔ RightP p) ∧ (RightP p → Hts p hs) := by
  obtain ⟨r, hr, h⟩ := implVerify ha hn
  refine ⟨r.2, r.1.c == 0, Ev.bind hr Ev.pure, ?_, ?_⟩
  · rcases h with ⟨h1, h2, -⟩ | ⟨h1, h2⟩
    · simp [h1, h2]
    · simp [h1, h2]
  · intro hp
    rcases h with ⟨-, -, h3⟩ | ⟨-, h2⟩
    · exact h3
    · exact absurd hp h2

theorem hasFunc_eq (p : GProgram) (f : Int) : impl_hasFunc p f = some (decide (0 ≤ f ∧ f < (p.funcs.length : Int))) := by
  unfold impl_hasFunc
  by_cases h : 0 ≤ f
  · simp [h]
  · simp [h]

theorem knownFunc_ev {p : GProgram} (ha : Args64 p) (hn : p.funcs.length ≤ 1048576) (f : Int) : ∃ hs ok, Ev (fun k => impl_knownFunc k p f) (⟨p, hs⟩, ok) ∧ (ok = true ↔ RightP p ∧ 0 ≤ f ∧ f < (p.funcs.length : Int)) ∧ (RightP p → Hts p hs) := by
  obtain ⟨hs, ok, h1, h2, h3⟩ := known_ev ha hn
  cases ok with
  | true =>
    refine ⟨hs, decide (0 ≤ f ∧ f < (p.funcs.length : Int)), ?_, ?_, h3⟩
    · unfold impl_knownFunc
      refine Ev.bind h1 (Ev.ct rfl (Ev.bind (Ev.const (hasFunc_eq p f)) Ev.pure))
    · simp [h2.1 rfl]
  | false =>
    refine ⟨hs, false, ?_, ?_, h3⟩
    · unfold impl_knownFunc
      exact Ev.bind h1 (Ev.cf rfl Ev.pure)
    · have : ¬ RightP p := fun h => by cases h2.2 h
      simp [this]

theorem specIs_ev {p : GProgram} (ha : Args64 p) (hn : p.funcs.length ≤ 1048576) (f : Int) : ∃ ok, Ev (fun k => spec_l04Is k p f) ok ∧ (ok = true ↔ RightP p ∧ 0 ≤ f ∧ f < (p.funcs.length : Int)) := by
  obtain ⟨s, h1, h2⟩ := specVerify ha hn
  have hr : Ev (fun k => spec_l04Right k p) (s.c == 0) := Ev.bind h1 Ev.pure
  by_cases c : s.c = 0
  · refine ⟨decide (0 ≤ f ∧ f < (p.funcs.length : Int)), ?_, by simp [h2.1 c]⟩
    unfold spec_l04Is
    refine Ev.bind hr (Ev.ct (by simp [c]) ?_)
    by_cases h : 0 ≤ f
    · refine Ev.ct (dt h) ?_
      simp only [h, true_and]
      exact Ev.pure
    · refine Ev.cf (df h) ?_
      simp only [h, false_and, decide_false]
      exact Ev.pure
  · have : ¬ RightP p := fun h => c (h2.2 h)
    refine ⟨false, ?_, by simp [this]⟩
    unfold spec_l04Is
    exact Ev.bind hr (Ev.cf (by simp [c]) Ev.pure)

/-! ### What heights tell -/
def hit (code : List GI2) (h : List Int) (t : Int) (x : Nat) : Bool := match code[x]?, h[x]? with
  | some i, some y => decide (0 ≤ y) && (nextL i (x : Int)).contains t
  | _, _ => false
def predsUp (code : List GI2) (h : List Int) (t : Int) : Nat → List Int
  | 0 => []
  | x + 1 => predsUp code h t x ++ (if hit code h t x then [(x : Int)] else [])
/-! ### The reference's table -/
/-- A table whose rows are the predecessors so far. -/
structure Tab (code : List GI2) (h : List Int) (x : Nat) (out : List (List Int)) : Prop where
  len : out.length = code.length
  row : ∀ t : Nat, t < code.length → out[t]? = some (predsUp code h (t : Int) x)

end Go.Proofs.Ytdlaplgofgklnaa
