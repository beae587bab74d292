/- WHAT IS PROVED: an abstract walker over the model, what some functions of the program answer, and laws of these answers. Conditions: none. -/
import Derived.Test.YtdlaplgofgklnaaDoorKd9
namespace Go.Proofs.YtdlaplgofgklnaaDoor
open Go.Proofs Go.Proofs.YtdlaplgofgklnaaDoor.L
set_option maxHeartbeats 8000000
set_option linter.unusedSimpArgs false
set_option linter.unusedVariables false
set_option maxRecDepth 100000
set_option linter.defProp false
def impl_known (k : Nat) (p0 : GProgram) : Option (Gprog × Bool) :=
  (impl_verify k p0).bind fun t1 => some ((⟨p0, t1.2⟩ : Gprog), (t1.1.c == 0))
def spec_l04Right (k : Nat) (p0 : GProgram) : Option (Bool) :=
  (spec_Verify k p0).bind fun t1 => some ((t1.c == 0))
theorem g12 : (∀ {k : Nat} {p0 : GProgram} {r : Gprog × Bool}, impl_known k p0 = some r → Con Tryd.prog 28 [.agg [.d (.row .bor 3 (Rw (GFunc.cells .bor) p0.funcs))]] [] (.tup [.d (.ptr .own [.row .bor 3 (Rw (GFunc.cells .bor) r.1.program.funcs), .row .own 1 (Rw (cL .own 1 (cI .i64)) r.1.h)]), V.bool r.2]) []) ∧
  (∀ {k : Nat} {p0 : GProgram} {r : Bool}, spec_l04Right k p0 = some r → Con Tryd.prog 24 [.agg [.d (.row .bor 3 (Rw (GFunc.cells .bor) p0.funcs))]] [] (V.bool r) []) := by
  refine ⟨?_, ?_⟩
  all_goals intros
  all_goals rename_i h
  all_goals first
    | (with_reducible refine isf 28 ?_
       refine csw Tryd.func28 Tryd.call28 (by simp [Tryd.ntmps28]) (h := ?_)
       refine mkf 28 fun hF => ?_
       rw [Tryd.ntmps28, Tryd.results28]
       unfold impl_known at h)
    | (with_reducible refine isf 24 ?_
       refine csw Tryd.func24 Tryd.call24 (by simp [Tryd.ntmps24]) (h := ?_)
       refine mkf 24 fun hF => ?_
       rw [Tryd.ntmps24, Tryd.results24]
       unfold spec_l04Right at h)
  all_goals (replace h := Yes.mk h; simp only [entryS, entryO, Nat.reduceAdd, List.length_nil, List.length_cons])
  repeat' (first
 | (with_reducible (first | refine sw_reg ?_ | refine sw_ret ?_ | refine sw_skip ?_ | refine sw_block ?_ | refine sw_exit ?_ | refine seqQ_normal ?_ | refine blockQ_normal ?_ | refine blockQ_ret ?_ | refine blockQ_this ?_ | refine blockQ_other (by decide) ?_ | refine regW_nil ?_ | refine sw_draw mixed ?_ | refine retQ_ret ?_ | refine retQ_normal ?_))
 | (with_reducible refine regD_nil ?_
    refine ⟨by kernel_rfl, ?_⟩)
 | (revert h; (first | ((with_reducible refine idx_elim ?_); intro m hm1 hm2 hm3 h; (try (simp only [Int.reduceToNat] at hm3)); (try (revert hm3; (with_reducible apply same_elim); (focus (with_reducible assumption)); rintro rfl)); (try (simp only [List.length_set, List.length_cons, List.length_nil, List.length_replicate, Nat.reduceAdd, Int.cast_ofNat_Int, Nat.zero_add, List.length_append] at hm2))) | (with_reducible refine sidx_elim ?_; intro m hm1 hm3 h) | (with_reducible refine gd_elim ?_; intro hg h; try (have hg2 := hg.2; have hg := hg.1; (try (simp only [Nat.reduceLeDiff] at hg2)); (try (revert hg2; (with_reducible refine toNat_elim hg ?_); intro hg2 hg4)); try (have hg3 := hg2.2; have hg2 := hg2.1; (try (simp only [Nat.reduceLeDiff] at hg3))))) | (with_reducible refine condt_elim ?_ ?_; (focus (with_reducible assumption)); intro h) | (with_reducible refine condf_elim ?_ ?_; (focus (with_reducible assumption)); intro h)))
 | with_reducible refine sw_seq ?_
 | with_reducible refine seqQ_ret ?_
 | with_reducible refine seqQ_exit ?_
 | ((with_reducible refine wp_ite ?_ ?_)
    all_goals (intro hc; (try (simp only [Bool.not_eq_true, Bool.not_eq_false] at hc)); simp only [hc]))
 | (with_reducible refine rskip (hs := ?_) (h2 := ?_)
    · simp only [putSt, lk, lkb, reduceCtorEq, Nat.reduceEqDiff]; done)
 | (with_reducible refine ryes (hs := ?_) (h := ?_)
    · simp only [putSt, lk, lkb, reduceCtorEq, Nat.reduceEqDiff]; done)
 | (with_reducible refine rno (hs := ?_) (h := ?_)
    · simp only [putSt, lk, lkb, reduceCtorEq, Nat.reduceEqDiff, Bool.not_true, Bool.not_false]; done)
 | (with_reducible apply regW_guardN
    · simp only [dstOk, Nat.reduceLT]
    · rfl
    · simp only [putSt, lk, lkb, reduceCtorEq, Nat.reduceEqDiff]; rfl
    all_goals (intro hc; (try (simp only [Bool.not_true, Bool.not_false] at hc))))
 | (with_reducible apply sw_cond
    · simp only [putSt, lk, lkb, reduceCtorEq, Nat.reduceEqDiff]; rfl
    all_goals (intro hc; try (cases hc; done)))
 | ((first
     | ((with_reducible refine gh_ret ?_)
        revert h
        with_reducible refine some_elim ?_
        rintro rfl)
     | (with_reducible refine here_call ?_
        revert h
        with_reducible refine bind_elim ?_
        intro t ht h
        (first
          | ((first
              | ((with_reducible refine here_call (f := 40) ?_); refine call_dataE (c_impl_verify ht) ?_ rfl ?_)
              | ((with_reducible refine here_call (f := 38) ?_); refine call_dataE (c_spec_Verify ht) ?_ rfl ?_))
             · first | rfl | (simp; done))))
     | (with_reducible (first | refine ropD (h := ?_) | refine ropW (h := ?_))
        intro k hk)
     | skip)
    simp only [RetW, bn, lkb, evb, opC, opP, fetchN, fetchP, fetchAll, fetchO, Prog.bind, Prog.wp, Prog.wp_bind, lk, nameP, nameAll, Value.oneCell', putSt, stepP, putP, reduceCtorEq, V.lin, V.linL, D.lin, isNil, binP, unP, BinOp.isShift, Prog.ofO, Nat.reduceAdd, Nat.reduceMul, Nat.reduceSub, Nat.reduceLT, Nat.reduceLeDiff, Nat.reduceEqDiff, ite_true, ite_false, fieldAddrP, fieldP, indexAddrP, loadP, storeP, boxP, allocP, cellsP, asVal, setSeg, outP, outT, cntT, TyK.field, TyK.agg, zeroRow, V.ren, V.renL, forall_eq_or_imp, forall_const, minmaxP, lenP, lenOf, lenStr, V.asInt, decide_true, decide_false, sliceP, boundP, makeSliceP, convertP, appendP, rowsOfP, ontoP, sizeFits, V.rowSize, TyK.src, resV, resV.go, resV.gol, retP, retOne, retAll, resTo, objsAre, Option.map_eq_map, Function.const_apply, Int.reduceNeg, Int.reduceToNat, ty2, ty4, ty36, ty38, ty52, ty54, ty56, ty58, ty66, ty72, ty76, ty80, GFunc.cells, GI2.cells, GI3.cells, GProgram.cells, Gprog.cells, cI, cB, cS, cL, GI2_e, GFunc_e, GProgram_e, GI3_e, Gprog_e, LcIi64_e, buildP, buildSliceP, putParts, structPlaces, chunks, List.replicate, List.flatten_nil, List.flatten_cons, Option.bind_some, nilEqP, ne_eq, not_false_eq_true, not_true_eq_false, *]
    try (refine hk.use _ _ _ _ ?_; clear hk k))
 | fail)
  all_goals (try rfl)
  all_goals (try (simp; done))
  all_goals (try (simp_all; done))
def c_impl_known := @And.left _ _ g12
def c_spec_l04Right := (@And.right _ _ g12)
set_option linter.defProp false
def impl_ProgramText.l2 : Nat → ByteArray → (List GFunc) → Int → Int → (List GI2) → Int → Int → Option (ByteArray × (List GFunc) × Int × Int)
  | 0, _, _, _, _, _, _, _ => none
  | k + 1, a1, a2, a3, a4, a5, a6, a7 => cond ((decide (a7 < a6))) ((idx a5 a7).bind fun m5 => (impl_OpName m5.a).bind fun t6 => gd (a1.size + t6.size ≤ 9223372036854775807) ((impl_hasA m5.a).bind fun t7 => cond t7 ((impl_digits m5.b).bind fun t8 => gd (((⟨#[32]⟩ : ByteArray)).size + t8.size ≤ 9223372036854775807) (gd (((a1 ++ t6)).size + ((((⟨#[32]⟩ : ByteArray)) ++ t8)).size ≤ 9223372036854775807) (gd (((((a1 ++ t6)) ++ ((((⟨#[32]⟩ : ByteArray)) ++ t8)))).size + ((⟨#[10]⟩ : ByteArray)).size ≤ 9223372036854775807) (impl_ProgramText.l2 k ((((((a1 ++ t6)) ++ ((((⟨#[32]⟩ : ByteArray)) ++ t8)))) ++ ((⟨#[10]⟩ : ByteArray)))) a2 a3 a4 a5 a6 ((IntKind.i64.wrap (a7 + 1))))))) (gd (((a1 ++ t6)).size + ((⟨#[10]⟩ : ByteArray)).size ≤ 9223372036854775807) (impl_ProgramText.l2 k ((((a1 ++ t6)) ++ ((⟨#[10]⟩ : ByteArray)))) a2 a3 a4 a5 a6 ((IntKind.i64.wrap (a7 + 1))))))) (some (a1, a2, a3, a4))
def impl_ProgramText.l1 : Nat → ByteArray → (List GFunc) → Int → Int → Option (ByteArray)
  | 0, _, _, _, _ => none
  | k + 1, a1, a2, a3, a4 => cond ((decide (a4 < a3))) ((idx a2 a4).bind fun m2 => (impl_digits m2.args).bind fun t3 => gd (((⟨#[102, 117, 110, 99, 32]⟩ : ByteArray)).size + t3.size ≤ 9223372036854775807) (gd (((((⟨#[102, 117, 110, 99, 32]⟩ : ByteArray)) ++ t3)).size + ((⟨#[32]⟩ : ByteArray)).size ≤ 9223372036854775807) ((impl_digits m2.locals).bind fun t4 => gd (((((((⟨#[102, 117, 110, 99, 32]⟩ : ByteArray)) ++ t3)) ++ ((⟨#[32]⟩ : ByteArray)))).size + t4.size ≤ 9223372036854775807) (gd (((((((((⟨#[102, 117, 110, 99, 32]⟩ : ByteArray)) ++ t3)) ++ ((⟨#[32]⟩ : ByteArray)))) ++ t4)).size + ((⟨#[10]⟩ : ByteArray)).size ≤ 9223372036854775807) (gd (a1.size + ((((((((((⟨#[102, 117, 110, 99, 32]⟩ : ByteArray)) ++ t3)) ++ ((⟨#[32]⟩ : ByteArray)))) ++ t4)) ++ ((⟨#[10]⟩ : ByteArray)))).size ≤ 9223372036854775807) ((impl_ProgramText.l2 k ((a1 ++ ((((((((((⟨#[102, 117, 110, 99, 32]⟩ : ByteArray)) ++ t3)) ++ ((⟨#[32]⟩ : ByteArray)))) ++ t4)) ++ ((⟨#[10]⟩ : ByteArray)))))) a2 a3 a4 m2.code ((m2.code.length : Int)) 0).bind fun o2 => impl_ProgramText.l1 k o2.1 o2.2.1 o2.2.2.1 ((IntKind.i64.wrap (o2.2.2.2 + 1))))))))) (some (a1))
def impl_ProgramText (k : Nat) (p0 : GProgram) : Option (ByteArray) :=
  (impl_known k p0).bind fun t1 => cond ((!t1.2)) (some ((⟨#[]⟩ : ByteArray))) ((impl_ProgramText.l1 k ((⟨#[]⟩ : ByteArray)) p0.funcs ((p0.funcs.length : Int)) 0).bind fun o1 => some o1)
def spec_ProgramText.l2 : Nat → (List GFunc) → Int → Int → (List GI2) → (List Int) → Int → Int → Option ((List GFunc) × (List Int) × Int)
  | 0, _, _, _, _, _, _, _ => none
  | k + 1, a1, a2, a3, a4, a5, a6, a7 => cond ((decide (a7 < ((a4.length : Int))))) ((idx a4 a7).bind fun m5 => (spec_OpName k m5.a).bind fun t6 => gd ((a5.length + t6.size) * 1 ≤ 35184372088832 ∧ a5.length + t6.size ≤ 35184372088832) ((spec_l15Has m5.a).bind fun t7 => cond t7 ((spec_l01Dec k m5.b).bind fun t8 => gd (((⟨#[32]⟩ : ByteArray)).size + t8.size ≤ 9223372036854775807) (gd ((((a5 ++ (bsL t6))).length + ((((⟨#[32]⟩ : ByteArray)) ++ t8)).size) * 1 ≤ 35184372088832 ∧ ((a5 ++ (bsL t6))).length + ((((⟨#[32]⟩ : ByteArray)) ++ t8)).size ≤ 35184372088832) (gd (((((a5 ++ (bsL t6)) ++ (bsL ((((⟨#[32]⟩ : ByteArray)) ++ t8))))).length + 1) * 1 ≤ 35184372088832 ∧ (((a5 ++ (bsL t6)) ++ (bsL ((((⟨#[32]⟩ : ByteArray)) ++ t8))))).length + 1 ≤ 35184372088832) (spec_ProgramText.l2 k a1 a2 a3 a4 ((((a5 ++ (bsL t6)) ++ (bsL ((((⟨#[32]⟩ : ByteArray)) ++ t8)))) ++ [10])) a6 ((IntKind.i64.wrap (a7 + 1))))))) (gd ((((a5 ++ (bsL t6))).length + 1) * 1 ≤ 35184372088832 ∧ ((a5 ++ (bsL t6))).length + 1 ≤ 35184372088832) (spec_ProgramText.l2 k a1 a2 a3 a4 (((a5 ++ (bsL t6)) ++ [10])) a6 ((IntKind.i64.wrap (a7 + 1))))))) (some (a1, a5, a6))
def spec_ProgramText.l1 : Nat → (List GFunc) → (List Int) → Int → Option ((List Int))
  | 0, _, _, _ => none
  | k + 1, a1, a2, a3 => cond ((decide (a3 < ((a1.length : Int))))) ((idx a1 a3).bind fun m2 => (spec_l01Dec k m2.args).bind fun t3 => gd (((⟨#[102, 117, 110, 99, 32]⟩ : ByteArray)).size + t3.size ≤ 9223372036854775807) (gd (((((⟨#[102, 117, 110, 99, 32]⟩ : ByteArray)) ++ t3)).size + ((⟨#[32]⟩ : ByteArray)).size ≤ 9223372036854775807) ((spec_l01Dec k m2.locals).bind fun t4 => gd (((((((⟨#[102, 117, 110, 99, 32]⟩ : ByteArray)) ++ t3)) ++ ((⟨#[32]⟩ : ByteArray)))).size + t4.size ≤ 9223372036854775807) (gd (((((((((⟨#[102, 117, 110, 99, 32]⟩ : ByteArray)) ++ t3)) ++ ((⟨#[32]⟩ : ByteArray)))) ++ t4)).size + ((⟨#[10]⟩ : ByteArray)).size ≤ 9223372036854775807) (gd ((a2.length + ((((((((((⟨#[102, 117, 110, 99, 32]⟩ : ByteArray)) ++ t3)) ++ ((⟨#[32]⟩ : ByteArray)))) ++ t4)) ++ ((⟨#[10]⟩ : ByteArray)))).size) * 1 ≤ 35184372088832 ∧ a2.length + ((((((((((⟨#[102, 117, 110, 99, 32]⟩ : ByteArray)) ++ t3)) ++ ((⟨#[32]⟩ : ByteArray)))) ++ t4)) ++ ((⟨#[10]⟩ : ByteArray)))).size ≤ 35184372088832) ((spec_ProgramText.l2 k a1 m2.args m2.locals m2.code ((a2 ++ (bsL ((((((((((⟨#[102, 117, 110, 99, 32]⟩ : ByteArray)) ++ t3)) ++ ((⟨#[32]⟩ : ByteArray)))) ++ t4)) ++ ((⟨#[10]⟩ : ByteArray))))))) a3 0).bind fun o2 => spec_ProgramText.l1 k o2.1 o2.2.1 ((IntKind.i64.wrap (o2.2.2 + 1))))))))) (some (a2))
def spec_ProgramText (k : Nat) (p0 : GProgram) : Option (ByteArray) :=
  (spec_l04Right k p0).bind fun t1 => cond ((!t1)) (some ((⟨#[]⟩ : ByteArray))) ((spec_ProgramText.l1 k p0.funcs [] 0).bind fun o1 => some ((strL o1)))
theorem g13 : (∀ {k : Nat} {p0 : GProgram} {r : ByteArray}, impl_ProgramText k p0 = some r → Con Tryd.prog 13 [.agg [.d (.row .bor 3 (Rw (GFunc.cells .bor) p0.funcs))]] [] (.d (.p (.string r))) []) ∧
  (∀ {k : Nat} {p0 : GProgram} {r : ByteArray}, spec_ProgramText k p0 = some r → Con Tryd.prog 11 [.agg [.d (.row .bor 3 (Rw (GFunc.cells .bor) p0.funcs))]] [] (.d (.p (.string r))) []) := by
  refine ⟨?_, ?_⟩
  all_goals intros
  all_goals rename_i h
  all_goals first
    | (with_reducible refine isf 13 ?_
       refine csw Tryd.func13 Tryd.call13 (by simp [Tryd.ntmps13]) (h := ?_)
       refine mkf 13 fun hF => ?_
       rw [Tryd.ntmps13, Tryd.results13]
       unfold impl_ProgramText at h)
    | (with_reducible refine isf 11 ?_
       refine csw Tryd.func11 Tryd.call11 (by simp [Tryd.ntmps11]) (h := ?_)
       refine mkf 11 fun hF => ?_
       rw [Tryd.ntmps11, Tryd.results11]
       unfold spec_ProgramText at h)
  all_goals (replace h := Yes.mk h; simp only [entryS, entryO, Nat.reduceAdd, List.length_nil, List.length_cons])
  repeat' (first
 | (with_reducible (first | refine sw_reg ?_ | refine sw_ret ?_ | refine sw_skip ?_ | refine sw_block ?_ | refine sw_exit ?_ | refine seqQ_normal ?_ | refine blockQ_normal ?_ | refine blockQ_ret ?_ | refine blockQ_this ?_ | refine blockQ_other (by decide) ?_ | refine regW_nil ?_ | refine sw_draw mixed ?_ | refine retQ_ret ?_ | refine retQ_normal ?_))
 | (with_reducible refine regD_nil ?_
    refine ⟨by kernel_rfl, ?_⟩)
 | (revert h; (first | ((with_reducible refine idx_elim ?_); intro m hm1 hm2 hm3 h; (try (simp only [Int.reduceToNat] at hm3)); (try (revert hm3; (with_reducible apply same_elim); (focus (with_reducible assumption)); rintro rfl)); (try (simp only [List.length_set, List.length_cons, List.length_nil, List.length_replicate, Nat.reduceAdd, Int.cast_ofNat_Int, Nat.zero_add, List.length_append] at hm2))) | (with_reducible refine sidx_elim ?_; intro m hm1 hm3 h) | (with_reducible refine gd_elim ?_; intro hg h; try (have hg2 := hg.2; have hg := hg.1; (try (simp only [Nat.reduceLeDiff] at hg2)); (try (revert hg2; (with_reducible refine toNat_elim hg ?_); intro hg2 hg4)); try (have hg3 := hg2.2; have hg2 := hg2.1; (try (simp only [Nat.reduceLeDiff] at hg3))))) | (with_reducible refine condt_elim ?_ ?_; (focus (with_reducible assumption)); intro h) | (with_reducible refine condf_elim ?_ ?_; (focus (with_reducible assumption)); intro h)))
 | ((with_reducible first | refine pnR ?_ | refine pnE ?_ | refine pmR ?_ | refine pmE ?_)
    obtain rfl := h.get
    have h := hK
    clear hK
    (try (simp only [Sum.elim_inl, Sum.elim_inr] at h)))
 | ((with_reducible refine fi 13 ?_ ?_); (focus (with_reducible assumption))
    first
    | (with_reducible refine here_loop (c := (.seq (.region 10 _ _) _)) ?_
       revert h
       with_reducible refine bind_elimY ?_
       intro o2 h hK
       refine lpA (β := ByteArray × (List GFunc) × Int × Int × (List GI2) × Int × Int) 20000000 (fun x => [(.s 5, some (.v (.d (.p (.string x.2.1))))), (.s 18, some (.v (.d (.row .bor 3 (Rw (GFunc.cells .bor) x.2.2.1))))), (.s 19, some (.v (V.int x.2.2.2.1))), (.s 20, some (.v (V.int x.2.2.2.2.1))), (.s 37, some (.v (.d (.row .bor 2 (Rw GI2.cells x.2.2.2.2.2.1))))), (.s 38, some (.v (V.int x.2.2.2.2.2.2.1))), (.s 39, some (.v (V.int x.2.2.2.2.2.2.2)))]) (fun x => Yes (impl_ProgramText.l2 x.1 x.2.1 x.2.2.1 x.2.2.2.1 x.2.2.2.2.1 x.2.2.2.2.2.1 x.2.2.2.2.2.2.1 x.2.2.2.2.2.2.2) o2) (_, _, _, _, _, _, _, _) h ?_
       rintro ⟨_ | k, a1, a2, a3, a4, a5, a6, a7⟩ h
       · simp only [impl_ProgramText.l2] at h; exact h.none
       simp only [impl_ProgramText.l2] at h
   )
    | (with_reducible refine here_loop (c := (.seq (.region 6 _ _) _)) ?_
       revert h
       with_reducible refine bind_elimY ?_
       intro o1 h hK
       refine lpA (β := ByteArray × (List GFunc) × Int × Int) 10000000 (fun x => [(.s 5, some (.v (.d (.p (.string x.2.1))))), (.s 18, some (.v (.d (.row .bor 3 (Rw (GFunc.cells .bor) x.2.2.1))))), (.s 19, some (.v (V.int x.2.2.2.1))), (.s 20, some (.v (V.int x.2.2.2.2)))]) (fun x => Yes (impl_ProgramText.l1 x.1 x.2.1 x.2.2.1 x.2.2.2.1 x.2.2.2.2) o1) (_, _, _, _, _) h ?_
       rintro ⟨_ | k, a1, a2, a3, a4⟩ h
       · simp only [impl_ProgramText.l1] at h; exact h.none
       simp only [impl_ProgramText.l1] at h
   ))
 | ((with_reducible refine fi 11 ?_ ?_); (focus (with_reducible assumption))
    first
    | (with_reducible refine here_loop (c := (.seq (.seq (.region 10 _ _) _) _)) ?_
       revert h
       with_reducible refine bind_elimY ?_
       intro o2 h hK
       refine sw_gh ?_
       refine gh_resSlot 3 ?_
       simp only [rxb, Nat.reduceAdd, Nat.reduceLeDiff, rxd, putSt, lk, lkb, reduceCtorEq, Nat.reduceEqDiff, *]
       refine gh_sw ?_
       refine lpA (β := (List GFunc) × Int × Int × (List GI2) × (List Int) × Int × Int) 20000000 (fun x => [(.s 1, some (.v (.mp 0 1 0 0))), (.s 3, some (.v (.d (.row .own 1 (Rw (cI .u8) x.2.2.2.2.2.1))))), (.s 4, some (.v (V.int x.2.2.2.2.2.2.1))), (.s 5, some (.v (.mp 10000704 3 0 0))), (.s 6, some (.v (V.int x.2.2.2.2.2.2.2))), (.r 0, some (.o 1 [[.d (.row .bor 3 (Rw (GFunc.cells .bor) x.2.1))]])), (.r 10000704, some (.o 3 [[V.int x.2.2.1, V.int x.2.2.2.1, .d (.row .bor 2 (Rw GI2.cells x.2.2.2.2.1))]]))]) (fun x => Yes (spec_ProgramText.l2 x.1 x.2.1 x.2.2.1 x.2.2.2.1 x.2.2.2.2.1 x.2.2.2.2.2.1 x.2.2.2.2.2.2.1 x.2.2.2.2.2.2.2) o2) (_, _, _, _, _, _, _, _) h ?_
       rintro ⟨_ | k, a1, a2, a3, a4, a5, a6, a7⟩ h
       · simp only [spec_ProgramText.l2] at h; exact h.none
       simp only [spec_ProgramText.l2] at h
       refine sw_gh ?_
       refine gh_nameSlot 3 ?_
       simp only [rxb, Nat.reduceAdd, Nat.reduceLeDiff, rxd, putSt, lk, lkb, reduceCtorEq, Nat.reduceEqDiff, Nat.reduceAdd]
       refine gh_sw ?_
   )
    | (with_reducible refine here_next (N0 := 20000000) ?_
       refine gh_resSlot 3 ?_
       simp only [rxb, Nat.reduceAdd, Nat.reduceLeDiff, rxd, putSt, lk, lkb, reduceCtorEq, Nat.reduceEqDiff, *]
       refine nxA (_, _, _, _, _, _, _, _) h)
    | (with_reducible refine here_loop (c := (.seq (.seq (.region 5 _ _) _) _)) ?_
       revert h
       with_reducible refine bind_elimY ?_
       intro o1 h hK
       refine sw_gh ?_
       refine gh_resSlot 3 ?_
       simp only [rxb, Nat.reduceAdd, Nat.reduceLeDiff, rxd, putSt, lk, lkb, reduceCtorEq, Nat.reduceEqDiff, *]
       refine gh_sw ?_
       refine lpA (β := (List GFunc) × (List Int) × Int) 10000000 (fun x => [(.s 1, some (.v (.mp 0 1 0 0))), (.s 3, some (.v (.d (.row .own 1 (Rw (cI .u8) x.2.2.1))))), (.s 4, some (.v (V.int x.2.2.2))), (.r 0, some (.o 1 [[.d (.row .bor 3 (Rw (GFunc.cells .bor) x.2.1))]]))]) (fun x => Yes (spec_ProgramText.l1 x.1 x.2.1 x.2.2.1 x.2.2.2) o1) (_, _, _, _) h ?_
       rintro ⟨_ | k, a1, a2, a3⟩ h
       · simp only [spec_ProgramText.l1] at h; exact h.none
       simp only [spec_ProgramText.l1] at h
       refine sw_gh ?_
       refine gh_nameSlot 3 ?_
       simp only [rxb, Nat.reduceAdd, Nat.reduceLeDiff, rxd, putSt, lk, lkb, reduceCtorEq, Nat.reduceEqDiff, Nat.reduceAdd]
       refine gh_sw ?_
   )
    | (with_reducible refine here_next (N0 := 10000000) ?_
       refine gh_resSlot 3 ?_
       simp only [rxb, Nat.reduceAdd, Nat.reduceLeDiff, rxd, putSt, lk, lkb, reduceCtorEq, Nat.reduceEqDiff, *]
       refine nxA (_, _, _, _) h))
 | (with_reducible refine here_next ?_
    first | refine nxA (_, _, _, _, _) h | refine nxA (_, _, _, _, _, _, _, _) h)
 | with_reducible refine sw_seq ?_
 | with_reducible refine seqQ_ret ?_
 | with_reducible refine seqQ_exit ?_
 | ((with_reducible refine wp_ite ?_ ?_)
    all_goals (intro hc; (try (simp only [Bool.not_eq_true, Bool.not_eq_false] at hc)); simp only [hc]))
 | (with_reducible refine rskip (hs := ?_) (h2 := ?_)
    · simp only [putSt, lk, lkb, reduceCtorEq, Nat.reduceEqDiff]; done)
 | (with_reducible refine ryes (hs := ?_) (h := ?_)
    · simp only [putSt, lk, lkb, reduceCtorEq, Nat.reduceEqDiff]; done)
 | (with_reducible refine rno (hs := ?_) (h := ?_)
    · simp only [putSt, lk, lkb, reduceCtorEq, Nat.reduceEqDiff, Bool.not_true, Bool.not_false]; done)
 | (with_reducible apply regW_guardN
    · simp only [dstOk, Nat.reduceLT]
    · rfl
    · simp only [putSt, lk, lkb, reduceCtorEq, Nat.reduceEqDiff]; rfl
    all_goals (intro hc; (try (simp only [Bool.not_true, Bool.not_false] at hc))))
 | (with_reducible apply sw_cond
    · simp only [putSt, lk, lkb, reduceCtorEq, Nat.reduceEqDiff]; rfl
    all_goals (intro hc; try (cases hc; done)))
 | ((first
     | ((with_reducible refine gh_ret ?_)
        revert h
        with_reducible refine some_elim ?_
        rintro rfl)
     | (with_reducible refine here_call ?_
        revert h
        with_reducible refine bind_elim ?_
        intro t ht h
        (first
          | ((first
              | ((with_reducible refine here_call (f := 28) ?_); refine call_dataE (c_impl_known ht) ?_ rfl ?_)
              | ((with_reducible refine here_call (f := 29) ?_); refine call_dataE (c_impl_digits ht) ?_ rfl ?_)
              | ((with_reducible refine here_call (f := 30) ?_); refine call_dataE (c_impl_OpName ht) ?_ rfl ?_)
              | ((with_reducible refine here_call (f := 31) ?_); refine call_dataE (c_impl_hasA ht) ?_ rfl ?_)
              | ((with_reducible refine here_call (f := 16) ?_); refine call_dataE (c_spec_l01Dec ht) ?_ rfl ?_)
              | ((with_reducible refine here_call (f := 24) ?_); refine call_dataE (c_spec_l04Right ht) ?_ rfl ?_)
              | ((with_reducible refine here_call (f := 25) ?_); refine call_dataE (c_spec_OpName ht) ?_ rfl ?_)
              | ((with_reducible refine here_call (f := 26) ?_); refine call_dataE (c_spec_l15Has ht) ?_ rfl ?_))
             · first | rfl | (simp; done))))
     | (with_reducible (first | refine ropD (h := ?_) | refine ropW (h := ?_))
        intro k hk)
     | skip)
    simp only [RetW, bn, lkb, evb, opC, opP, fetchN, fetchP, fetchAll, fetchO, Prog.bind, Prog.wp, Prog.wp_bind, lk, nameP, nameAll, Value.oneCell', putSt, stepP, putP, reduceCtorEq, V.lin, V.linL, D.lin, isNil, binP, unP, BinOp.isShift, Prog.ofO, Nat.reduceAdd, Nat.reduceMul, Nat.reduceSub, Nat.reduceLT, Nat.reduceLeDiff, Nat.reduceEqDiff, ite_true, ite_false, fieldAddrP, fieldP, indexAddrP, loadP, storeP, boxP, allocP, cellsP, asVal, setSeg, outP, outT, cntT, TyK.field, TyK.agg, zeroRow, V.ren, V.renL, forall_eq_or_imp, forall_const, minmaxP, lenP, lenOf, lenStr, V.asInt, decide_true, decide_false, sliceP, boundP, makeSliceP, convertP, appendP, rowsOfP, ontoP, sizeFits, V.rowSize, TyK.src, resV, resV.go, resV.gol, retP, retOne, retAll, resTo, objsAre, Option.map_eq_map, Function.const_apply, Int.reduceNeg, Int.reduceToNat, ty2, ty3, ty4, ty5, ty9, ty28, ty36, ty38, ty52, ty54, ty56, GFunc.cells, GI2.cells, GProgram.cells, cI, cB, cS, cL, GI2_e, GFunc_e, GProgram_e, buildP, buildSliceP, putParts, structPlaces, chunks, List.replicate, List.flatten_nil, List.flatten_cons, Option.bind_some, bb, bst, *]
    try (refine hk.use _ _ _ _ ?_; clear hk k))
 | fail)
  all_goals (try rfl)
  all_goals (try (simp; done))
  all_goals (try (simp_all; done))
def c_impl_ProgramText := @And.left _ _ g13
def c_spec_ProgramText := (@And.right _ _ g13)
end Go.Proofs.YtdlaplgofgklnaaDoor