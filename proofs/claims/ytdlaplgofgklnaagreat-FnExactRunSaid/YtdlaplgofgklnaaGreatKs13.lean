/- WHAT IS PROVED: an abstract walker over the model, what some functions of the program answer, and laws of these answers. Conditions: none. -/
import Derived.Test.YtdlaplgofgklnaaGreatKs10
import Derived.Test.YtdlaplgofgklnaaGreatKs11
namespace Go.Proofs.YtdlaplgofgklnaaGreat
open Go.Proofs Go.Proofs.YtdlaplgofgklnaaGreat.L
set_option maxHeartbeats 8000000
set_option linter.unusedSimpArgs false
set_option linter.unusedVariables false
set_option maxRecDepth 100000
set_option linter.defProp false
def spec_l04Func.a1 (k : Nat) (a1 : (List GFunc)) (a2 : GI3) (a3 : Int) (a4 : Int) (a5 : (List GI2)) (a6 : Int) : Option ((GI3) ⊕ ((List GFunc) × GI3 × Int × Int × (List GI2) × Int)) :=
  cond ((decide (a3 < 0))) (some (.inl ((⟨a6, 0, 1⟩ : GI3)))) (cond ((decide (a3 > 4))) (some (.inl ((⟨a6, 0, 1⟩ : GI3)))) (cond ((decide (a4 < a3))) (some (.inl ((⟨a6, 0, 1⟩ : GI3)))) (cond ((decide (a4 > 8))) (some (.inl ((⟨a6, 0, 1⟩ : GI3)))) (cond ((decide (((a5.length : Int)) < 1))) (some (.inl ((⟨a6, 0, 1⟩ : GI3)))) (cond ((decide (((a5.length : Int)) > 60))) (some (.inl ((⟨a6, 0, 1⟩ : GI3)))) (some (.inr (a1, a2, a3, a4, a5, a6))))))))
def spec_l04Func.l2 : Nat → (List GFunc) → GI3 → Int → Int → (List GI2) → Int → Int → Option ((GI3) ⊕ ((List GFunc) × GI3 × Int))
  | 0, _, _, _, _, _, _, _ => none
  | k + 1, a1, a2, a3, a4, a5, a6, a7 => cond ((decide (a7 < ((a5.length : Int))))) ((idx a5 a7).bind fun m2 => (spec_InsRight k ((⟨a1⟩ : GProgram)) a6 m2).bind fun t3 => cond ((!t3)) (some (.inl ((⟨a6, a7, 1⟩ : GI3)))) (spec_l04Func.l2 k a1 a2 a3 a4 a5 a6 ((IntKind.i64.wrap (a7 + 1))))) (some (.inr (a1, a2, a6)))
def spec_l04Func (k : Nat) (p0 : GProgram) (p1 : Int) : Option (GI3) :=
  (idx p0.funcs p1).bind fun m1 => (spec_l04Func.a1 k p0.funcs ((⟨0, 0, 0⟩ : GI3)) m1.args m1.locals m1.code p1).bind fun o1 => Sum.elim (fun o1l => some o1l) (fun o1r => (spec_l04Func.l2 k o1r.1 o1r.2.1 o1r.2.2.1 o1r.2.2.2.1 o1r.2.2.2.2.1 o1r.2.2.2.2.2 0).bind fun o2 => Sum.elim (fun o2l => some o2l) (fun o2r => (spec_l04Heights k ((⟨o2r.1⟩ : GProgram)) o2r.2.2).bind fun t4 => some t4.2) o2) o1
theorem c_spec_l04Func : (∀ {k : Nat} {p0 : GProgram} {p1 : Int} {r : GI3}, spec_l04Func k p0 p1 = some r → Con Tryz.prog 108 [.agg [.d (.row .bor 3 (Rw (GFunc.cells .bor) p0.funcs))], V.int p1] [] (.agg [V.int r.a, V.int r.b, V.int r.c]) []) := by
  all_goals intros
  all_goals rename_i h
  all_goals first
    | (with_reducible refine isf 108 ?_
       refine csw Tryz.func108 Tryz.call108 (by simp [Tryz.ntmps108]) (h := ?_)
       refine mkf 108 fun hF => ?_
       rw [Tryz.ntmps108, Tryz.results108]
       unfold spec_l04Func at h)
  all_goals (replace h := Yes.mk h; simp only [entryS, entryO, Nat.reduceAdd, List.length_nil, List.length_cons])
  repeat' (first
 | (with_reducible (first | refine sw_reg ?_ | refine sw_ret ?_ | refine sw_skip ?_ | refine sw_block ?_ | refine sw_exit ?_ | refine seqQ_normal ?_ | refine blockQ_normal ?_ | refine blockQ_ret ?_ | refine blockQ_this ?_ | refine blockQ_other (by decide) ?_ | refine regW_nil ?_ | refine sw_draw mixed ?_ | refine retQ_ret ?_ | refine retQ_normal ?_))
 | (with_reducible refine regD_nil ?_
    refine ⟨by kernel_rfl, ?_⟩)
 | (revert h; (first | ((with_reducible refine idx_elim ?_); intro m hm1 hm2 hm3 h; (try (simp only [Int.reduceToNat] at hm3)); (try (revert hm3; (with_reducible apply same_elim); (focus (with_reducible assumption)); rintro rfl)); (try (simp only [List.length_set, List.length_cons, List.length_nil, List.length_replicate, Nat.reduceAdd, Int.cast_ofNat_Int, Nat.zero_add, List.length_append] at hm2))) | (with_reducible refine sidx_elim ?_; intro m hm1 hm3 h) | (with_reducible refine gd_elim ?_; intro hg h; try (have hg2 := hg.2; have hg := hg.1; (try (simp only [Nat.reduceLeDiff] at hg2)); (try (revert hg2; (with_reducible refine toNat_elim hg ?_); intro hg2 hg4)); try (have hg3 := hg2.2; have hg2 := hg2.1; (try (simp only [Nat.reduceLeDiff] at hg3))))) | (with_reducible refine condt_elim ?_ ?_; (focus (with_reducible assumption)); intro h) | (with_reducible refine condf_elim ?_ ?_; (focus (with_reducible assumption)); intro h)))
 | ((with_reducible first | refine pnR ?_ | refine pnE ?_ | refine pmR ?_ | refine pmE ?_)
    obtain rfl := h.get
    have h := hK
    clear hK
    (try (simp only [Sum.elim_inl, Sum.elim_inr] at h)))
 | ((with_reducible refine fi 108 ?_ ?_); (focus (with_reducible assumption))
    first
    | (with_reducible refine here_loop (c := (.seq (.seq (.region 5 _ _) _) _)) ?_
       revert h
       with_reducible refine bind_elimY ?_
       intro o2 h hK
       refine lpA (β := (List GFunc) × GI3 × Int × Int × (List GI2) × Int × Int) 20000000 (fun x => [(.s 1, some (.v (V.int x.2.2.2.2.2.2.1))), (.s 2, some (.v (.mp 0 1 0 0))), (.s 4, some (.v (.mp 64 3 0 0))), (.s 5, some (.v (.mp 448 3 0 0))), (.s 6, some (.v (V.int x.2.2.2.2.2.2.2))), (.r 0, some (.o 1 [[.d (.row .bor 3 (Rw (GFunc.cells .bor) x.2.1))]])), (.r 64, some (.o 3 [[V.int x.2.2.1.a, V.int x.2.2.1.b, V.int x.2.2.1.c]])), (.r 448, some (.o 3 [[V.int x.2.2.2.1, V.int x.2.2.2.2.1, .d (.row .bor 2 (Rw GI2.cells x.2.2.2.2.2.1))]]))]) (fun x => Yes (spec_l04Func.l2 x.1 x.2.1 x.2.2.1 x.2.2.2.1 x.2.2.2.2.1 x.2.2.2.2.2.1 x.2.2.2.2.2.2.1 x.2.2.2.2.2.2.2) o2) (_, _, _, _, _, _, _, _) h ?_
       rintro ⟨_ | k, a1, a2, a3, a4, a5, a6, a7⟩ h
       · simp only [spec_l04Func.l2] at h; exact h.none
       simp only [spec_l04Func.l2] at h
   )
    | (with_reducible refine here_join (a := (.seq (.region 2 _ _) _)) (b := (.seq (.seq (.region 4 _ _) _) _)) ?_
       revert h
       with_reducible refine bind_elimY ?_
       intro o1 h hK
       unfold spec_l04Func.a1 at h
       refine sw_join (ι := (List GFunc) × GI3 × Int × Int × (List GI2) × Int) 10000000 (fun x => [(.s 1, some (.v (V.int x.2.2.2.2.2))), (.s 2, some (.v (.mp 0 1 0 0))), (.s 4, some (.v (.mp 64 3 0 0))), (.s 5, some (.v (.mp 448 3 0 0))), (.r 0, some (.o 1 [[.d (.row .bor 3 (Rw (GFunc.cells .bor) x.1))]])), (.r 64, some (.o 3 [[V.int x.2.1.a, V.int x.2.1.b, V.int x.2.1.c]])), (.r 448, some (.o 3 [[V.int x.2.2.1, V.int x.2.2.2.1, .d (.row .bor 2 (Rw GI2.cells x.2.2.2.2.1))]]))]) (fun x => Yes (some (.inr x)) o1) ?_ ?_
       rotate_left
       rintro ⟨b1, b2, b3, b4, b5, b6⟩ h
       obtain rfl := h.get
       have h := hK
       clear hK
       (try (simp only [Sum.elim_inl, Sum.elim_inr] at h))
       refine sw_gh ?_
       refine gh_sw ?_))
 | (with_reducible refine here_next ?_
    first | refine nxA (_, _, _, _, _, _, _, _) h)
 | (with_reducible refine here_meet ?_
    first | refine mtA (_, _, _, _, _, _) h)
 | with_reducible refine sw_seq ?_
 | with_reducible refine seqQ_ret ?_
 | with_reducible refine seqQ_exit ?_
 | ((with_reducible refine wp_ite ?_ ?_)
    all_goals (intro hc; (try (simp only [Bool.not_eq_true, Bool.not_eq_false] at hc)); simp only [hc]))
 | (with_reducible refine rskip (hs := ?_) (h2 := ?_)
    · simp only [putSt, lk, lkb, reduceCtorEq, Nat.reduceEqDiff]; done)
 | (with_reducible refine ryes (hs := ?_) (h := ?_)
    · simp only [putSt, lk, lkb, reduceCtorEq, Nat.reduceEqDiff]; done)
 | (with_reducible refine rno (hs := ?_) (h := ?_)
    · simp only [putSt, lk, lkb, reduceCtorEq, Nat.reduceEqDiff, Bool.not_true, Bool.not_false]; done)
 | (with_reducible apply regW_guardN
    · simp only [dstOk, Nat.reduceLT]
    · rfl
    · simp only [putSt, lk, lkb, reduceCtorEq, Nat.reduceEqDiff]; rfl
    all_goals (intro hc; (try (simp only [Bool.not_true, Bool.not_false] at hc))))
 | (with_reducible apply sw_cond
    · simp only [putSt, lk, lkb, reduceCtorEq, Nat.reduceEqDiff]; rfl
    all_goals (intro hc; try (cases hc; done)))
 | ((first
     | ((with_reducible refine gh_ret ?_)
        revert h
        with_reducible refine some_elim ?_
        rintro rfl)
     | (with_reducible refine here_call ?_
        revert h
        with_reducible refine bind_elim ?_
        intro t ht h
        (first
          | ((first
              | ((with_reducible refine here_call (f := 69) ?_); refine call_dataE (c_spec_l04Heights ht) ?_ rfl ?_)
              | ((with_reducible refine here_call (f := 136) ?_); refine call_dataE (c_spec_InsRight ht) ?_ rfl ?_))
             · first | rfl | (simp; done))))
     | (with_reducible (first | refine ropD (h := ?_) | refine ropW (h := ?_))
        intro k hk)
     | skip)
    simp only [RetW, bn, lkb, evb, opC, opP, fetchN, fetchP, fetchAll, fetchO, Prog.bind, Prog.wp, Prog.wp_bind, lk, nameP, nameAll, Value.oneCell', putSt, stepP, putP, reduceCtorEq, V.lin, V.linL, D.lin, isNil, binP, unP, BinOp.isShift, Prog.ofO, Nat.reduceAdd, Nat.reduceMul, Nat.reduceSub, Nat.reduceLT, Nat.reduceLeDiff, Nat.reduceEqDiff, ite_true, ite_false, fieldAddrP, fieldP, indexAddrP, loadP, storeP, boxP, allocP, cellsP, asVal, setSeg, outP, outT, cntT, TyK.field, TyK.agg, zeroRow, V.ren, V.renL, forall_eq_or_imp, forall_const, minmaxP, lenP, lenOf, lenStr, V.asInt, decide_true, decide_false, sliceP, boundP, makeSliceP, convertP, appendP, rowsOfP, ontoP, sizeFits, V.rowSize, TyK.src, resV, resV.go, resV.gol, retP, retOne, retAll, resTo, objsAre, Option.map_eq_map, Function.const_apply, Int.reduceNeg, Int.reduceToNat, ty2, ty3, ty4, ty23, ty25, ty90, ty92, ty94, ty98, GFunc.cells, GI2.cells, GI3.cells, GProgram.cells, cI, cB, cS, cL, GI2_e, GFunc_e, GProgram_e, GI3_e, buildP, buildSliceP, putParts, structPlaces, chunks, List.replicate, List.flatten_nil, List.flatten_cons, Option.bind_some, *]
    try (refine hk.use _ _ _ _ ?_; clear hk k))
 | fail)
  all_goals (try rfl)
  all_goals (try (simp; done))
  all_goals (try (simp_all; done))
set_option linter.defProp false
def spec_l06Stands.a1 (k : Nat) (a1 : (List GFunc)) (a2 : Int) (a3 : Int) (a4 : Int) (a5 : Int) (a6 : Int) : Option ((Bool) ⊕ ((List GFunc) × Int × Int × Int × Int)) :=
  cond ((decide (a2 < 0))) (some (.inl (false))) (cond ((decide (a2 ≥ ((a1.length : Int))))) (some (.inl (false))) ((idx a1 a2).bind fun m1 => cond ((a4 != m1.locals)) (some (.inl (false))) (cond ((decide (a3 < 0))) (some (.inl (false))) (cond ((decide (a3 ≥ ((m1.code.length : Int))))) (some (.inl (false))) (some (.inr (a1, a2, a3, a5, a6)))))))
def spec_l06Stands (k : Nat) (p0 : GProgram) (p1 : Int) (p2 : Int) (p3 : Int) (p4 : Int) (p5 : Int) : Option (Bool) :=
  (spec_l06Stands.a1 k p0.funcs p1 p2 p3 p4 p5).bind fun o1 => Sum.elim (fun o1l => some o1l) (fun o1r => (spec_l04Heights k ((⟨o1r.1⟩ : GProgram)) o1r.2.1).bind fun t2 => cond ((decide (o1r.2.2.2.2 < 0))) ((idx t2.1 o1r.2.2.1).bind fun m3 => cond ((decide (m3 ≥ 0))) (some ((o1r.2.2.2.1 == m3))) (some false)) (cond ((decide (o1r.2.2.1 > 0))) ((idx t2.1 ((IntKind.i64.wrap (o1r.2.2.1 - 1)))).bind fun m4 => cond ((decide (m4 ≥ 0))) ((idx o1r.1 o1r.2.1).bind fun m5 => (idx m5.code ((IntKind.i64.wrap (o1r.2.2.1 - 1)))).bind fun m6 => cond (((m6.a == 32) && (m6.b == o1r.2.2.2.2))) ((idx t2.1 o1r.2.2.1).bind fun m7 => some ((o1r.2.2.2.1 == ((IntKind.i64.wrap (m7 - 1)))))) (some false)) (some false)) (some false))) o1
def laws_eqFuncS.l1 : Nat → (List GFunc) → (List GFunc) → Int → Option ((Bool) ⊕ (Unit))
  | 0, _, _, _ => none
  | k + 1, a1, a2, a3 => cond ((decide (a3 < ((a1.length : Int))))) ((idx a1 a3).bind fun m1 => (idx a2 a3).bind fun m2 => (laws_eqFunc k m1 m2).bind fun t3 => cond ((!t3)) (some (.inl (false))) (laws_eqFuncS.l1 k a1 a2 ((IntKind.i64.wrap (a3 + 1))))) (some (.inr ()))
def laws_eqFuncS (k : Nat) (p0 : (List GFunc)) (p1 : (List GFunc)) : Option (Bool) :=
  cond ((((p0.length : Int)) != ((p1.length : Int)))) (some false) ((laws_eqFuncS.l1 k p0 p1 0).bind fun o1 => Sum.elim (fun o1l => some o1l) (fun o1r => some true) o1)
def laws_eqState (k : Nat) (p0 : GState) (p1 : GState) : Option (Bool) :=
  (laws_eqFrameS k p0.frames p1.frames).bind fun t1 => cond ((!t1)) (some false) ((laws_eqInt64SS k p0.heap p1.heap).bind fun t2 => cond ((!t2)) (some false) ((laws_eqInt64S k p0.out p1.out).bind fun t3 => cond ((!t3)) (some false) (cond ((p0.fuel0 != p1.fuel0)) (some false) (cond ((!(p0.done == p1.done))) (some false) (cond ((p0.value != p1.value)) (some false) (cond ((p0.trap != p1.trap)) (some false) (some true)))))))
def laws_szProgram (k : Nat) (p0 : GProgram) (p1 : Int) : Option (Int) :=
  (laws_szFuncS k p0.funcs p1).bind fun t1 => cond ((decide (t1 < 0))) (some ((-1))) (some t1)
theorem fl98_spec_l06Stands : flatK Tryz.prog 98 = some [0, 0] := by kernel_rfl
theorem gs22 : (∀ {k : Nat} {p0 : GProgram} {p1 : Int} {p2 : Int} {p3 : Int} {p4 : Int} {p5 : Int} {r : Bool}, spec_l06Stands k p0 p1 p2 p3 p4 p5 = some r → Con Tryz.prog 29 [.agg [.d (.row .bor 3 (Rw (GFunc.cells .bor) p0.funcs))], V.int p1, V.int p2, V.int p3, V.int p4, V.int p5] [] (V.bool r) []) ∧
  (∀ {k : Nat} {p0 : (List GFunc)} {p1 : (List GFunc)} {r : Bool}, laws_eqFuncS k p0 p1 = some r → Con Tryz.prog 57 [.d (.row .bor 3 (Rw (GFunc.cells .bor) p0)), .d (.row .bor 3 (Rw (GFunc.cells .bor) p1))] [] (V.bool r) []) ∧
  (∀ {k : Nat} {p0 : GState} {p1 : GState} {r : Bool}, laws_eqState k p0 p1 = some r → Con Tryz.prog 20 [.agg [.d (.row .bor 4 (Rw (GFrame.cells .bor) p0.frames)), .d (.row .bor 1 (Rw (cL .bor 1 (cI .i64)) p0.heap)), .d (.row .bor 1 (Rw (cI .i64) p0.out)), V.int p0.fuel0, V.bool p0.done, V.int p0.value, V.int p0.trap], .agg [.d (.row .bor 4 (Rw (GFrame.cells .bor) p1.frames)), .d (.row .bor 1 (Rw (cL .bor 1 (cI .i64)) p1.heap)), .d (.row .bor 1 (Rw (cI .i64) p1.out)), V.int p1.fuel0, V.bool p1.done, V.int p1.value, V.int p1.trap]] [] (V.bool r) []) ∧
  (∀ {k : Nat} {p0 : GProgram} {p1 : Int} {r : Int}, laws_szProgram k p0 p1 = some r → Con Tryz.prog 15 [.agg [.d (.row .bor 3 (Rw (GFunc.cells .bor) p0.funcs))], V.int p1] [] (V.int r) []) := by
  refine ⟨?_, ?_, ?_, ?_⟩
  all_goals intros
  all_goals rename_i h
  all_goals first
    | (with_reducible refine isf 29 ?_
       refine csw Tryz.func29 Tryz.call29 (by simp [Tryz.ntmps29]) (h := ?_)
       refine mkf 29 fun hF => ?_
       rw [Tryz.ntmps29, Tryz.results29]
       unfold spec_l06Stands at h)
    | (with_reducible refine isf 57 ?_
       refine csw Tryz.func57 Tryz.call57 (by simp [Tryz.ntmps57]) (h := ?_)
       refine mkf 57 fun hF => ?_
       rw [Tryz.ntmps57, Tryz.results57]
       unfold laws_eqFuncS at h)
    | (with_reducible refine isf 20 ?_
       refine csw Tryz.func20 Tryz.call20 (by simp [Tryz.ntmps20]) (h := ?_)
       refine mkf 20 fun hF => ?_
       rw [Tryz.ntmps20, Tryz.results20]
       unfold laws_eqState at h)
    | (with_reducible refine isf 15 ?_
       refine csw Tryz.func15 Tryz.call15 (by simp [Tryz.ntmps15]) (h := ?_)
       refine mkf 15 fun hF => ?_
       rw [Tryz.ntmps15, Tryz.results15]
       unfold laws_szProgram at h)
  all_goals (replace h := Yes.mk h; simp only [entryS, entryO, Nat.reduceAdd, List.length_nil, List.length_cons])
  repeat' (first
 | (with_reducible (first | refine sw_reg ?_ | refine sw_ret ?_ | refine sw_skip ?_ | refine sw_block ?_ | refine sw_exit ?_ | refine seqQ_normal ?_ | refine blockQ_normal ?_ | refine blockQ_ret ?_ | refine blockQ_this ?_ | refine blockQ_other (by decide) ?_ | refine regW_nil ?_ | refine sw_draw mixed ?_ | refine retQ_ret ?_ | refine retQ_normal ?_))
 | (with_reducible refine regD_nil ?_
    refine ⟨by kernel_rfl, ?_⟩)
 | (revert h; (first | ((with_reducible refine idx_elim ?_); intro m hm1 hm2 hm3 h; (try (simp only [Int.reduceToNat] at hm3)); (try (revert hm3; (with_reducible apply same_elim); (focus (with_reducible assumption)); rintro rfl)); (try (simp only [List.length_set, List.length_cons, List.length_nil, List.length_replicate, Nat.reduceAdd, Int.cast_ofNat_Int, Nat.zero_add, List.length_append] at hm2))) | (with_reducible refine sidx_elim ?_; intro m hm1 hm3 h) | (with_reducible refine gd_elim ?_; intro hg h; try (have hg2 := hg.2; have hg := hg.1; (try (simp only [Nat.reduceLeDiff] at hg2)); (try (revert hg2; (with_reducible refine toNat_elim hg ?_); intro hg2 hg4)); try (have hg3 := hg2.2; have hg2 := hg2.1; (try (simp only [Nat.reduceLeDiff] at hg3))))) | (with_reducible refine condt_elim ?_ ?_; (focus (with_reducible assumption)); intro h) | (with_reducible refine condf_elim ?_ ?_; (focus (with_reducible assumption)); intro h)))
 | ((with_reducible first | refine pnR ?_ | refine pnE ?_ | refine pmR ?_ | refine pmE ?_)
    obtain rfl := h.get
    have h := hK
    clear hK
    (try (simp only [Sum.elim_inl, Sum.elim_inr] at h)))
 | ((with_reducible refine fi 29 ?_ ?_); (focus (with_reducible assumption))
    first
    | (with_reducible refine here_join (a := (.seq (.region 1 _ _) _)) (b := (.seq (.region 3 _ _) _)) ?_
       revert h
       with_reducible refine bind_elimY ?_
       intro o1 h hK
       unfold spec_l06Stands.a1 at h
       refine sw_join (ι := (List GFunc) × Int × Int × Int × Int) 10000000 (fun x => [(.s 1, some (.v (V.int x.2.1))), (.s 2, some (.v (V.int x.2.2.1))), (.s 4, some (.v (V.int x.2.2.2.1))), (.s 5, some (.v (V.int x.2.2.2.2))), (.s 6, some (.v (.mp 0 1 0 0))), (.r 0, some (.o 1 [[.d (.row .bor 3 (Rw (GFunc.cells .bor) x.1))]]))]) (fun x => Yes (some (.inr x)) o1) ?_ ?_
       rotate_left
       rintro ⟨b1, b2, b3, b4, b5⟩ h
       obtain rfl := h.get
       have h := hK
       clear hK
       (try (simp only [Sum.elim_inl, Sum.elim_inr] at h))
       refine sw_gh ?_
       refine gh_sw ?_))
 | ((with_reducible refine fi 57 ?_ ?_); (focus (with_reducible assumption))
    first
    | (with_reducible refine here_loop (c := (.seq (.seq (.region 4 _ _) _) _)) ?_
       revert h
       with_reducible refine bind_elimY ?_
       intro o1 h hK
       refine lpA (β := (List GFunc) × (List GFunc) × Int) 10000000 (fun x => [(.s 0, some (.v (.d (.row .bor 3 (Rw (GFunc.cells .bor) x.2.1))))), (.s 1, some (.v (.d (.row .bor 3 (Rw (GFunc.cells .bor) x.2.2.1))))), (.s 5, some (.v (V.int x.2.2.2)))]) (fun x => Yes (laws_eqFuncS.l1 x.1 x.2.1 x.2.2.1 x.2.2.2) o1) (_, _, _, _) h ?_
       rintro ⟨_ | k, a1, a2, a3⟩ h
       · simp only [laws_eqFuncS.l1] at h; exact h.none
       simp only [laws_eqFuncS.l1] at h
   ))
 | (with_reducible refine here_next ?_
    first | refine nxA (_, _, _, _) h)
 | (with_reducible refine here_meet ?_
    first | refine mtA (_, _, _, _, _) h)
 | with_reducible refine sw_seq ?_
 | with_reducible refine seqQ_ret ?_
 | with_reducible refine seqQ_exit ?_
 | ((with_reducible refine wp_ite ?_ ?_)
    all_goals (intro hc; (try (simp only [Bool.not_eq_true, Bool.not_eq_false] at hc)); simp only [hc]))
 | (with_reducible refine rskip (hs := ?_) (h2 := ?_)
    · simp only [putSt, lk, lkb, reduceCtorEq, Nat.reduceEqDiff]; done)
 | (with_reducible refine ryes (hs := ?_) (h := ?_)
    · simp only [putSt, lk, lkb, reduceCtorEq, Nat.reduceEqDiff]; done)
 | (with_reducible refine rno (hs := ?_) (h := ?_)
    · simp only [putSt, lk, lkb, reduceCtorEq, Nat.reduceEqDiff, Bool.not_true, Bool.not_false]; done)
 | (with_reducible apply regW_guardN
    · simp only [dstOk, Nat.reduceLT]
    · rfl
    · simp only [putSt, lk, lkb, reduceCtorEq, Nat.reduceEqDiff]; rfl
    all_goals (intro hc; (try (simp only [Bool.not_true, Bool.not_false] at hc))))
 | (with_reducible apply sw_cond
    · simp only [putSt, lk, lkb, reduceCtorEq, Nat.reduceEqDiff]; rfl
    all_goals (intro hc; try (cases hc; done)))
 | ((first
     | ((with_reducible refine gh_ret ?_)
        revert h
        with_reducible refine some_elim ?_
        rintro rfl)
     | (with_reducible refine here_call ?_
        revert h
        with_reducible refine bind_elim ?_
        intro t ht h
        (first
          | ((first
              | ((with_reducible refine here_call (f := 69) ?_); refine call_dataE (c_spec_l04Heights ht) ?_ rfl ?_)
              | ((with_reducible refine here_call (f := 96) ?_); refine call_dataE (c_laws_eqFunc ht) ?_ rfl ?_)
              | ((with_reducible refine here_call (f := 54) ?_); refine call_dataE (c_laws_eqFrameS ht) ?_ rfl ?_)
              | ((with_reducible refine here_call (f := 55) ?_); refine call_dataE (c_laws_eqInt64SS ht) ?_ rfl ?_)
              | ((with_reducible refine here_call (f := 56) ?_); refine call_dataE (c_laws_eqInt64S ht) ?_ rfl ?_)
              | ((with_reducible refine here_call (f := 46) ?_); refine call_dataE (c_laws_szFuncS ht) ?_ rfl ?_))
             · first | rfl | (simp; done))))
     | (with_reducible (first | refine ropD (h := ?_) | refine ropW (h := ?_))
        intro k hk)
     | skip)
    simp only [RetW, bn, lkb, evb, opC, opP, fetchN, fetchP, fetchAll, fetchO, Prog.bind, Prog.wp, Prog.wp_bind, lk, nameP, nameAll, Value.oneCell', putSt, stepP, putP, reduceCtorEq, V.lin, V.linL, D.lin, isNil, binP, unP, BinOp.isShift, Prog.ofO, Nat.reduceAdd, Nat.reduceMul, Nat.reduceSub, Nat.reduceLT, Nat.reduceLeDiff, Nat.reduceEqDiff, ite_true, ite_false, fieldAddrP, fieldP, indexAddrP, loadP, storeP, boxP, allocP, cellsP, asVal, setSeg, outP, outT, cntT, TyK.field, TyK.agg, zeroRow, V.ren, V.renL, forall_eq_or_imp, forall_const, minmaxP, lenP, lenOf, lenStr, V.asInt, decide_true, decide_false, sliceP, boundP, makeSliceP, convertP, appendP, rowsOfP, ontoP, sizeFits, V.rowSize, TyK.src, resV, resV.go, resV.gol, retP, retOne, retAll, resTo, objsAre, Option.map_eq_map, Function.const_apply, Int.reduceNeg, Int.reduceToNat, ty2, ty3, ty4, ty5, ty6, ty23, ty25, ty26, ty27, ty28, ty30, ty38, ty40, ty56, ty90, ty92, ty94, ty98, ty129, ty131, ty183, GFrame.cells, GFunc.cells, GI2.cells, GI3.cells, GProgram.cells, GState.cells, cI, cB, cS, cL, GFrame_e, GState_e, GI2_e, GFunc_e, GProgram_e, GI3_e, LcIi64_e, buildP, buildSliceP, putParts, structPlaces, chunks, List.replicate, List.flatten_nil, List.flatten_cons, Option.bind_some, cellsEq, cellEq, Bool.and_true, fl98_spec_l06Stands, *]
    try (refine hk.use _ _ _ _ ?_; clear hk k))
 | fail)
  all_goals (try rfl)
  all_goals (try (simp; done))
  all_goals (try (simp_all; done))
def c_spec_l06Stands := @And.left _ _ gs22
def c_laws_eqFuncS := @And.left _ _ (@And.right _ _ gs22)
def c_laws_eqState := @And.left _ _ (@And.right _ _ (@And.right _ _ gs22))
def c_laws_szProgram := (@And.right _ _ (@And.right _ _ (@And.right _ _ gs22)))
set_option linter.defProp false
def laws_szState (k : Nat) (p0 : GState) (p1 : Int) : Option (Int) :=
  (laws_szFrameS k p0.frames p1).bind fun t1 => cond ((decide (t1 < 0))) (some ((-1))) ((laws_szInt64SS k p0.heap t1).bind fun t2 => cond ((decide (t2 < 0))) (some ((-1))) ((laws_szInt64S p0.out t2).bind fun t3 => cond ((decide (t3 < 0))) (some ((-1))) (some t3)))
def laws_toFuncS.l1 : Nat → (List GFunc) → (List GFunc) → Int → Option ((List GFunc))
  | 0, _, _, _ => none
  | k + 1, a1, a2, a3 => cond ((decide (a3 < ((a2.length : Int))))) ((idx a2 a3).bind fun m1 => (laws_toFunc k m1).bind fun t2 => (idx a1 a3).bind fun m3 => laws_toFuncS.l1 k ((a1.set a3.toNat t2)) a2 ((IntKind.i64.wrap (a3 + 1)))) (some (a1))
def laws_toFuncS (k : Nat) (p0 : (List GFunc)) : Option ((List GFunc)) :=
  gd (0 ≤ (p0.length : Int) ∧ ((p0.length : Int)) * 40 ≤ 35184372088832 ∧ (p0.length : Int) ≤ 35184372088832) ((laws_toFuncS.l1 k ((List.replicate p0.length (⟨0, 0, []⟩))) p0 0).bind fun o1 => some o1)
def laws_toState (k : Nat) (p0 : GState) : Option (GState) :=
  (laws_toFrameS k p0.frames).bind fun t1 => (laws_toInt64SS k p0.heap).bind fun t2 => (laws_toInt64S k p0.out).bind fun t3 => some ((⟨t1, t2, t3, p0.fuel0, p0.done, p0.value, p0.trap⟩ : GState))
theorem gs23 : (∀ {k : Nat} {p0 : GState} {p1 : Int} {r : Int}, laws_szState k p0 p1 = some r → Con Tryz.prog 16 [.agg [.d (.row .bor 4 (Rw (GFrame.cells .bor) p0.frames)), .d (.row .bor 1 (Rw (cL .bor 1 (cI .i64)) p0.heap)), .d (.row .bor 1 (Rw (cI .i64) p0.out)), V.int p0.fuel0, V.bool p0.done, V.int p0.value, V.int p0.trap], V.int p1] [] (V.int r) []) ∧
  (∀ {k : Nat} {p0 : (List GFunc)} {r : (List GFunc)}, laws_toFuncS k p0 = some r → Con Tryz.prog 50 [.d (.row .bor 3 (Rw (GFunc.cells .bor) p0))] [] (.d (.row .own 3 (Rw (GFunc.cells .own) r))) []) ∧
  (∀ {k : Nat} {p0 : GState} {r : GState}, laws_toState k p0 = some r → Con Tryz.prog 19 [.agg [.d (.row .bor 4 (Rw (GFrame.cells .bor) p0.frames)), .d (.row .bor 1 (Rw (cL .bor 1 (cI .i64)) p0.heap)), .d (.row .bor 1 (Rw (cI .i64) p0.out)), V.int p0.fuel0, V.bool p0.done, V.int p0.value, V.int p0.trap]] [] (.agg [.d (.row .own 4 (Rw (GFrame.cells .own) r.frames)), .d (.row .own 1 (Rw (cL .own 1 (cI .i64)) r.heap)), .d (.row .own 1 (Rw (cI .i64) r.out)), V.int r.fuel0, V.bool r.done, V.int r.value, V.int r.trap]) []) := by
  refine ⟨?_, ?_, ?_⟩
  all_goals intros
  all_goals rename_i h
  all_goals first
    | (with_reducible refine isf 16 ?_
       refine csw Tryz.func16 Tryz.call16 (by simp [Tryz.ntmps16]) (h := ?_)
       refine mkf 16 fun hF => ?_
       rw [Tryz.ntmps16, Tryz.results16]
       unfold laws_szState at h)
    | (with_reducible refine isf 50 ?_
       refine csw Tryz.func50 Tryz.call50 (by simp [Tryz.ntmps50]) (h := ?_)
       refine mkf 50 fun hF => ?_
       rw [Tryz.ntmps50, Tryz.results50]
       unfold laws_toFuncS at h)
    | (with_reducible refine isf 19 ?_
       refine csw Tryz.func19 Tryz.call19 (by simp [Tryz.ntmps19]) (h := ?_)
       refine mkf 19 fun hF => ?_
       rw [Tryz.ntmps19, Tryz.results19]
       unfold laws_toState at h)
  all_goals (replace h := Yes.mk h; simp only [entryS, entryO, Nat.reduceAdd, List.length_nil, List.length_cons])
  repeat' (first
 | (with_reducible (first | refine sw_reg ?_ | refine sw_ret ?_ | refine sw_skip ?_ | refine sw_block ?_ | refine sw_exit ?_ | refine seqQ_normal ?_ | refine blockQ_normal ?_ | refine blockQ_ret ?_ | refine blockQ_this ?_ | refine blockQ_other (by decide) ?_ | refine regW_nil ?_ | refine sw_draw mixed ?_ | refine retQ_ret ?_ | refine retQ_normal ?_))
 | (with_reducible refine regD_nil ?_
    refine ⟨by kernel_rfl, ?_⟩)
 | (revert h; (first | ((with_reducible refine idx_elim ?_); intro m hm1 hm2 hm3 h; (try (simp only [Int.reduceToNat] at hm3)); (try (revert hm3; (with_reducible apply same_elim); (focus (with_reducible assumption)); rintro rfl)); (try (simp only [List.length_set, List.length_cons, List.length_nil, List.length_replicate, Nat.reduceAdd, Int.cast_ofNat_Int, Nat.zero_add, List.length_append] at hm2))) | (with_reducible refine sidx_elim ?_; intro m hm1 hm3 h) | (with_reducible refine gd_elim ?_; intro hg h; try (have hg2 := hg.2; have hg := hg.1; (try (simp only [Nat.reduceLeDiff] at hg2)); (try (revert hg2; (with_reducible refine toNat_elim hg ?_); intro hg2 hg4)); try (have hg3 := hg2.2; have hg2 := hg2.1; (try (simp only [Nat.reduceLeDiff] at hg3))))) | (with_reducible refine condt_elim ?_ ?_; (focus (with_reducible assumption)); intro h) | (with_reducible refine condf_elim ?_ ?_; (focus (with_reducible assumption)); intro h)))
 | ((with_reducible first | refine pnR ?_ | refine pnE ?_ | refine pmR ?_ | refine pmE ?_)
    obtain rfl := h.get
    have h := hK
    clear hK
    (try (simp only [Sum.elim_inl, Sum.elim_inr] at h)))
 | ((with_reducible refine fi 50 ?_ ?_); (focus (with_reducible assumption))
    first
    | (with_reducible refine here_loop (c := (.seq (.seq (.region 3 _ _) _) _)) ?_
       revert h
       with_reducible refine bind_elimY ?_
       intro o1 h hK
       refine sw_gh ?_
       (try (apply gh_zero (f := (GFunc.cells .own)) 256 ⟨0, 0, []⟩; (focus (simp only [putSt, lk, lkb, reduceCtorEq, Nat.reduceEqDiff]; try rfl)); (focus (exact .cons .same (.cons .same (.cons .nil (.nil)))))))
       (try (apply gh_resRow 256; (focus (simp only [putSt, lk, lkb, reduceCtorEq, Nat.reduceEqDiff]; try rfl)); (focus (first | (simp only [Rw_length, List.length_set]; omega) | (simp [Rw_length]; omega))); simp only [rxb, Nat.reduceAdd, Nat.reduceLeDiff, rxd, putSt, lk, lkb, reduceCtorEq, Nat.reduceEqDiff, *, mmb, GFrame_Dset, GState_Dset, GI2_Dset, GFunc_Dset, LcIi64_Dset]))
       refine gh_sw ?_
       refine lpA (β := (List GFunc) × (List GFunc) × Int) 10000000 (fun x => [(.s 0, some (.v (.d (.row .bor 3 (Rw (GFunc.cells .bor) x.2.2.1))))), (.s 3, some (.v (.sl 256 3 0 x.2.1.length))), (.s 4, some (.v (V.int x.2.2.2))), (.r 256, some (.o 3 (dd (Rw (GFunc.cells .own) x.2.1))))]) (fun x => Yes (laws_toFuncS.l1 x.1 x.2.1 x.2.2.1 x.2.2.2) o1) (_, _, _, _) h ?_
       rintro ⟨_ | k, a1, a2, a3⟩ h
       · simp only [laws_toFuncS.l1] at h; exact h.none
       simp only [laws_toFuncS.l1] at h
   )
    | (with_reducible refine here_next (N0 := 10000000) ?_
       (try (apply gh_zero (f := (GFunc.cells .own)) 256 ⟨0, 0, []⟩; (focus (simp only [putSt, lk, lkb, reduceCtorEq, Nat.reduceEqDiff]; try rfl)); (focus (exact .cons .same (.cons .same (.cons .nil (.nil)))))))
       (try (apply gh_resRow 256; (focus (simp only [putSt, lk, lkb, reduceCtorEq, Nat.reduceEqDiff]; try rfl)); (focus (first | (simp only [Rw_length, List.length_set]; omega) | (simp [Rw_length]; omega))); simp only [rxb, Nat.reduceAdd, Nat.reduceLeDiff, rxd, putSt, lk, lkb, reduceCtorEq, Nat.reduceEqDiff, *, mmb, GFrame_Dset, GState_Dset, GI2_Dset, GFunc_Dset, LcIi64_Dset]))
       refine nxA (_, _, _, _) h))
 | with_reducible refine sw_seq ?_
 | with_reducible refine seqQ_ret ?_
 | with_reducible refine seqQ_exit ?_
 | ((with_reducible refine fi 50 ?_ ?_); (focus (with_reducible assumption))
    first
    | (with_reducible refine gh_nilRow 2 .own 3 ?_ ?_
       · simp only [putSt, lk, lkb, reduceCtorEq, Nat.reduceEqDiff]; done
       skip))
 | ((with_reducible refine wp_ite ?_ ?_)
    all_goals (intro hc; (try (simp only [Bool.not_eq_true, Bool.not_eq_false] at hc)); simp only [hc]))
 | (with_reducible refine rskip (hs := ?_) (h2 := ?_)
    · simp only [putSt, lk, lkb, reduceCtorEq, Nat.reduceEqDiff]; done)
 | (with_reducible refine ryes (hs := ?_) (h := ?_)
    · simp only [putSt, lk, lkb, reduceCtorEq, Nat.reduceEqDiff]; done)
 | (with_reducible refine rno (hs := ?_) (h := ?_)
    · simp only [putSt, lk, lkb, reduceCtorEq, Nat.reduceEqDiff, Bool.not_true, Bool.not_false]; done)
 | (with_reducible apply regW_guardN
    · simp only [dstOk, Nat.reduceLT]
    · rfl
    · simp only [putSt, lk, lkb, reduceCtorEq, Nat.reduceEqDiff]; rfl
    all_goals (intro hc; (try (simp only [Bool.not_true, Bool.not_false] at hc))))
 | (with_reducible apply sw_cond
    · simp only [putSt, lk, lkb, reduceCtorEq, Nat.reduceEqDiff]; rfl
    all_goals (intro hc; try (cases hc; done)))
 | ((first
     | ((with_reducible refine gh_ret ?_)
        revert h
        with_reducible refine some_elim ?_
        rintro rfl)
     | (with_reducible refine here_call ?_
        revert h
        with_reducible refine bind_elim ?_
        intro t ht h
        (first
          | ((first
              | ((with_reducible refine here_call (f := 47) ?_); refine call_dataE (c_laws_szFrameS ht) ?_ rfl ?_)
              | ((with_reducible refine here_call (f := 48) ?_); refine call_dataE (c_laws_szInt64SS ht) ?_ rfl ?_)
              | ((with_reducible refine here_call (f := 49) ?_); refine call_dataE (c_laws_szInt64S ht) ?_ rfl ?_)
              | ((with_reducible refine here_call (f := 93) ?_); refine call_dataE (c_laws_toFunc ht) ?_ rfl ?_)
              | ((with_reducible refine here_call (f := 51) ?_); refine call_dataE (c_laws_toFrameS ht) ?_ rfl ?_)
              | ((with_reducible refine here_call (f := 52) ?_); refine call_dataE (c_laws_toInt64SS ht) ?_ rfl ?_)
              | ((with_reducible refine here_call (f := 53) ?_); refine call_dataE (c_laws_toInt64S ht) ?_ rfl ?_))
             · first | rfl | (simp; done))))
     | (with_reducible (first | refine ropD (h := ?_) | refine ropW (h := ?_))
        intro k hk)
     | skip)
    simp only [RetW, bn, lkb, evb, opC, opP, fetchN, fetchP, fetchAll, fetchO, Prog.bind, Prog.wp, Prog.wp_bind, lk, nameP, nameAll, Value.oneCell', putSt, stepP, putP, reduceCtorEq, V.lin, V.linL, D.lin, isNil, binP, unP, BinOp.isShift, Prog.ofO, Nat.reduceAdd, Nat.reduceMul, Nat.reduceSub, Nat.reduceLT, Nat.reduceLeDiff, Nat.reduceEqDiff, ite_true, ite_false, fieldAddrP, fieldP, indexAddrP, loadP, storeP, boxP, allocP, cellsP, asVal, setSeg, outP, outT, cntT, TyK.field, TyK.agg, zeroRow, V.ren, V.renL, forall_eq_or_imp, forall_const, minmaxP, lenP, lenOf, lenStr, V.asInt, decide_true, decide_false, sliceP, boundP, makeSliceP, convertP, appendP, rowsOfP, ontoP, sizeFits, V.rowSize, TyK.src, resV, resV.go, resV.gol, retP, retOne, retAll, resTo, objsAre, Option.map_eq_map, Function.const_apply, Int.reduceNeg, Int.reduceToNat, ty2, ty3, ty4, ty5, ty6, ty23, ty26, ty27, ty28, ty30, ty38, ty41, ty43, ty56, ty92, ty94, ty98, ty129, ty131, ty133, ty183, GFrame.cells, GFunc.cells, GI2.cells, GState.cells, cI, cB, cS, cL, GFrame_e, GState_e, GI2_e, GFunc_e, LcIi64_e, nilEqP, ne_eq, not_false_eq_true, not_true_eq_false, *]
    try (refine hk.use _ _ _ _ ?_; clear hk k))
 | fail)
  all_goals (try rfl)
  all_goals (try (simp; done))
  all_goals (try (simp_all; done))
def c_laws_szState := @And.left _ _ gs23
def c_laws_toFuncS := @And.left _ _ (@And.right _ _ gs23)
def c_laws_toState := (@And.right _ _ (@And.right _ _ gs23))
set_option linter.defProp false
def impl_world_effect_v02F0c2n1.a1 (k : Nat) (a1 : Grun) (a2 : (List Int)) (a3 : GI2) : Option ((GI2 × Grun × (List Int)) ⊕ (Grun × (List Int) × GI2)) :=
  cond ((decide (((a1.world.heap.length : Int)) ≥ 30))) (some (.inl ((⟨0, 14⟩ : GI2), a1, a2))) ((idx a2 0).bind fun m1 => (impl_in m1 0 50).bind fun t2 => cond ((!t2)) (some (.inl ((⟨0, 14⟩ : GI2), a1, a2))) (some (.inr (a1, a2, a3))))
def impl_world_effect_v02F0c2n1.a2 (k : Nat) (a1 : Grun) (a2 : (List Int)) (a3 : GI2) (a4 : Int) (a5 : Int) : Option (Grun × (List Int) × GI2 × Int × Int × Bool) :=
  cond ((a5 == 35)) (some (a1, a2, a3, a4, a5, true)) (cond ((a5 == 36)) (some (a1, a2, a3, a4, a5, true)) (some (a1, a2, a3, a4, a5, (a5 == 37))))
def impl_world_effect_v02F0c2n1 (k : Nat) (p0 : Grun) (p1 : Int) (p2 : (List Int)) : Option (GI2 × Grun × (List Int)) :=
  cond ((p1 == 34)) ((impl_world_effect_v02F0c2n1.a1 k p0 p2 ((⟨0, 0⟩ : GI2))).bind fun o1 => Sum.elim (fun o1l => gd (o1l.2.1.frames = p0.frames) (some (o1l.1, o1l.2.1, o1l.2.2))) (fun o1r => gd (o1r.1.frames = p0.frames) ((idx o1r.2.1 0).bind fun m3 => gd (0 ≤ m3 ∧ m3 * 8 ≤ 35184372088832 ∧ m3 ≤ 35184372088832) (gd ((o1r.1.world.heap.length + 1) * 24 ≤ 35184372088832 ∧ o1r.1.world.heap.length + 1 ≤ 35184372088832) (some ((⟨(((o1r.1.world.heap ++ [(List.replicate m3.toNat 0)])).length : Int), 0⟩ : GI2), (⟨o1r.1.k, p0.frames, (⟨(o1r.1.world.heap ++ [(List.replicate m3.toNat 0)]), o1r.1.world.out, o1r.1.world.fuel0, o1r.1.world.done, o1r.1.world.value, o1r.1.world.trap⟩ : Gworld)⟩ : Grun), o1r.2.1))))) o1) ((impl_world_effect_v02F0c2n1.a2 k p0 p2 ((⟨0, 0⟩ : GI2)) p1 p1).bind fun o2 => gd (o2.1.frames = p0.frames) (cond o2.2.2.2.2.2 ((idx o2.2.1 0).bind fun m4 => (impl_in m4 1 ((o2.1.world.heap.length : Int))).bind fun t5 => cond ((!t5)) (some ((⟨0, 13⟩ : GI2), (⟨o2.1.k, p0.frames, o2.1.world⟩ : Grun), o2.2.1)) ((idx o2.1.world.heap ((IntKind.i64.wrap (m4 - 1)))).bind fun m6 => cond ((o2.2.2.2.1 == 37)) (some ((⟨(m6.length : Int), 0⟩ : GI2), (⟨o2.1.k, p0.frames, (⟨(o2.1.world.heap.set (((IntKind.i64.wrap (m4 - 1))).toNat) m6), o2.1.world.out, o2.1.world.fuel0, o2.1.world.done, o2.1.world.value, o2.1.world.trap⟩ : Gworld)⟩ : Grun), o2.2.1)) ((idx o2.2.1 1).bind fun m7 => (impl_in m7 0 ((IntKind.i64.wrap (((m6.length : Int)) - 1)))).bind fun t8 => cond ((!t8)) (some ((⟨0, 12⟩ : GI2), (⟨o2.1.k, p0.frames, (⟨(o2.1.world.heap.set (((IntKind.i64.wrap (m4 - 1))).toNat) m6), o2.1.world.out, o2.1.world.fuel0, o2.1.world.done, o2.1.world.value, o2.1.world.trap⟩ : Gworld)⟩ : Grun), o2.2.1)) (cond ((o2.2.2.2.1 == 35)) ((idx m6 m7).bind fun m9 => some ((⟨m9, 0⟩ : GI2), (⟨o2.1.k, p0.frames, (⟨(o2.1.world.heap.set (((IntKind.i64.wrap (m4 - 1))).toNat) m6), o2.1.world.out, o2.1.world.fuel0, o2.1.world.done, o2.1.world.value, o2.1.world.trap⟩ : Gworld)⟩ : Grun), o2.2.1)) ((idx o2.2.1 2).bind fun m10 => (idx m6 m7).bind fun m11 => some ((⟨0, 0⟩ : GI2), (⟨o2.1.k, p0.frames, (⟨(o2.1.world.heap.set (((IntKind.i64.wrap (m4 - 1))).toNat) (m6.set m7.toNat m10)), o2.1.world.out, o2.1.world.fuel0, o2.1.world.done, o2.1.world.value, o2.1.world.trap⟩ : Gworld)⟩ : Grun), o2.2.1)))))) (cond ((o2.2.2.2.2.1 == 38)) ((idx o2.2.1 0).bind fun m12 => gd ((o2.1.world.out.length + 1) * 8 ≤ 35184372088832 ∧ o2.1.world.out.length + 1 ≤ 35184372088832) (some ((⟨0, 0⟩ : GI2), (⟨o2.1.k, p0.frames, (⟨o2.1.world.heap, (o2.1.world.out ++ [m12]), o2.1.world.fuel0, o2.1.world.done, o2.1.world.value, o2.1.world.trap⟩ : Gworld)⟩ : Grun), o2.2.1))) ((impl_arith k o2.2.2.2.1 o2.2.1).bind fun t13 => some (t13, (⟨o2.1.k, p0.frames, o2.1.world⟩ : Grun), o2.2.1)))))
theorem c_impl_world_effect_v02F0c2n1 : (∀ {k : Nat} {p0 : Grun} {p1 : Int} {p2 : (List Int)} {r : GI2 × Grun × (List Int)}, impl_world_effect_v02F0c2n1 k p0 p1 p2 = some r → Con Tryz.prog 81 [.mp 0 8 0 2, V.int p1, .sl 2 1 0 p2.length] [.o 8 [[.d (.ptr .bor [.row .bor 3 (Rw (GFunc.cells .bor) p0.k.program.funcs), .row .bor 1 (Rw (cL .bor 1 (cI .i64)) p0.k.h)]), .sl 1 4 0 p0.frames.length, .d (.row .own 1 (Rw (cL .own 1 (cI .i64)) p0.world.heap)), .d (.row .own 1 (Rw (cI .i64) p0.world.out)), V.int p0.world.fuel0, V.bool p0.world.done, V.int p0.world.value, V.int p0.world.trap]], .o 4 (dd (Rw (GFrame.cells .own) p0.frames)), .o 1 (dd (Rw (cI .i64) p2))] (.agg [V.int r.1.a, V.int r.1.b]) [.o 8 [[.d (.ptr .bor [.row .bor 3 (Rw (GFunc.cells .bor) r.2.1.k.program.funcs), .row .bor 1 (Rw (cL .bor 1 (cI .i64)) r.2.1.k.h)]), .sl 1 4 0 p0.frames.length, .d (.row .own 1 (Rw (cL .own 1 (cI .i64)) r.2.1.world.heap)), .d (.row .own 1 (Rw (cI .i64) r.2.1.world.out)), V.int r.2.1.world.fuel0, V.bool r.2.1.world.done, V.int r.2.1.world.value, V.int r.2.1.world.trap]], .o 4 (dd (Rw (GFrame.cells .own) p0.frames)), .o 1 (dd (Rw (cI .i64) r.2.2))]) := by
  all_goals intros
  all_goals rename_i h
  all_goals first
    | (with_reducible refine isf 81 ?_
       refine csw Tryz.func81 Tryz.call81 (by simp [Tryz.ntmps81]) (h := ?_)
       refine mkf 100087 fun hF => ?_
       rw [Tryz.ntmps81, Tryz.results81]
       unfold impl_world_effect_v02F0c2n1 at h)
  all_goals (replace h := Yes.mk h; simp only [entryS, entryO, Nat.reduceAdd, List.length_nil, List.length_cons])
  repeat' (first
 | ((with_reducible refine fi 100087 ?_ ?_); (focus (with_reducible assumption))
    first
    | (with_reducible refine here_reg (i := 5) ?_
       refine sw_gh ?_
       with_reducible apply gh_nameCell 0 2
       · simp only [putSt, lk, lkb, reduceCtorEq, Nat.reduceEqDiff]; rfl
       · rfl
       simp only [List.set_cons_zero, List.set_cons_succ, Nat.reduceAdd, Rw_length]
       refine gh_sw ?_)
    | (with_reducible refine here_reg (i := 10) ?_
       refine sw_gh ?_
       with_reducible apply gh_nameCell 0 2
       · simp only [putSt, lk, lkb, reduceCtorEq, Nat.reduceEqDiff]; rfl
       · rfl
       simp only [List.set_cons_zero, List.set_cons_succ, Nat.reduceAdd, Rw_length]
       refine gh_sw ?_)
    | (with_reducible refine here_reg (i := 22) ?_
       refine sw_gh ?_
       with_reducible apply gh_nameCell 0 3
       · simp only [putSt, lk, lkb, reduceCtorEq, Nat.reduceEqDiff]; rfl
       · rfl
       simp only [List.set_cons_zero, List.set_cons_succ, Nat.reduceAdd, Rw_length]
       refine gh_sw ?_))
 | (with_reducible (first | refine sw_reg ?_ | refine sw_ret ?_ | refine sw_skip ?_ | refine sw_block ?_ | refine sw_exit ?_ | refine seqQ_normal ?_ | refine blockQ_normal ?_ | refine blockQ_ret ?_ | refine blockQ_this ?_ | refine blockQ_other (by decide) ?_ | refine regW_nil ?_ | refine sw_draw mixed ?_ | refine retQ_ret ?_ | refine retQ_normal ?_))
 | (with_reducible refine regD_nil ?_
    refine ⟨by kernel_rfl, ?_⟩)
 | (revert h; (first | ((with_reducible refine idx_elim ?_); intro m hm1 hm2 hm3 h; (try (simp only [Int.reduceToNat] at hm3)); (try (revert hm3; (with_reducible apply same_elim); (focus (with_reducible assumption)); rintro rfl)); (try (simp only [List.length_set, List.length_cons, List.length_nil, List.length_replicate, Nat.reduceAdd, Int.cast_ofNat_Int, Nat.zero_add, List.length_append] at hm2)); (try (simp only [*] at hm2))) | (with_reducible refine sidx_elim ?_; intro m hm1 hm3 h) | (with_reducible refine gd_elim ?_; intro hg h; try (have hg2 := hg.2; have hg := hg.1; (try (simp only [Nat.reduceLeDiff] at hg2)); (try (revert hg2; (with_reducible refine toNat_elim hg ?_); intro hg2 hg4)); try (have hg3 := hg2.2; have hg2 := hg2.1; (try (simp only [Nat.reduceLeDiff] at hg3))))) | (with_reducible refine condt_elim ?_ ?_; (focus (with_reducible assumption)); intro h) | (with_reducible refine condf_elim ?_ ?_; (focus (with_reducible assumption)); intro h)))
 | ((with_reducible first | refine pnR ?_ | refine pnE ?_ | refine pmR ?_ | refine pmE ?_)
    obtain rfl := h.get
    have h := hK
    clear hK
    (try (simp only [Sum.elim_inl, Sum.elim_inr] at h)))
 | ((with_reducible refine fi 100087 ?_ ?_); (focus (with_reducible assumption))
    first
    | (with_reducible refine here_join (a := (.seq (.region 3 _ _) _)) (b := (.seq (.region 5 _ _) _)) ?_
       revert h
       with_reducible refine bind_elimY ?_
       intro o1 h hK
       unfold impl_world_effect_v02F0c2n1.a1 at h
       refine sw_join (ι := Grun × (List Int) × GI2) 10000000 (fun x => [(.s 0, some (.v (.mp 0 8 0 2))), (.s 2, some (.v (.sl 2 1 0 x.2.1.length))), (.s 6, some (.v (.mp 3 2 0 0))), (.r 1, some (.o 4 (dd (Rw (GFrame.cells .own) x.1.frames)))), (.r 0, some (.o 8 [[.d (.ptr .bor [.row .bor 3 (Rw (GFunc.cells .bor) x.1.k.program.funcs), .row .bor 1 (Rw (cL .bor 1 (cI .i64)) x.1.k.h)]), .sl 1 4 0 x.1.frames.length, .d (.row .own 1 (Rw (cL .own 1 (cI .i64)) x.1.world.heap)), .d (.row .own 1 (Rw (cI .i64) x.1.world.out)), V.int x.1.world.fuel0, V.bool x.1.world.done, V.int x.1.world.value, V.int x.1.world.trap]])), (.r 2, some (.o 1 (dd (Rw (cI .i64) x.2.1)))), (.r 3, some (.o 2 [[V.int x.2.2.a, V.int x.2.2.b]]))]) (fun x => Yes (some (.inr x)) o1) ?_ ?_
       rotate_left
       rintro ⟨b1, b2, b3⟩ h
       obtain rfl := h.get
       have h := hK
       clear hK
       (try (simp only [Sum.elim_inl, Sum.elim_inr] at h))
       refine sw_gh ?_
       refine gh_sw ?_)
    | (with_reducible refine here_meet (N0 := 10000000) ?_
       (try (apply gh_resSl 0 2; (focus (simp only [putSt, lk, lkb, reduceCtorEq, Nat.reduceEqDiff]; try rfl)); (focus rfl); simp only [rxb, Nat.reduceAdd, Nat.reduceLeDiff, rxd, putSt, lk, lkb, reduceCtorEq, Nat.reduceEqDiff, *, mmb, GFrame_Dset, GI2_Dset, GFunc_Dset, GProgram_Dset, Gprog_Dset, Gworld_Dset, LcIi64_Dset]))
       refine mtA (_, _, _) h)
    | (with_reducible refine here_join (a := (.seq (.region 7 _ _) _)) (b := (.cond (.tmp 44) _ _)) ?_
       revert h
       with_reducible refine bind_elimY ?_
       intro o2 h hK
       unfold impl_world_effect_v02F0c2n1.a2 at h
       refine sw_join (ι := Grun × (List Int) × GI2 × Int × Int × Bool) 20000000 (fun x => [(.s 0, some (.v (.mp 0 8 0 2))), (.s 1, some (.v (V.int x.2.2.2.1))), (.s 2, some (.v (.sl 2 1 0 x.2.1.length))), (.s 6, some (.v (.mp 3 2 0 0))), (.s 8, some (.v (V.int x.2.2.2.2.1))), (.s 44, some (.v (V.bool x.2.2.2.2.2))), (.r 1, some (.o 4 (dd (Rw (GFrame.cells .own) x.1.frames)))), (.r 0, some (.o 8 [[.d (.ptr .bor [.row .bor 3 (Rw (GFunc.cells .bor) x.1.k.program.funcs), .row .bor 1 (Rw (cL .bor 1 (cI .i64)) x.1.k.h)]), .sl 1 4 0 x.1.frames.length, .d (.row .own 1 (Rw (cL .own 1 (cI .i64)) x.1.world.heap)), .d (.row .own 1 (Rw (cI .i64) x.1.world.out)), V.int x.1.world.fuel0, V.bool x.1.world.done, V.int x.1.world.value, V.int x.1.world.trap]])), (.r 2, some (.o 1 (dd (Rw (cI .i64) x.2.1)))), (.r 3, some (.o 2 [[V.int x.2.2.1.a, V.int x.2.2.1.b]]))]) (fun x => Yes (some (x)) o2) ?_ ?_
       rotate_left
       rintro ⟨b1, b2, b3, b4, b5, b6⟩ h
       obtain rfl := h.get
       have h := hK
       clear hK
       (try (simp only [Sum.elim_inl, Sum.elim_inr] at h))
       refine sw_gh ?_
       refine gh_sw ?_))
 | (with_reducible refine here_meet ?_
    first | refine mtA (_, _, _, _, _, _) h)
 | with_reducible refine sw_seq ?_
 | with_reducible refine seqQ_ret ?_
 | with_reducible refine seqQ_exit ?_
 | ((with_reducible refine fi 100087 ?_ ?_); (focus (with_reducible assumption))
    first
    | (with_reducible refine here_retw ?_
       with_reducible apply gh_resRow 20000000
       · simp only [putSt, lk, lkb, reduceCtorEq, Nat.reduceEqDiff]; rfl
       · first | (simp only [Rw_length, List.length_set]; omega) | (simp [Rw_length]; omega)
       simp only [rxb, Nat.reduceAdd, Nat.reduceLeDiff, rxd, putSt, lk, lkb, reduceCtorEq, Nat.reduceEqDiff, mmb, GFrame_Dset, GI2_Dset, GFunc_Dset, GProgram_Dset, Gprog_Dset, Gworld_Dset, LcIi64_Dset, *])
    | (with_reducible refine here_retw ?_
       with_reducible apply gh_resSl 0 2
       · simp only [putSt, lk, lkb, reduceCtorEq, Nat.reduceEqDiff]; rfl
       · rfl
       simp only [rxb, Nat.reduceAdd, Nat.reduceLeDiff, rxd, putSt, lk, lkb, reduceCtorEq, Nat.reduceEqDiff, *]))
 | ((with_reducible refine wp_ite ?_ ?_)
    all_goals (intro hc; (try (simp only [Bool.not_eq_true, Bool.not_eq_false] at hc)); simp only [hc]))
 | (with_reducible refine rskip (hs := ?_) (h2 := ?_)
    · simp only [putSt, lk, lkb, reduceCtorEq, Nat.reduceEqDiff]; done)
 | (with_reducible refine ryes (hs := ?_) (h := ?_)
    · simp only [putSt, lk, lkb, reduceCtorEq, Nat.reduceEqDiff]; done)
 | (with_reducible refine rno (hs := ?_) (h := ?_)
    · simp only [putSt, lk, lkb, reduceCtorEq, Nat.reduceEqDiff, Bool.not_true, Bool.not_false]; done)
 | (with_reducible apply regW_guardN
    · simp only [dstOk, Nat.reduceLT]
    · rfl
    · simp only [putSt, lk, lkb, reduceCtorEq, Nat.reduceEqDiff]; rfl
    all_goals (intro hc; (try (simp only [Bool.not_true, Bool.not_false] at hc))))
 | (with_reducible apply sw_cond
    · simp only [putSt, lk, lkb, reduceCtorEq, Nat.reduceEqDiff]; rfl
    all_goals (intro hc; try (cases hc; done)))
 | ((first
     | ((with_reducible refine gh_ret ?_)
        revert h
        with_reducible refine some_elim ?_
        rintro rfl)
     | (with_reducible refine here_call ?_
        revert h
        with_reducible refine bind_elim ?_
        intro t ht h
        (first
          | ((with_reducible refine here_call (f := 110) ?_); refine call_dataE (c_impl_in ht) ?_ rfl ?_
             · first | rfl | (simp; done))
          | ((with_reducible refine here_call (f := 121) ?_); refine call_autoE (c_impl_arith ht) ?_ ?_ ?_
             · simp only [hyb, hyd, GFrame_lend, GI2_lend, GFunc_lend, GProgram_lend, Gprog_lend, Gworld_lend, LcIi64_lend, List.take_of_length_le, putSt, lk, lkb, reduceCtorEq, Nat.reduceEqDiff, *]; first | rfl | done
             · first | rfl | (simp only [nbd, nbb, GFrame_nb, GI2_nb, GFunc_nb, GProgram_nb, Gprog_nb, Gworld_nb, LcIi64_nb]; done)
             simp only [V.namesOf, V.namesOfL, List.foldl_cons, List.foldl_nil, List.nil_append, List.append_nil, List.cons_append])))
     | (with_reducible (first | refine ropD (h := ?_) | refine ropW (h := ?_))
        intro k hk)
     | skip)
    simp only [RetW, bn, lkb, evb, opC, opP, fetchN, fetchP, fetchAll, fetchO, Prog.bind, Prog.wp, Prog.wp_bind, lk, nameP, nameAll, Value.oneCell', putSt, stepP, putP, reduceCtorEq, V.lin, V.linL, D.lin, isNil, binP, unP, BinOp.isShift, Prog.ofO, Nat.reduceAdd, Nat.reduceMul, Nat.reduceSub, Nat.reduceLT, Nat.reduceLeDiff, Nat.reduceEqDiff, ite_true, ite_false, fieldAddrP, fieldP, indexAddrP, loadP, storeP, boxP, allocP, cellsP, asVal, setSeg, outP, outT, cntT, TyK.field, TyK.agg, zeroRow, V.ren, V.renL, forall_eq_or_imp, forall_const, minmaxP, lenP, lenOf, lenStr, V.asInt, decide_true, decide_false, sliceP, boundP, makeSliceP, convertP, appendP, rowsOfP, ontoP, sizeFits, V.rowSize, TyK.src, resV, resV.go, resV.gol, retP, retOne, retAll, resTo, objsAre, Option.map_eq_map, Function.const_apply, Int.reduceNeg, Int.reduceToNat, ty2, ty3, ty4, ty27, ty28, ty104, ty120, ty163, GFrame.cells, GFunc.cells, GI2.cells, GProgram.cells, Gprog.cells, Gworld.cells, cI, cB, cS, cL, GFrame_e, GI2_e, GFunc_e, GProgram_e, Gprog_e, Gworld_e, LcIi64_e, buildP, buildSliceP, putParts, structPlaces, chunks, List.replicate, List.flatten_nil, List.flatten_cons, Option.bind_some, bb, GFrame_b, GI2_b, GFunc_b, GProgram_b, Gprog_b, Gworld_b, LcIi64_b, nilEqP, ne_eq, not_false_eq_true, not_true_eq_false, *]
    try (refine hk.use _ _ _ _ ?_; clear hk k))
 | fail)
  all_goals (try rfl)
  all_goals (try (simp; done))
  all_goals (try (simp_all; done))
end Go.Proofs.YtdlaplgofgklnaaGreat