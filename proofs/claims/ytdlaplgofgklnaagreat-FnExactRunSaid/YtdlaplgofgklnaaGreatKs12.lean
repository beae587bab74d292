/- WHAT IS PROVED: an abstract walker over the model, what some functions of the program answer, and laws of these answers. Conditions: none. -/
import Derived.Test.YtdlaplgofgklnaaGreatKs7
import Derived.Test.YtdlaplgofgklnaaGreatKs10
namespace Go.Proofs.YtdlaplgofgklnaaGreat
open Go.Proofs Go.Proofs.YtdlaplgofgklnaaGreat.L
set_option maxHeartbeats 8000000
set_option linter.unusedSimpArgs false
set_option linter.unusedVariables false
set_option maxRecDepth 100000
set_option linter.defProp false
def spec_l06Step (k : Nat) (p0 : GProgram) (p1 : GState) : Option (GState) :=
  (idx p1.frames ((IntKind.i64.wrap (((p1.frames.length : Int)) - 1)))).bind fun m1 => (idx p0.funcs m1.func0).bind fun m2 => (idx m2.code m1.pc).bind fun m3 => (spec_Takes k p0 m3).bind fun t4 => gd (0 ≤ (IntKind.i64.wrap (((m1.stack.length : Int)) - t4)) ∧ (IntKind.i64.wrap (((m1.stack.length : Int)) - t4)) ≤ (m1.stack.length : Int)) ((spec_l06Nums (((m1.stack.drop (((IntKind.i64.wrap (((m1.stack.length : Int)) - t4))).toNat)).take ((m1.stack.length - ((IntKind.i64.wrap (((m1.stack.length : Int)) - t4))).toNat))))).bind fun t5 => gd (0 ≤ (IntKind.i64.wrap (((m1.stack.length : Int)) - t4)) ∧ (IntKind.i64.wrap (((m1.stack.length : Int)) - t4)) ≤ (m1.stack.length : Int)) (cond ((m3.a == 1)) (gd ((((IntKind.i64.wrap (((m1.stack.length : Int)) - t4))).toNat + 1) * 8 ≤ 35184372088832 ∧ ((IntKind.i64.wrap (((m1.stack.length : Int)) - t4))).toNat + 1 ≤ 35184372088832) (some ((⟨(p1.frames.set ((IntKind.i64.wrap (((p1.frames.length : Int)) - 1))).toNat ((⟨m1.func0, (IntKind.i64.wrap (m1.pc + 1)), m1.locals, ((m1.stack.take (((IntKind.i64.wrap (((m1.stack.length : Int)) - t4))).toNat)) ++ [m3.b])⟩ : GFrame))), p1.heap, p1.out, (IntKind.i64.wrap (p1.fuel0 - 1)), p1.done, p1.value, p1.trap⟩ : GState)))) (cond ((m3.a == 2)) ((idx m1.locals m3.b).bind fun m6 => gd ((((IntKind.i64.wrap (((m1.stack.length : Int)) - t4))).toNat + 1) * 8 ≤ 35184372088832 ∧ ((IntKind.i64.wrap (((m1.stack.length : Int)) - t4))).toNat + 1 ≤ 35184372088832) (some ((⟨(p1.frames.set (((IntKind.i64.wrap (((p1.frames.length : Int)) - 1))).toNat) (⟨m1.func0, (IntKind.i64.wrap (m1.pc + 1)), m1.locals, ((m1.stack.take (((IntKind.i64.wrap (((m1.stack.length : Int)) - t4))).toNat)) ++ [m6])⟩ : GFrame)), p1.heap, p1.out, (IntKind.i64.wrap (p1.fuel0 - 1)), p1.done, p1.value, p1.trap⟩ : GState)))) (cond ((m3.a == 3)) ((idx t5 0).bind fun m7 => (idx m1.locals m3.b).bind fun m8 => some ((⟨(p1.frames.set (((IntKind.i64.wrap (((p1.frames.length : Int)) - 1))).toNat) (⟨m1.func0, (IntKind.i64.wrap (m1.pc + 1)), (m1.locals.set m3.b.toNat m7), (m1.stack.take (((IntKind.i64.wrap (((m1.stack.length : Int)) - t4))).toNat))⟩ : GFrame)), p1.heap, p1.out, (IntKind.i64.wrap (p1.fuel0 - 1)), p1.done, p1.value, p1.trap⟩ : GState))) (cond ((m3.a == 4)) ((idx t5 0).bind fun m9 => gd ((((IntKind.i64.wrap (((m1.stack.length : Int)) - t4))).toNat + 2) * 8 ≤ 35184372088832 ∧ ((IntKind.i64.wrap (((m1.stack.length : Int)) - t4))).toNat + 2 ≤ 35184372088832) (some ((⟨(p1.frames.set ((IntKind.i64.wrap (((p1.frames.length : Int)) - 1))).toNat ((⟨m1.func0, (IntKind.i64.wrap (m1.pc + 1)), m1.locals, ((m1.stack.take (((IntKind.i64.wrap (((m1.stack.length : Int)) - t4))).toNat)) ++ [m9, m9])⟩ : GFrame))), p1.heap, p1.out, (IntKind.i64.wrap (p1.fuel0 - 1)), p1.done, p1.value, p1.trap⟩ : GState)))) (cond ((m3.a == 5)) (some ((⟨(p1.frames.set (((IntKind.i64.wrap (((p1.frames.length : Int)) - 1))).toNat) (⟨m1.func0, (IntKind.i64.wrap (m1.pc + 1)), m1.locals, (m1.stack.take (((IntKind.i64.wrap (((m1.stack.length : Int)) - t4))).toNat))⟩ : GFrame)), p1.heap, p1.out, (IntKind.i64.wrap (p1.fuel0 - 1)), p1.done, p1.value, p1.trap⟩ : GState))) (cond ((m3.a == 30)) (some ((⟨(p1.frames.set (((IntKind.i64.wrap (((p1.frames.length : Int)) - 1))).toNat) (⟨m1.func0, m3.b, m1.locals, (m1.stack.take (((IntKind.i64.wrap (((m1.stack.length : Int)) - t4))).toNat))⟩ : GFrame)), p1.heap, p1.out, (IntKind.i64.wrap (p1.fuel0 - 1)), p1.done, p1.value, p1.trap⟩ : GState))) (cond ((m3.a == 31)) ((idx t5 0).bind fun m10 => cond ((m10 == 0)) (some ((⟨(p1.frames.set (((IntKind.i64.wrap (((p1.frames.length : Int)) - 1))).toNat) (⟨m1.func0, m3.b, m1.locals, (m1.stack.take (((IntKind.i64.wrap (((m1.stack.length : Int)) - t4))).toNat))⟩ : GFrame)), p1.heap, p1.out, (IntKind.i64.wrap (p1.fuel0 - 1)), p1.done, p1.value, p1.trap⟩ : GState))) (some ((⟨(p1.frames.set (((IntKind.i64.wrap (((p1.frames.length : Int)) - 1))).toNat) (⟨m1.func0, (IntKind.i64.wrap (m1.pc + 1)), m1.locals, (m1.stack.take (((IntKind.i64.wrap (((m1.stack.length : Int)) - t4))).toNat))⟩ : GFrame)), p1.heap, p1.out, (IntKind.i64.wrap (p1.fuel0 - 1)), p1.done, p1.value, p1.trap⟩ : GState)))) (cond ((m3.a == 32)) (cond ((decide (((p1.frames.length : Int)) ≥ 10))) ((spec_l06Trap ((⟨(p1.frames.set (((IntKind.i64.wrap (((p1.frames.length : Int)) - 1))).toNat) (⟨m1.func0, (IntKind.i64.wrap (m1.pc + 1)), m1.locals, (m1.stack.take (((IntKind.i64.wrap (((m1.stack.length : Int)) - t4))).toNat))⟩ : GFrame)), p1.heap, p1.out, (IntKind.i64.wrap (p1.fuel0 - 1)), p1.done, p1.value, p1.trap⟩ : GState)) 15).bind fun t11 => some t11) ((spec_l06Frame p0 m3.b t5).bind fun t12 => gd ((p1.frames.length + 1) * 64 ≤ 35184372088832 ∧ p1.frames.length + 1 ≤ 35184372088832) (some ((⟨((p1.frames.set (((IntKind.i64.wrap (((p1.frames.length : Int)) - 1))).toNat) (⟨m1.func0, (IntKind.i64.wrap (m1.pc + 1)), m1.locals, (m1.stack.take (((IntKind.i64.wrap (((m1.stack.length : Int)) - t4))).toNat))⟩ : GFrame)) ++ [t12]), p1.heap, p1.out, (IntKind.i64.wrap (p1.fuel0 - 1)), p1.done, p1.value, p1.trap⟩ : GState))))) (cond ((m3.a == 33)) (gd (0 ≤ (IntKind.i64.wrap (((p1.frames.length : Int)) - 1)) ∧ (IntKind.i64.wrap (((p1.frames.length : Int)) - 1)) ≤ (p1.frames.length : Int)) (cond ((((((IntKind.i64.wrap (((p1.frames.length : Int)) - 1))).toNat : Int)) == 0)) ((idx t5 0).bind fun m13 => some ((⟨(((p1.frames.set (((IntKind.i64.wrap (((p1.frames.length : Int)) - 1))).toNat) (⟨m1.func0, (IntKind.i64.wrap (m1.pc + 1)), m1.locals, (m1.stack.take (((IntKind.i64.wrap (((m1.stack.length : Int)) - t4))).toNat))⟩ : GFrame))).take (((IntKind.i64.wrap (((p1.frames.length : Int)) - 1))).toNat)), p1.heap, p1.out, (IntKind.i64.wrap (p1.fuel0 - 1)), true, m13, p1.trap⟩ : GState))) (gd (0 ≤ (IntKind.i64.wrap (((((IntKind.i64.wrap (((p1.frames.length : Int)) - 1))).toNat : Int)) - 1)) ∧ (IntKind.i64.wrap (((((IntKind.i64.wrap (((p1.frames.length : Int)) - 1))).toNat : Int)) - 1)) < (((IntKind.i64.wrap (((p1.frames.length : Int)) - 1))).toNat : Int)) ((idx ((p1.frames.set (((IntKind.i64.wrap (((p1.frames.length : Int)) - 1))).toNat) (⟨m1.func0, (IntKind.i64.wrap (m1.pc + 1)), m1.locals, (m1.stack.take (((IntKind.i64.wrap (((m1.stack.length : Int)) - t4))).toNat))⟩ : GFrame))) ((IntKind.i64.wrap (((((IntKind.i64.wrap (((p1.frames.length : Int)) - 1))).toNat : Int)) - 1)))).bind fun m14 => (idx t5 0).bind fun m15 => gd ((m14.stack.length + 1) * 8 ≤ 35184372088832 ∧ m14.stack.length + 1 ≤ 35184372088832) (some ((⟨(((((p1.frames.set (((IntKind.i64.wrap (((p1.frames.length : Int)) - 1))).toNat) (⟨m1.func0, (IntKind.i64.wrap (m1.pc + 1)), m1.locals, (m1.stack.take (((IntKind.i64.wrap (((m1.stack.length : Int)) - t4))).toNat))⟩ : GFrame))).set ((IntKind.i64.wrap (((((IntKind.i64.wrap (((p1.frames.length : Int)) - 1))).toNat : Int)) - 1))).toNat ((⟨m14.func0, m14.pc, m14.locals, (m14.stack ++ [m15])⟩ : GFrame)))).take (((IntKind.i64.wrap (((p1.frames.length : Int)) - 1))).toNat)), p1.heap, p1.out, (IntKind.i64.wrap (p1.fuel0 - 1)), p1.done, p1.value, p1.trap⟩ : GState))))))) (cond ((m3.a == 38)) ((idx t5 0).bind fun m16 => gd ((p1.out.length + 1) * 8 ≤ 35184372088832 ∧ p1.out.length + 1 ≤ 35184372088832) (some ((⟨(p1.frames.set (((IntKind.i64.wrap (((p1.frames.length : Int)) - 1))).toNat) (⟨m1.func0, (IntKind.i64.wrap (m1.pc + 1)), m1.locals, (m1.stack.take (((IntKind.i64.wrap (((m1.stack.length : Int)) - t4))).toNat))⟩ : GFrame)), p1.heap, (p1.out ++ [m16]), (IntKind.i64.wrap (p1.fuel0 - 1)), p1.done, p1.value, p1.trap⟩ : GState)))) ((spec_l06Do_v2F2c1n0 k m3.a t5 ((⟨(p1.frames.set (((IntKind.i64.wrap (((p1.frames.length : Int)) - 1))).toNat) (⟨m1.func0, (IntKind.i64.wrap (m1.pc + 1)), m1.locals, (m1.stack.take (((IntKind.i64.wrap (((m1.stack.length : Int)) - t4))).toNat))⟩ : GFrame)), p1.heap, p1.out, (IntKind.i64.wrap (p1.fuel0 - 1)), p1.done, p1.value, p1.trap⟩ : GState))).bind fun t17 => cond ((t17.1.b != 0)) ((spec_l06Trap ((⟨(p1.frames.set (((IntKind.i64.wrap (((p1.frames.length : Int)) - 1))).toNat) (⟨m1.func0, (IntKind.i64.wrap (m1.pc + 1)), m1.locals, (m1.stack.take (((IntKind.i64.wrap (((m1.stack.length : Int)) - t4))).toNat))⟩ : GFrame)), t17.2.heap, t17.2.out, t17.2.fuel0, t17.2.done, t17.2.value, t17.2.trap⟩ : GState)) t17.1.b).bind fun t18 => some t18) ((spec_Puts k m3).bind fun t19 => cond ((decide (t19 > 0))) ((idx ((p1.frames.set (((IntKind.i64.wrap (((p1.frames.length : Int)) - 1))).toNat) (⟨m1.func0, (IntKind.i64.wrap (m1.pc + 1)), m1.locals, (m1.stack.take (((IntKind.i64.wrap (((m1.stack.length : Int)) - t4))).toNat))⟩ : GFrame))) (((IntKind.i64.wrap (((p1.frames.length : Int)) - 1))))).bind fun m20 => gd ((m20.stack.length + 1) * 8 ≤ 35184372088832 ∧ m20.stack.length + 1 ≤ 35184372088832) (some ((⟨(((p1.frames.set (((IntKind.i64.wrap (((p1.frames.length : Int)) - 1))).toNat) (⟨m1.func0, (IntKind.i64.wrap (m1.pc + 1)), m1.locals, (m1.stack.take (((IntKind.i64.wrap (((m1.stack.length : Int)) - t4))).toNat))⟩ : GFrame))).set ((IntKind.i64.wrap (((p1.frames.length : Int)) - 1))).toNat ((⟨m20.func0, m20.pc, m20.locals, (m20.stack ++ [t17.1.a])⟩ : GFrame))), t17.2.heap, t17.2.out, t17.2.fuel0, t17.2.done, t17.2.value, t17.2.trap⟩ : GState)))) (some ((⟨(p1.frames.set (((IntKind.i64.wrap (((p1.frames.length : Int)) - 1))).toNat) (⟨m1.func0, (IntKind.i64.wrap (m1.pc + 1)), m1.locals, (m1.stack.take (((IntKind.i64.wrap (((m1.stack.length : Int)) - t4))).toNat))⟩ : GFrame)), t17.2.heap, t17.2.out, t17.2.fuel0, t17.2.done, t17.2.value, t17.2.trap⟩ : GState))))))))))))))))
theorem nbl_spec_l06Step : ∀ xs : List D, V.nbL (xs.map V.d) = D.nbL xs
  | [] => rfl
  | x :: xs => by simp only [List.map_cons, V.nbL, V.nb, D.nbL, nbl_spec_l06Step xs]
theorem nbdd_spec_l06Step : ∀ xs : List (List D), V.nbLL (dd xs) = D.nbLL xs
  | [] => rfl
  | x :: xs => by have := nbdd_spec_l06Step xs; unfold dd at this ⊢; simp only [List.map_cons, V.nbLL, D.nbLL, nbl_spec_l06Step x, this]
theorem c_spec_l06Step {k : Nat} {p0 : GProgram} {p1 : GState} {r : GState} (h : spec_l06Step k p0 p1 = some r) : Con Tryz.prog 41 [.agg [.d (.row .bor 3 (Rw (GFunc.cells .bor) p0.funcs))], .mp 0 7 0 0] [.o 7 [[.d (.row .own 4 (Rw (GFrame.cells .own) p1.frames)), .d (.row .own 1 (Rw (cL .own 1 (cI .i64)) p1.heap)), .d (.row .own 1 (Rw (cI .i64) p1.out)), V.int p1.fuel0, V.bool p1.done, V.int p1.value, V.int p1.trap]]] (.tup []) [.o 7 [[.d (.row .own 4 (Rw (GFrame.cells .own) r.frames)), .d (.row .own 1 (Rw (cL .own 1 (cI .i64)) r.heap)), .d (.row .own 1 (Rw (cI .i64) r.out)), V.int r.fuel0, V.bool r.done, V.int r.value, V.int r.trap]]] := by
  refine csw Tryz.func41 Tryz.call41 (by simp [Tryz.ntmps41]) (h := ?_)
  rw [Tryz.ntmps41, Tryz.results41]
  unfold spec_l06Step at h
  replace h := Yes.mk h
  simp only [entryS, entryO, Nat.reduceAdd, List.length_nil, List.length_cons]
  repeat' (first
 | (with_reducible refine here_reg (i := 2) ?_
    refine sw_gh ?_
    with_reducible apply gh_nameCell 0 0
    · simp only [putSt, lk, lkb, reduceCtorEq, Nat.reduceEqDiff]; rfl
    · rfl
    simp only [List.set_cons_zero, List.set_cons_succ, Nat.reduceAdd, Rw_length]
    refine gh_sw ?_)
 | (with_reducible refine here_reg (i := 4) ?_
    refine sw_gh ?_
    with_reducible apply gh_nameElem 641 (((IntKind.i64.wrap (((p1.frames.length : Int)) - 1))).toNat) 3
    · simp only [putSt, lk, lkb, reduceCtorEq, Nat.reduceEqDiff]; rfl
    · simp only [RetW, bn, lkb, evb, opC, opP, fetchN, fetchP, fetchAll, fetchO, Prog.bind, Prog.wp, Prog.wp_bind, lk, nameP, nameAll, Value.oneCell', putSt, stepP, putP, reduceCtorEq, V.lin, V.linL, D.lin, isNil, binP, unP, BinOp.isShift, Prog.ofO, Nat.reduceAdd, Nat.reduceMul, Nat.reduceSub, Nat.reduceLT, Nat.reduceLeDiff, Nat.reduceEqDiff, ite_true, ite_false, fieldAddrP, fieldP, indexAddrP, loadP, storeP, boxP, allocP, cellsP, asVal, setSeg, outP, outT, cntT, TyK.field, TyK.agg, zeroRow, V.ren, V.renL, forall_eq_or_imp, forall_const, minmaxP, lenP, lenOf, lenStr, V.asInt, decide_true, decide_false, sliceP, boundP, makeSliceP, convertP, appendP, rowsOfP, ontoP, sizeFits, V.rowSize, TyK.src, resV, resV.go, resV.gol, retP, retOne, retAll, resTo, objsAre, Option.map_eq_map, Function.const_apply, Int.reduceNeg, Int.reduceToNat, ty2, ty3, ty4, ty5, ty23, ty25, ty26, ty27, ty28, ty30, ty56, ty70, ty92, ty94, ty98, ty120, ty126, GFrame.cells, GFunc.cells, GI2.cells, GProgram.cells, GState.cells, cI, cB, cS, cL, GFrame_e, GState_e, GI2_e, GFunc_e, GProgram_e, LcIi64_e, buildP, buildSliceP, putParts, structPlaces, chunks, List.replicate, List.flatten_nil, List.flatten_cons, Option.bind_some, bb, GFrame_b, GState_b, GI2_b, GFunc_b, GProgram_b, LcIi64_b, List.length_take, Nat.min_eq_left, nilEqP, ne_eq, not_false_eq_true, not_true_eq_false, *]; try rfl
    · rfl
    simp only [List.set_cons_zero, List.set_cons_succ, List.set_set, Nat.reduceAdd, Rw_length]
    refine gh_sw ?_)
 | (with_reducible refine here_reg (i := 17) ?_
    refine sw_gh ?_
    with_reducible apply gh_nameElem 641 (((IntKind.i64.wrap (((p1.frames.length : Int)) - 1))).toNat) 2
    · simp only [putSt, lk, lkb, reduceCtorEq, Nat.reduceEqDiff]; rfl
    · simp only [RetW, bn, lkb, evb, opC, opP, fetchN, fetchP, fetchAll, fetchO, Prog.bind, Prog.wp, Prog.wp_bind, lk, nameP, nameAll, Value.oneCell', putSt, stepP, putP, reduceCtorEq, V.lin, V.linL, D.lin, isNil, binP, unP, BinOp.isShift, Prog.ofO, Nat.reduceAdd, Nat.reduceMul, Nat.reduceSub, Nat.reduceLT, Nat.reduceLeDiff, Nat.reduceEqDiff, ite_true, ite_false, fieldAddrP, fieldP, indexAddrP, loadP, storeP, boxP, allocP, cellsP, asVal, setSeg, outP, outT, cntT, TyK.field, TyK.agg, zeroRow, V.ren, V.renL, forall_eq_or_imp, forall_const, minmaxP, lenP, lenOf, lenStr, V.asInt, decide_true, decide_false, sliceP, boundP, makeSliceP, convertP, appendP, rowsOfP, ontoP, sizeFits, V.rowSize, TyK.src, resV, resV.go, resV.gol, retP, retOne, retAll, resTo, objsAre, Option.map_eq_map, Function.const_apply, Int.reduceNeg, Int.reduceToNat, ty2, ty3, ty4, ty5, ty23, ty25, ty26, ty27, ty28, ty30, ty56, ty70, ty92, ty94, ty98, ty120, ty126, GFrame.cells, GFunc.cells, GI2.cells, GProgram.cells, GState.cells, cI, cB, cS, cL, GFrame_e, GState_e, GI2_e, GFunc_e, GProgram_e, LcIi64_e, buildP, buildSliceP, putParts, structPlaces, chunks, List.replicate, List.flatten_nil, List.flatten_cons, Option.bind_some, bb, GFrame_b, GState_b, GI2_b, GFunc_b, GProgram_b, LcIi64_b, List.length_take, Nat.min_eq_left, nilEqP, ne_eq, not_false_eq_true, not_true_eq_false, *]; try rfl
    · rfl
    simp only [List.set_cons_zero, List.set_cons_succ, List.set_set, Nat.reduceAdd, Rw_length]
    refine gh_sw ?_)
 | (with_reducible refine here_reg (i := 19) ?_
    refine sw_gh ?_
    with_reducible apply gh_nameElem 641 (((IntKind.i64.wrap (((p1.frames.length : Int)) - 1))).toNat) 2
    · simp only [putSt, lk, lkb, reduceCtorEq, Nat.reduceEqDiff]; rfl
    · simp only [RetW, bn, lkb, evb, opC, opP, fetchN, fetchP, fetchAll, fetchO, Prog.bind, Prog.wp, Prog.wp_bind, lk, nameP, nameAll, Value.oneCell', putSt, stepP, putP, reduceCtorEq, V.lin, V.linL, D.lin, isNil, binP, unP, BinOp.isShift, Prog.ofO, Nat.reduceAdd, Nat.reduceMul, Nat.reduceSub, Nat.reduceLT, Nat.reduceLeDiff, Nat.reduceEqDiff, ite_true, ite_false, fieldAddrP, fieldP, indexAddrP, loadP, storeP, boxP, allocP, cellsP, asVal, setSeg, outP, outT, cntT, TyK.field, TyK.agg, zeroRow, V.ren, V.renL, forall_eq_or_imp, forall_const, minmaxP, lenP, lenOf, lenStr, V.asInt, decide_true, decide_false, sliceP, boundP, makeSliceP, convertP, appendP, rowsOfP, ontoP, sizeFits, V.rowSize, TyK.src, resV, resV.go, resV.gol, retP, retOne, retAll, resTo, objsAre, Option.map_eq_map, Function.const_apply, Int.reduceNeg, Int.reduceToNat, ty2, ty3, ty4, ty5, ty23, ty25, ty26, ty27, ty28, ty30, ty56, ty70, ty92, ty94, ty98, ty120, ty126, GFrame.cells, GFunc.cells, GI2.cells, GProgram.cells, GState.cells, cI, cB, cS, cL, GFrame_e, GState_e, GI2_e, GFunc_e, GProgram_e, LcIi64_e, buildP, buildSliceP, putParts, structPlaces, chunks, List.replicate, List.flatten_nil, List.flatten_cons, Option.bind_some, bb, GFrame_b, GState_b, GI2_b, GFunc_b, GProgram_b, LcIi64_b, List.length_take, Nat.min_eq_left, nilEqP, ne_eq, not_false_eq_true, not_true_eq_false, *]; try rfl
    · rfl
    simp only [List.set_cons_zero, List.set_cons_succ, List.set_set, Nat.reduceAdd, Rw_length]
    refine gh_sw ?_)
 | (with_reducible refine here_reg (i := 38) ?_
    refine sw_gh ?_
    with_reducible apply gh_nameElem 641 (((IntKind.i64.wrap (((((IntKind.i64.wrap (((p1.frames.length : Int)) - 1))).toNat : Int)) - 1))).toNat) 3
    · simp only [putSt, lk, lkb, reduceCtorEq, Nat.reduceEqDiff]; rfl
    · simp only [RetW, bn, lkb, evb, opC, opP, fetchN, fetchP, fetchAll, fetchO, Prog.bind, Prog.wp, Prog.wp_bind, lk, nameP, nameAll, Value.oneCell', putSt, stepP, putP, reduceCtorEq, V.lin, V.linL, D.lin, isNil, binP, unP, BinOp.isShift, Prog.ofO, Nat.reduceAdd, Nat.reduceMul, Nat.reduceSub, Nat.reduceLT, Nat.reduceLeDiff, Nat.reduceEqDiff, ite_true, ite_false, fieldAddrP, fieldP, indexAddrP, loadP, storeP, boxP, allocP, cellsP, asVal, setSeg, outP, outT, cntT, TyK.field, TyK.agg, zeroRow, V.ren, V.renL, forall_eq_or_imp, forall_const, minmaxP, lenP, lenOf, lenStr, V.asInt, decide_true, decide_false, sliceP, boundP, makeSliceP, convertP, appendP, rowsOfP, ontoP, sizeFits, V.rowSize, TyK.src, resV, resV.go, resV.gol, retP, retOne, retAll, resTo, objsAre, Option.map_eq_map, Function.const_apply, Int.reduceNeg, Int.reduceToNat, ty2, ty3, ty4, ty5, ty23, ty25, ty26, ty27, ty28, ty30, ty56, ty70, ty92, ty94, ty98, ty120, ty126, GFrame.cells, GFunc.cells, GI2.cells, GProgram.cells, GState.cells, cI, cB, cS, cL, GFrame_e, GState_e, GI2_e, GFunc_e, GProgram_e, LcIi64_e, buildP, buildSliceP, putParts, structPlaces, chunks, List.replicate, List.flatten_nil, List.flatten_cons, Option.bind_some, bb, GFrame_b, GState_b, GI2_b, GFunc_b, GProgram_b, LcIi64_b, List.length_take, Nat.min_eq_left, nilEqP, ne_eq, not_false_eq_true, not_true_eq_false, *]; try rfl
    · rfl
    simp only [List.set_cons_zero, List.set_cons_succ, List.set_set, Nat.reduceAdd, Rw_length]
    refine gh_sw ?_)
 | (with_reducible refine here_reg (i := 40) ?_
    refine sw_gh ?_
    with_reducible apply gh_nameCell 0 2
    · simp only [putSt, lk, lkb, reduceCtorEq, Nat.reduceEqDiff]; rfl
    · rfl
    simp only [List.set_cons_zero, List.set_cons_succ, Nat.reduceAdd, Rw_length]
    refine gh_sw ?_)
 | (with_reducible (first | refine sw_reg ?_ | refine sw_ret ?_ | refine sw_skip ?_ | refine sw_block ?_ | refine sw_exit ?_ | refine seqQ_normal ?_ | refine blockQ_normal ?_ | refine blockQ_ret ?_ | refine blockQ_this ?_ | refine blockQ_other (by decide) ?_ | refine regW_nil ?_ | refine sw_draw mixed ?_ | refine retQ_ret ?_ | refine retQ_normal ?_))
 | (with_reducible refine regD_nil ?_
    refine ⟨by kernel_rfl, ?_⟩)
 | (revert h; (first | ((with_reducible refine idx_elim ?_); intro m hm1 hm2 hm3 h; (try (simp only [Int.reduceToNat] at hm3)); (try (revert hm3; (with_reducible apply same_elim); (focus (with_reducible assumption)); rintro rfl)); (try (simp only [List.length_set, List.length_cons, List.length_nil, List.length_replicate, Nat.reduceAdd, Int.cast_ofNat_Int, Nat.zero_add, List.length_append] at hm2))) | (with_reducible refine sidx_elim ?_; intro m hm1 hm3 h) | (with_reducible refine gd_elim ?_; intro hg h; try (have hg2 := hg.2; have hg := hg.1; (try (simp only [Nat.reduceLeDiff] at hg2)); (try (revert hg2; (with_reducible refine toNat_elim hg ?_); intro hg2 hg4)); try (have hg3 := hg2.2; have hg2 := hg2.1; (try (simp only [Nat.reduceLeDiff] at hg3))))) | (with_reducible refine condt_elim ?_ ?_; (focus (with_reducible assumption)); intro h) | (with_reducible refine condf_elim ?_ ?_; (focus (with_reducible assumption)); intro h)))
 | with_reducible refine sw_seq ?_
 | with_reducible refine seqQ_ret ?_
 | with_reducible refine seqQ_exit ?_
 | (with_reducible refine here_retw ?_
    with_reducible apply gh_resRow 641
    · simp only [putSt, lk, lkb, reduceCtorEq, Nat.reduceEqDiff]; rfl
    · first | (simp only [Rw_length, List.length_set]; omega) | (simp [Rw_length]; omega)
    simp only [rxb, Nat.reduceAdd, Nat.reduceLeDiff, resSlotP, nameSlotP, Prog.wp, Prog.wp_bind, Prog.bind, Prog.ofO, putSt, lk, lkb, reduceCtorEq, Nat.reduceEqDiff, resV, resV.go, resV.gol, nameAll, nameP, outP, outT, cntT, V.lin, D.lin, mmb, GFrame_Dset, GState_Dset, GI2_Dset, GFunc_Dset, GProgram_Dset, LcIi64_Dset, *])
 | (with_reducible refine here_retw ?_
    with_reducible apply gh_resSl 0 0
    · simp only [putSt, lk, lkb, reduceCtorEq, Nat.reduceEqDiff]; rfl
    · rfl
    simp only [rxb, Nat.reduceAdd, Nat.reduceLeDiff, resSlotP, nameSlotP, Prog.wp, Prog.wp_bind, Prog.bind, Prog.ofO, putSt, lk, lkb, reduceCtorEq, Nat.reduceEqDiff, resV, resV.go, resV.gol, nameAll, nameP, outP, outT, cntT, V.lin, D.lin, *])
 | ((with_reducible refine wp_ite ?_ ?_)
    all_goals (intro hc; (try (simp only [Bool.not_eq_true, Bool.not_eq_false] at hc)); simp only [hc]))
 | (with_reducible refine rskip (hs := ?_) (h2 := ?_)
    · simp only [putSt, lk, lkb, reduceCtorEq, Nat.reduceEqDiff]; done)
 | (with_reducible refine ryes (hs := ?_) (h := ?_)
    · simp only [putSt, lk, lkb, reduceCtorEq, Nat.reduceEqDiff]; done)
 | (with_reducible refine rno (hs := ?_) (h := ?_)
    · simp only [putSt, lk, lkb, reduceCtorEq, Nat.reduceEqDiff, Bool.not_true, Bool.not_false]; done)
 | (with_reducible apply regW_guardN
    · simp only [dstOk, Nat.reduceLT]
    · rfl
    · simp only [putSt, lk, lkb, reduceCtorEq, Nat.reduceEqDiff]; rfl
    all_goals (intro hc; (try (simp only [Bool.not_true, Bool.not_false] at hc))))
 | (with_reducible apply sw_cond
    · simp only [putSt, lk, lkb, reduceCtorEq, Nat.reduceEqDiff]; rfl
    all_goals (intro hc; try (cases hc; done)))
 | ((first
     | ((with_reducible refine gh_ret ?_)
        revert h
        with_reducible refine some_elim ?_
        rintro rfl)
     | (with_reducible refine here_call ?_
        revert h
        with_reducible refine bind_elim ?_
        intro t ht h
        (first
          | ((with_reducible refine here_call (f := 83) ?_)
             refine call_autoE (c_spec_l06Nums ht) ?_ ?_ ?_
             · simp only [hyb, lendAL, lendA, undd.unddR, D.lendL, D.lend, Md.lend, GFrame_lend, GState_lend, GI2_lend, GFunc_lend, GProgram_lend, LcIi64_lend, Nat.add_sub_cancel', List.take_of_length_le, putSt, lk, lkb, reduceCtorEq, Nat.reduceEqDiff, *]; first | rfl | done
             · first | rfl | (simp only [V.nb, V.nbL, D.nb, D.nbL, Md.nb, nbb, GFrame_nb, GState_nb, GI2_nb, GFunc_nb, GProgram_nb, LcIi64_nb]; done)
             simp only [V.namesOf, V.namesOfL, List.foldl_cons, List.foldl_nil, List.nil_append, List.append_nil, List.cons_append])
          | ((with_reducible refine here_call (f := 85) ?_)
             refine call_dataE (c_spec_Takes ht) ?_ rfl ?_
             · first | rfl | (simp; done))
          | ((with_reducible refine here_call (f := 86) ?_)
             refine call_obj [0] (c_spec_l06Trap ht) (by decide) ?_ ?_
             · first | exact .inl rfl | (refine .inr ⟨?_, ?_⟩; (focus (first | rfl | (simp only [V.nb, V.nbL, D.nb, D.nbL, Md.nb, nbb, GFrame_nb, GState_nb, GI2_nb, GFunc_nb, GProgram_nb, LcIi64_nb]; done))); (focus (simp [C.nb, V.nbLL, V.nbL, V.nb, D.nb, nbdd_spec_l06Step, V.nb, V.nbL, D.nb, D.nbL, Md.nb, nbb, GFrame_nb, GState_nb, GI2_nb, GFunc_nb, GProgram_nb, LcIi64_nb]; done)))
             simp only [argsP, argP, V.namesOf, V.namesOfL, List.mem_append, List.append_nil, List.mem_cons, or_false, or_true, true_or, objsP, C.ren, V.ren, V.renL, renLL_dd, V.renLL, List.getD_cons_zero, List.getD_cons_succ, C.o.injEq, hyb, lendAL, lendA, undd.unddR, D.lendL, D.lend, Md.lend, GFrame_lend, GState_lend, GI2_lend, GFunc_lend, GProgram_lend, LcIi64_lend, Nat.add_sub_cancel', putSt, lk, lkb, reduceCtorEq, Nat.reduceEqDiff, Prog.wp, Prog.wp_bind, Prog.bind, Prog.ofO, List.take_of_length_le, *]
             try (refine ⟨by decide, ?_⟩))
          | ((with_reducible refine here_call (f := 87) ?_)
             refine call_autoE (c_spec_l06Frame ht) ?_ ?_ ?_
             · simp only [hyb, lendAL, lendA, undd.unddR, D.lendL, D.lend, Md.lend, GFrame_lend, GState_lend, GI2_lend, GFunc_lend, GProgram_lend, LcIi64_lend, Nat.add_sub_cancel', List.take_of_length_le, putSt, lk, lkb, reduceCtorEq, Nat.reduceEqDiff, *]; first | rfl | done
             · first | rfl | (simp only [V.nb, V.nbL, D.nb, D.nbL, Md.nb, nbb, GFrame_nb, GState_nb, GI2_nb, GFunc_nb, GProgram_nb, LcIi64_nb]; done)
             simp only [V.namesOf, V.namesOfL, List.foldl_cons, List.foldl_nil, List.nil_append, List.append_nil, List.cons_append])
          | ((with_reducible refine here_call (f := 88) ?_)
             refine call_obj [0, 641] (c_spec_l06Do_v2F2c1n0 ht) (by decide) ?_ ?_
             · first | exact .inl rfl | (refine .inr ⟨?_, ?_⟩; (focus (first | rfl | (simp only [V.nb, V.nbL, D.nb, D.nbL, Md.nb, nbb, GFrame_nb, GState_nb, GI2_nb, GFunc_nb, GProgram_nb, LcIi64_nb]; done))); (focus (simp [C.nb, V.nbLL, V.nbL, V.nb, D.nb, nbdd_spec_l06Step, V.nb, V.nbL, D.nb, D.nbL, Md.nb, nbb, GFrame_nb, GState_nb, GI2_nb, GFunc_nb, GProgram_nb, LcIi64_nb]; done)))
             simp only [argsP, argP, V.namesOf, V.namesOfL, List.mem_append, List.append_nil, List.mem_cons, or_false, or_true, true_or, objsP, C.ren, V.ren, V.renL, renLL_dd, V.renLL, List.getD_cons_zero, List.getD_cons_succ, C.o.injEq, hyb, lendAL, lendA, undd.unddR, D.lendL, D.lend, Md.lend, GFrame_lend, GState_lend, GI2_lend, GFunc_lend, GProgram_lend, LcIi64_lend, Nat.add_sub_cancel', putSt, lk, lkb, reduceCtorEq, Nat.reduceEqDiff, Prog.wp, Prog.wp_bind, Prog.bind, Prog.ofO, List.take_of_length_le, *]
             try (refine ⟨by decide, ?_⟩))
          | ((with_reducible refine here_call (f := 89) ?_)
             refine call_dataE (c_spec_Puts ht) ?_ rfl ?_
             · first | rfl | (simp; done))))
     | ((first | with_reducible apply regD_opLK [(641, none), (0, none)] (dst := some 197) (op := .call { callee := .value (.func 86), args := _, argTypes := _ }) | with_reducible apply regW_opLK [(641, none), (0, none)] (dst := some 197) (op := .call { callee := .value (.func 86), args := _, argTypes := _ }))
        · simp only [dstOk, Nat.reduceLT]
        · simp only [Nat.reduceAdd]; rfl
        intro k hk
        with_reducible apply pre_row 641
        · simp only [putSt, lk, lkb, reduceCtorEq, Nat.reduceEqDiff]; rfl
        · first | (simp only [Rw_length, List.length_set]; omega) | (simp [Rw_length]; omega)
        simp only [rxb, Nat.reduceAdd, Nat.reduceLeDiff, resSlotP, nameSlotP, Prog.wp, Prog.wp_bind, Prog.bind, Prog.ofO, putSt, lk, lkb, reduceCtorEq, Nat.reduceEqDiff, resV, resV.go, resV.gol, nameAll, nameP, outP, outT, cntT, V.lin, D.lin, GFrame_Dset, GState_Dset, GI2_Dset, GFunc_Dset, GProgram_Dset, LcIi64_Dset, *]
        with_reducible apply pre_obj 0
        · simp only [putSt, lk, lkb, reduceCtorEq, Nat.reduceEqDiff]; rfl
        simp only [rxb, Nat.reduceAdd, Nat.reduceLeDiff, resSlotP, nameSlotP, Prog.wp, Prog.wp_bind, Prog.bind, Prog.ofO, putSt, lk, lkb, reduceCtorEq, Nat.reduceEqDiff, resV, resV.go, resV.gol, nameAll, nameP, outP, outT, cntT, V.lin, D.lin, GFrame_Dset, GState_Dset, GI2_Dset, GFunc_Dset, GProgram_Dset, LcIi64_Dset, *]
        with_reducible apply pre_nil)
     | ((first | with_reducible apply regD_opLK [(641, none)] (dst := some 209) (op := .call { callee := .builtin .append, args := _, argTypes := _ }) | with_reducible apply regW_opLK [(641, none)] (dst := some 209) (op := .call { callee := .builtin .append, args := _, argTypes := _ }))
        · simp only [dstOk, Nat.reduceLT]
        · simp only [Nat.reduceAdd]; rfl
        intro k hk
        with_reducible apply pre_row 641
        · simp only [putSt, lk, lkb, reduceCtorEq, Nat.reduceEqDiff]; rfl
        · first | (simp only [Rw_length, List.length_set]; omega) | (simp [Rw_length]; omega)
        simp only [rxb, Nat.reduceAdd, Nat.reduceLeDiff, resSlotP, nameSlotP, Prog.wp, Prog.wp_bind, Prog.bind, Prog.ofO, putSt, lk, lkb, reduceCtorEq, Nat.reduceEqDiff, resV, resV.go, resV.gol, nameAll, nameP, outP, outT, cntT, V.lin, D.lin, GFrame_Dset, GState_Dset, GI2_Dset, GFunc_Dset, GProgram_Dset, LcIi64_Dset, *]
        with_reducible apply pre_nil)
     | ((first | with_reducible apply regD_opLK [(641, none)] (dst := some 253) (op := .indexAddr _ _ _) | with_reducible apply regW_opLK [(641, none)] (dst := some 253) (op := .indexAddr _ _ _))
        · simp only [dstOk, Nat.reduceLT]
        · simp only [Nat.reduceAdd]; rfl
        intro k hk
        with_reducible apply pre_row 641
        · simp only [putSt, lk, lkb, reduceCtorEq, Nat.reduceEqDiff]; rfl
        · first | (simp only [Rw_length, List.length_set]; omega) | (simp [Rw_length]; omega)
        simp only [rxb, Nat.reduceAdd, Nat.reduceLeDiff, resSlotP, nameSlotP, Prog.wp, Prog.wp_bind, Prog.bind, Prog.ofO, putSt, lk, lkb, reduceCtorEq, Nat.reduceEqDiff, resV, resV.go, resV.gol, nameAll, nameP, outP, outT, cntT, V.lin, D.lin, GFrame_Dset, GState_Dset, GI2_Dset, GFunc_Dset, GProgram_Dset, LcIi64_Dset, *]
        with_reducible apply pre_nil)
     | ((first | with_reducible apply regD_opLK [(641, none)] (dst := some 85) (op := .call { callee := .value (.func 88), args := _, argTypes := _ }) | with_reducible apply regW_opLK [(641, none)] (dst := some 85) (op := .call { callee := .value (.func 88), args := _, argTypes := _ }))
        · simp only [dstOk, Nat.reduceLT]
        · simp only [Nat.reduceAdd]; rfl
        intro k hk
        with_reducible apply pre_row 641
        · simp only [putSt, lk, lkb, reduceCtorEq, Nat.reduceEqDiff]; rfl
        · first | (simp only [Rw_length, List.length_set]; omega) | (simp [Rw_length]; omega)
        simp only [rxb, Nat.reduceAdd, Nat.reduceLeDiff, resSlotP, nameSlotP, Prog.wp, Prog.wp_bind, Prog.bind, Prog.ofO, putSt, lk, lkb, reduceCtorEq, Nat.reduceEqDiff, resV, resV.go, resV.gol, nameAll, nameP, outP, outT, cntT, V.lin, D.lin, GFrame_Dset, GState_Dset, GI2_Dset, GFunc_Dset, GProgram_Dset, LcIi64_Dset, *]
        with_reducible apply pre_nil)
     | ((first | with_reducible apply regD_opLK [(0, none)] (dst := some 92) (op := .call { callee := .value (.func 86), args := _, argTypes := _ }) | with_reducible apply regW_opLK [(0, none)] (dst := some 92) (op := .call { callee := .value (.func 86), args := _, argTypes := _ }))
        · simp only [dstOk, Nat.reduceLT]
        · simp only [Nat.reduceAdd]; rfl
        intro k hk
        with_reducible apply pre_obj 0
        · simp only [putSt, lk, lkb, reduceCtorEq, Nat.reduceEqDiff]; rfl
        simp only [rxb, Nat.reduceAdd, Nat.reduceLeDiff, resSlotP, nameSlotP, Prog.wp, Prog.wp_bind, Prog.bind, Prog.ofO, putSt, lk, lkb, reduceCtorEq, Nat.reduceEqDiff, resV, resV.go, resV.gol, nameAll, nameP, outP, outT, cntT, V.lin, D.lin, GFrame_Dset, GState_Dset, GI2_Dset, GFunc_Dset, GProgram_Dset, LcIi64_Dset, *]
        with_reducible apply pre_nil)
     | (with_reducible (first | refine ropD (h := ?_) | refine ropW (h := ?_))
        intro k hk)
     | skip)
    simp only [RetW, bn, lkb, evb, opC, opP, fetchN, fetchP, fetchAll, fetchO, Prog.bind, Prog.wp, Prog.wp_bind, lk, nameP, nameAll, Value.oneCell', putSt, stepP, putP, reduceCtorEq, V.lin, V.linL, D.lin, isNil, binP, unP, BinOp.isShift, Prog.ofO, Nat.reduceAdd, Nat.reduceMul, Nat.reduceSub, Nat.reduceLT, Nat.reduceLeDiff, Nat.reduceEqDiff, ite_true, ite_false, fieldAddrP, fieldP, indexAddrP, loadP, storeP, boxP, allocP, cellsP, asVal, setSeg, outP, outT, cntT, TyK.field, TyK.agg, zeroRow, V.ren, V.renL, forall_eq_or_imp, forall_const, minmaxP, lenP, lenOf, lenStr, V.asInt, decide_true, decide_false, sliceP, boundP, makeSliceP, convertP, appendP, rowsOfP, ontoP, sizeFits, V.rowSize, TyK.src, resV, resV.go, resV.gol, retP, retOne, retAll, resTo, objsAre, Option.map_eq_map, Function.const_apply, Int.reduceNeg, Int.reduceToNat, ty2, ty3, ty4, ty5, ty23, ty25, ty26, ty27, ty28, ty30, ty56, ty70, ty92, ty94, ty98, ty120, ty126, GFrame.cells, GFunc.cells, GI2.cells, GProgram.cells, GState.cells, cI, cB, cS, cL, GFrame_e, GState_e, GI2_e, GFunc_e, GProgram_e, LcIi64_e, buildP, buildSliceP, putParts, structPlaces, chunks, List.replicate, List.flatten_nil, List.flatten_cons, Option.bind_some, bb, GFrame_b, GState_b, GI2_b, GFunc_b, GProgram_b, LcIi64_b, List.length_take, Nat.min_eq_left, nilEqP, ne_eq, not_false_eq_true, not_true_eq_false, *]
    try (refine hk.use _ _ _ _ ?_; clear hk k))
 | fail)
  all_goals (try (simp [List.take_of_length_le]; done))
  all_goals (try rfl)
  all_goals (try (simp; done))
  all_goals (try (simp_all; done))
set_option linter.defProp false
def impl_heightsOf.l1 : Nat → (List GFunc) → (List Int) → (List Bool) → (List GI2) → Int → Int → Option ((List GFunc) × (List Int) × (List Bool) × (List GI2))
  | 0, _, _, _, _, _, _ => none
  | k + 1, a1, a2, a3, a4, a5, a6 => cond ((decide (a6 < a5))) ((idx a2 a6).bind fun m2 => impl_heightsOf.l1 k a1 ((a2.set a6.toNat ((-1)))) a3 a4 a5 ((IntKind.i64.wrap (a6 + 1)))) (some (a1, a2, a3, a4))
def impl_heightsOf.a3 (k : Nat) (a1 : (List GFunc)) (a2 : (List Int)) (a3 : (List Bool)) (a4 : GI2) (a5 : (List GI2)) (a6 : Int) (a7 : Int) : Option (((List Int) × Int × Int) ⊕ ((List GFunc) × (List Int) × (List Bool) × GI2 × (List GI2) × Int × Int)) :=
  cond ((decide (a7 < 0))) (some (.inl (a2, a6, 5))) ((impl_Puts a4).bind fun t9 => cond ((decide (((IntKind.i64.wrap (a7 + t9))) > 8))) (some (.inl (a2, a6, 5))) (some (.inr (a1, a2, a3, a4, a5, a6, a7))))
def impl_heightsOf.a5 (k : Nat) (a1 : (List GFunc)) (a2 : (List Int)) (a3 : (List Bool)) (a4 : GI2) (a5 : (List Int)) (a6 : (List GI2)) (a7 : Int) (a8 : Int) (a9 : Int) (a10 : Int) (a11 : Int) (a12 : Int) : Option (((List Int) × Int × Int) ⊕ ((List GFunc) × (List Int) × (List Bool) × GI2 × (List Int) × (List GI2) × Int × Int × Int × Int × Int × Int)) :=
  (idx a2 a10).bind fun m12 => cond ((decide (m12 ≥ 0))) ((impl_Puts a4).bind fun t13 => cond ((m12 != ((IntKind.i64.wrap (a8 + t13))))) (some (.inl (a2, a7, 5))) (some (.inr (a1, a2, a3, a4, a5, a6, a7, a8, a9, a10, a11, a12)))) (some (.inr (a1, a2, a3, a4, a5, a6, a7, a8, a9, a10, a11, a12)))
def impl_heightsOf.l4 : Nat → (List GFunc) → (List Int) → (List Bool) → GI2 → (List Int) → (List GI2) → Int → Int → Int → Int → Int → Option (((List Int) × Int × Int) ⊕ ((List GFunc) × (List Int) × (List Bool) × (List GI2) × Int))
  | 0, _, _, _, _, _, _, _, _, _, _, _ => none
  | k + 1, a1, a2, a3, a4, a5, a6, a7, a8, a9, a10, a11 => cond ((decide (a11 < a10))) ((idx a5 a11).bind fun m11 => cond ((m11 == ((a6.length : Int)))) (some (.inl (a2, a7, 6))) ((impl_heightsOf.a5 k a1 a2 a3 a4 a5 a6 a7 a8 a9 m11 a10 a11).bind fun o5 => Sum.elim (fun o5l => some (.inl (o5l.1, o5l.2.1, o5l.2.2))) (fun o5r => (idx o5r.2.1 o5r.2.2.2.2.2.2.2.2.2.1).bind fun m14 => cond ((decide (m14 < 0))) ((impl_Puts o5r.2.2.2.1).bind fun t15 => (idx o5r.2.2.1 o5r.2.2.2.2.2.2.2.2.2.1).bind fun m16 => impl_heightsOf.l4 k o5r.1 ((o5r.2.1.set o5r.2.2.2.2.2.2.2.2.2.1.toNat ((IntKind.i64.wrap (o5r.2.2.2.2.2.2.2.1 + t15))))) ((o5r.2.2.1.set o5r.2.2.2.2.2.2.2.2.2.1.toNat true)) o5r.2.2.2.1 o5r.2.2.2.2.1 o5r.2.2.2.2.2.1 o5r.2.2.2.2.2.2.1 o5r.2.2.2.2.2.2.2.1 ((if decide (o5r.2.2.2.2.2.2.2.2.2.1 < o5r.2.2.2.2.2.2.2.2.1) = true then o5r.2.2.2.2.2.2.2.2.2.1 else o5r.2.2.2.2.2.2.2.2.1)) o5r.2.2.2.2.2.2.2.2.2.2.1 ((IntKind.i64.wrap (o5r.2.2.2.2.2.2.2.2.2.2.2 + 1)))) (impl_heightsOf.l4 k o5r.1 o5r.2.1 o5r.2.2.1 o5r.2.2.2.1 o5r.2.2.2.2.1 o5r.2.2.2.2.2.1 o5r.2.2.2.2.2.2.1 o5r.2.2.2.2.2.2.2.1 o5r.2.2.2.2.2.2.2.2.1 o5r.2.2.2.2.2.2.2.2.2.2.1 ((IntKind.i64.wrap (o5r.2.2.2.2.2.2.2.2.2.2.2 + 1))))) o5)) (some (.inr (a1, a2, a3, a6, a9)))
def impl_heightsOf.l2 : Nat → (List GFunc) → (List Int) → (List Bool) → (List GI2) → Int → Option (((List Int) × Int × Int) ⊕ ((List Int)))
  | 0, _, _, _, _, _ => none
  | k + 1, a1, a2, a3, a4, a5 => cond ((decide (a5 < ((a4.length : Int))))) ((idx a3 a5).bind fun m5 => cond ((!m5)) (impl_heightsOf.l2 k a1 a2 a3 a4 ((IntKind.i64.wrap (a5 + 1)))) ((idx a4 a5).bind fun m6 => (idx a2 a5).bind fun m7 => (impl_Takes k ((⟨a1⟩ : GProgram)) m6).bind fun t8 => (impl_heightsOf.a3 k a1 a2 ((a3.set a5.toNat false)) m6 a4 a5 ((IntKind.i64.wrap (m7 - t8)))).bind fun o3 => Sum.elim (fun o3l => some (.inl (o3l.1, o3l.2.1, o3l.2.2))) (fun o3r => (impl_next o3r.2.2.2.1 o3r.2.2.2.2.2.1).bind fun t10 => (impl_heightsOf.l4 k o3r.1 o3r.2.1 o3r.2.2.1 o3r.2.2.2.1 t10 o3r.2.2.2.2.1 o3r.2.2.2.2.2.1 o3r.2.2.2.2.2.2 o3r.2.2.2.2.2.1 ((t10.length : Int)) 0).bind fun o4 => Sum.elim (fun o4l => some (.inl (o4l.1, o4l.2.1, o4l.2.2))) (fun o4r => impl_heightsOf.l2 k o4r.1 o4r.2.1 o4r.2.2.1 o4r.2.2.2.1 o4r.2.2.2.2) o4) o3)) (some (.inr (a2)))
def impl_heightsOf (k : Nat) (p0 : GProgram) (p1 : Int) : Option ((List Int) × Int × Int) :=
  (idx p0.funcs p1).bind fun m1 => gd (0 ≤ (m1.code.length : Int) ∧ ((m1.code.length : Int)) * 8 ≤ 35184372088832 ∧ (m1.code.length : Int) ≤ 35184372088832) (gd (0 ≤ (m1.code.length : Int) ∧ ((m1.code.length : Int)) * 1 ≤ 35184372088832 ∧ (m1.code.length : Int) ≤ 35184372088832) ((impl_heightsOf.l1 k p0.funcs ((List.replicate m1.code.length 0)) ((List.replicate m1.code.length false)) m1.code ((m1.code.length : Int)) 0).bind fun o1 => (idx o1.2.1 0).bind fun m3 => (idx o1.2.2.1 0).bind fun m4 => (impl_heightsOf.l2 k o1.1 ((o1.2.1.set 0 0)) ((o1.2.2.1.set 0 true)) o1.2.2.2 0).bind fun o2 => Sum.elim (fun o2l => some (o2l.1, o2l.2.1, o2l.2.2)) (fun o2r => some (o2r, 0, 0)) o2))
def impl_prog_frameRight (p0 : Gprog) (p1 : GFrame) (p2 : Int) : Option (Bool) :=
  (impl_prog_stands p0 p1.func0 p1.pc p2).bind fun t1 => cond t1 ((idx p0.program.funcs p1.func0).bind fun m2 => cond ((((p1.locals.length : Int)) == m2.locals)) ((impl_prog_depth p0 p1.func0 p1.pc p2).bind fun t3 => some ((((p1.stack.length : Int)) == t3))) (some false)) (some false)
def impl_prog_runOf.l1 : Nat → Grun → (List GFrame) → Int → Int → Option (Grun)
  | 0, _, _, _, _ => none
  | k + 1, a1, a2, a3, a4 => cond ((decide (a4 < a3))) ((idx a2 a4).bind fun m2 => (impl_ownFrame m2).bind fun t3 => gd ((a1.frames.length + 1) * 64 ≤ 35184372088832 ∧ a1.frames.length + 1 ≤ 35184372088832) (impl_prog_runOf.l1 k ((⟨a1.k, (a1.frames ++ [t3]), a1.world⟩ : Grun)) a2 a3 ((IntKind.i64.wrap (a4 + 1))))) (some (a1))
def impl_prog_runOf (k : Nat) (p0 : Gprog) (p1 : GState) : Option (Grun) :=
  (impl_State_world k p1).bind fun t1 => (impl_prog_runOf.l1 k ((⟨p0, [], t1⟩ : Grun)) p1.frames ((p1.frames.length : Int)) 0).bind fun o1 => some o1
theorem gs20 : (∀ {k : Nat} {p0 : GProgram} {p1 : Int} {r : (List Int) × Int × Int}, impl_heightsOf k p0 p1 = some r → Con Tryz.prog 112 [.agg [.d (.row .bor 3 (Rw (GFunc.cells .bor) p0.funcs))], V.int p1] [] (.tup [.d (.row .own 1 (Rw (cI .i64) r.1)), V.int r.2.1, V.int r.2.2]) []) ∧
  (∀ {p0 : Gprog} {p1 : GFrame} {p2 : Int} {r : Bool}, impl_prog_frameRight p0 p1 p2 = some r → Con Tryz.prog 72 [.d (.ptr .bor [.row .bor 3 (Rw (GFunc.cells .bor) p0.program.funcs), .row .bor 1 (Rw (cL .bor 1 (cI .i64)) p0.h)]), .agg [V.int p1.func0, V.int p1.pc, .d (.row .bor 1 (Rw (cI .i64) p1.locals)), .d (.row .bor 1 (Rw (cI .i64) p1.stack))], V.int p2] [] (V.bool r) []) ∧
  (∀ {k : Nat} {p0 : Gprog} {p1 : GState} {r : Grun}, impl_prog_runOf k p0 p1 = some r → Con Tryz.prog 33 [.d (.ptr .bor [.row .bor 3 (Rw (GFunc.cells .bor) p0.program.funcs), .row .bor 1 (Rw (cL .bor 1 (cI .i64)) p0.h)]), .agg [.d (.row .bor 4 (Rw (GFrame.cells .bor) p1.frames)), .d (.row .bor 1 (Rw (cL .bor 1 (cI .i64)) p1.heap)), .d (.row .bor 1 (Rw (cI .i64) p1.out)), V.int p1.fuel0, V.bool p1.done, V.int p1.value, V.int p1.trap]] [] (.d (.ptr .own [.ptr .bor [.row .bor 3 (Rw (GFunc.cells .bor) r.k.program.funcs), .row .bor 1 (Rw (cL .bor 1 (cI .i64)) r.k.h)], .row .own 4 (Rw (GFrame.cells .own) r.frames), .row .own 1 (Rw (cL .own 1 (cI .i64)) r.world.heap), .row .own 1 (Rw (cI .i64) r.world.out), .p (.int .i64 r.world.fuel0), .p (.bool r.world.done), .p (.int .i64 r.world.value), .p (.int .i64 r.world.trap)])) []) := by
  refine ⟨?_, ?_, ?_⟩
  all_goals intros
  all_goals rename_i h
  all_goals first
    | (with_reducible refine isf 112 ?_
       refine csw Tryz.func112 Tryz.call112 (by simp [Tryz.ntmps112]) (h := ?_)
       refine mkf 112 fun hF => ?_
       rw [Tryz.ntmps112, Tryz.results112]
       unfold impl_heightsOf at h)
    | (with_reducible refine isf 72 ?_
       refine csw Tryz.func72 Tryz.call72 (by simp [Tryz.ntmps72]) (h := ?_)
       refine mkf 72 fun hF => ?_
       rw [Tryz.ntmps72, Tryz.results72]
       unfold impl_prog_frameRight at h)
    | (with_reducible refine isf 33 ?_
       refine csw Tryz.func33 Tryz.call33 (by simp [Tryz.ntmps33]) (h := ?_)
       refine mkf 33 fun hF => ?_
       rw [Tryz.ntmps33, Tryz.results33]
       unfold impl_prog_runOf at h)
  all_goals (replace h := Yes.mk h; simp only [entryS, entryO, Nat.reduceAdd, List.length_nil, List.length_cons])
  repeat' (first
 | ((with_reducible refine fi 33 ?_ ?_); (focus (with_reducible assumption))
    first
    | (with_reducible refine here_reg (i := 5) ?_
       refine sw_gh ?_
       with_reducible apply gh_nameCell 384 1
       · simp only [putSt, lk, lkb, reduceCtorEq, Nat.reduceEqDiff]; rfl
       · rfl
       simp only [List.set_cons_zero, List.set_cons_succ, Nat.reduceAdd, Rw_length]
       refine gh_sw ?_))
 | (with_reducible (first | refine sw_reg ?_ | refine sw_ret ?_ | refine sw_skip ?_ | refine sw_block ?_ | refine sw_exit ?_ | refine seqQ_normal ?_ | refine blockQ_normal ?_ | refine blockQ_ret ?_ | refine blockQ_this ?_ | refine blockQ_other (by decide) ?_ | refine regW_nil ?_ | refine sw_draw mixed ?_ | refine retQ_ret ?_ | refine retQ_normal ?_))
 | (with_reducible refine regD_nil ?_
    refine ⟨by kernel_rfl, ?_⟩)
 | (revert h; (first | ((with_reducible refine idx_elim ?_); intro m hm1 hm2 hm3 h; (try (simp only [Int.reduceToNat] at hm3)); (try (revert hm3; (with_reducible apply same_elim); (focus (with_reducible assumption)); rintro rfl)); (try (simp only [List.length_set, List.length_cons, List.length_nil, List.length_replicate, Nat.reduceAdd, Int.cast_ofNat_Int, Nat.zero_add, List.length_append] at hm2))) | (with_reducible refine sidx_elim ?_; intro m hm1 hm3 h) | (with_reducible refine gd_elim ?_; intro hg h; try (have hg2 := hg.2; have hg := hg.1; (try (simp only [Nat.reduceLeDiff] at hg2)); (try (revert hg2; (with_reducible refine toNat_elim hg ?_); intro hg2 hg4)); try (have hg3 := hg2.2; have hg2 := hg2.1; (try (simp only [Nat.reduceLeDiff] at hg3))))) | (with_reducible refine condt_elim ?_ ?_; (focus (with_reducible assumption)); intro h) | (with_reducible refine condf_elim ?_ ?_; (focus (with_reducible assumption)); intro h)))
 | ((with_reducible first | refine pnR ?_ | refine pnE ?_ | refine pmR ?_ | refine pmE ?_)
    obtain rfl := h.get
    have h := hK
    clear hK
    (try (simp only [Sum.elim_inl, Sum.elim_inr] at h)))
 | ((with_reducible refine fi 112 ?_ ?_); (focus (with_reducible assumption))
    first
    | (with_reducible refine here_join (a := (.seq (.region 26 _ _) _)) (b := (.seq (.region 28 _ _) _)) ?_
       revert h
       with_reducible refine bind_elimY ?_
       intro o5 h hK
       unfold impl_heightsOf.a5 at h
       refine sw_join (ι := (List GFunc) × (List Int) × (List Bool) × GI2 × (List Int) × (List GI2) × Int × Int × Int × Int × Int × Int) 50000000 (fun x => [(.s 2, some (.v (.mp 0 1 0 0))), (.s 7, some (.v (.d (.row .bor 2 (Rw GI2.cells x.2.2.2.2.2.1))))), (.s 8, some (.v (.sl 896 1 0 x.2.1.length))), (.s 9, some (.v (.sl 1152 1 0 x.2.2.1.length))), (.s 11, some (.v (V.int x.2.2.2.2.2.2.1))), (.s 12, some (.v (.mp 20001088 2 0 0))), (.s 13, some (.v (V.int x.2.2.2.2.2.2.2.1))), (.s 14, some (.v (V.int x.2.2.2.2.2.2.2.2.1))), (.s 16, some (.v (V.int x.2.2.2.2.2.2.2.2.2.1))), (.s 82, some (.v (.sl 30000256 1 0 x.2.2.2.2.1.length))), (.s 83, some (.v (V.int x.2.2.2.2.2.2.2.2.2.2.1))), (.s 84, some (.v (V.int x.2.2.2.2.2.2.2.2.2.2.2))), (.r 0, some (.o 1 [[.d (.row .bor 3 (Rw (GFunc.cells .bor) x.1))]])), (.r 896, some (.o 1 (dd (Rw (cI .i64) x.2.1)))), (.r 1152, some (.o 1 (dd (Rw cB x.2.2.1)))), (.r 20001088, some (.o 2 [[V.int x.2.2.2.1.a, V.int x.2.2.2.1.b]])), (.r 30000256, some (.o 1 (dd (Rw (cI .i64) x.2.2.2.2.1))))]) (fun x => Yes (some (.inr x)) o5) ?_ ?_
       rotate_left
       rintro ⟨b1, b2, b3, b4, b5, b6, b7, b8, b9, b10, b11, b12⟩ h
       obtain rfl := h.get
       have h := hK
       clear hK
       (try (simp only [Sum.elim_inl, Sum.elim_inr] at h))
       refine sw_gh ?_
       refine gh_sw ?_)
    | (with_reducible refine here_loop (c := (.seq (.region 22 _ _) _)) ?_
       revert h
       with_reducible refine bind_elimY ?_
       intro o4 h hK
       refine lpA (β := (List GFunc) × (List Int) × (List Bool) × GI2 × (List Int) × (List GI2) × Int × Int × Int × Int × Int) 40000000 (fun x => [(.s 2, some (.v (.mp 0 1 0 0))), (.s 7, some (.v (.d (.row .bor 2 (Rw GI2.cells x.2.2.2.2.2.2.1))))), (.s 8, some (.v (.sl 896 1 0 x.2.2.1.length))), (.s 9, some (.v (.sl 1152 1 0 x.2.2.2.1.length))), (.s 11, some (.v (V.int x.2.2.2.2.2.2.2.1))), (.s 12, some (.v (.mp 20001088 2 0 0))), (.s 13, some (.v (V.int x.2.2.2.2.2.2.2.2.1))), (.s 14, some (.v (V.int x.2.2.2.2.2.2.2.2.2.1))), (.s 82, some (.v (.sl 30000256 1 0 x.2.2.2.2.2.1.length))), (.s 83, some (.v (V.int x.2.2.2.2.2.2.2.2.2.2.1))), (.s 84, some (.v (V.int x.2.2.2.2.2.2.2.2.2.2.2))), (.r 0, some (.o 1 [[.d (.row .bor 3 (Rw (GFunc.cells .bor) x.2.1))]])), (.r 896, some (.o 1 (dd (Rw (cI .i64) x.2.2.1)))), (.r 1152, some (.o 1 (dd (Rw cB x.2.2.2.1)))), (.r 20001088, some (.o 2 [[V.int x.2.2.2.2.1.a, V.int x.2.2.2.2.1.b]])), (.r 30000256, some (.o 1 (dd (Rw (cI .i64) x.2.2.2.2.2.1))))]) (fun x => Yes (impl_heightsOf.l4 x.1 x.2.1 x.2.2.1 x.2.2.2.1 x.2.2.2.2.1 x.2.2.2.2.2.1 x.2.2.2.2.2.2.1 x.2.2.2.2.2.2.2.1 x.2.2.2.2.2.2.2.2.1 x.2.2.2.2.2.2.2.2.2.1 x.2.2.2.2.2.2.2.2.2.2.1 x.2.2.2.2.2.2.2.2.2.2.2) o4) (_, _, _, _, _, _, _, _, _, _, _, _) h ?_
       rintro ⟨_ | k, a1, a2, a3, a4, a5, a6, a7, a8, a9, a10, a11⟩ h
       · simp only [impl_heightsOf.l4] at h; exact h.none
       simp only [impl_heightsOf.l4] at h
   )
    | (with_reducible refine here_join (a := (.seq (.region 18 _ _) _)) (b := (.seq (.region 20 _ _) _)) ?_
       revert h
       with_reducible refine bind_elimY ?_
       intro o3 h hK
       unfold impl_heightsOf.a3 at h
       refine sw_join (ι := (List GFunc) × (List Int) × (List Bool) × GI2 × (List GI2) × Int × Int) 30000000 (fun x => [(.s 2, some (.v (.mp 0 1 0 0))), (.s 7, some (.v (.d (.row .bor 2 (Rw GI2.cells x.2.2.2.2.1))))), (.s 8, some (.v (.sl 896 1 0 x.2.1.length))), (.s 9, some (.v (.sl 1152 1 0 x.2.2.1.length))), (.s 11, some (.v (V.int x.2.2.2.2.2.1))), (.s 12, some (.v (.mp 20001088 2 0 0))), (.s 13, some (.v (V.int x.2.2.2.2.2.2))), (.r 0, some (.o 1 [[.d (.row .bor 3 (Rw (GFunc.cells .bor) x.1))]])), (.r 896, some (.o 1 (dd (Rw (cI .i64) x.2.1)))), (.r 1152, some (.o 1 (dd (Rw cB x.2.2.1)))), (.r 20001088, some (.o 2 [[V.int x.2.2.2.1.a, V.int x.2.2.2.1.b]]))]) (fun x => Yes (some (.inr x)) o3) ?_ ?_
       rotate_left
       rintro ⟨b1, b2, b3, b4, b5, b6, b7⟩ h
       obtain rfl := h.get
       have h := hK
       clear hK
       (try (simp only [Sum.elim_inl, Sum.elim_inr] at h))
       refine sw_gh ?_
       refine gh_sw ?_)
    | (with_reducible refine here_loop (c := (.seq (.seq (.region 12 _ _) _) _)) ?_
       revert h
       with_reducible refine bind_elimY ?_
       intro o2 h hK
       refine lpA (β := (List GFunc) × (List Int) × (List Bool) × (List GI2) × Int) 20000000 (fun x => [(.s 2, some (.v (.mp 0 1 0 0))), (.s 7, some (.v (.d (.row .bor 2 (Rw GI2.cells x.2.2.2.2.1))))), (.s 8, some (.v (.sl 896 1 0 x.2.2.1.length))), (.s 9, some (.v (.sl 1152 1 0 x.2.2.2.1.length))), (.s 11, some (.v (V.int x.2.2.2.2.2))), (.r 0, some (.o 1 [[.d (.row .bor 3 (Rw (GFunc.cells .bor) x.2.1))]])), (.r 896, some (.o 1 (dd (Rw (cI .i64) x.2.2.1)))), (.r 1152, some (.o 1 (dd (Rw cB x.2.2.2.1))))]) (fun x => Yes (impl_heightsOf.l2 x.1 x.2.1 x.2.2.1 x.2.2.2.1 x.2.2.2.2.1 x.2.2.2.2.2) o2) (_, _, _, _, _, _) h ?_
       rintro ⟨_ | k, a1, a2, a3, a4, a5⟩ h
       · simp only [impl_heightsOf.l2] at h; exact h.none
       simp only [impl_heightsOf.l2] at h
   )
    | (with_reducible refine here_loop (c := (.seq (.region 5 _ _) _)) ?_
       revert h
       with_reducible refine bind_elimY ?_
       intro o1 h hK
       refine lpA (β := (List GFunc) × (List Int) × (List Bool) × (List GI2) × Int × Int) 10000000 (fun x => [(.s 2, some (.v (.mp 0 1 0 0))), (.s 7, some (.v (.d (.row .bor 2 (Rw GI2.cells x.2.2.2.2.1))))), (.s 8, some (.v (.sl 896 1 0 x.2.2.1.length))), (.s 9, some (.v (.sl 1152 1 0 x.2.2.2.1.length))), (.s 30, some (.v (V.int x.2.2.2.2.2.1))), (.s 31, some (.v (V.int x.2.2.2.2.2.2))), (.r 0, some (.o 1 [[.d (.row .bor 3 (Rw (GFunc.cells .bor) x.2.1))]])), (.r 896, some (.o 1 (dd (Rw (cI .i64) x.2.2.1)))), (.r 1152, some (.o 1 (dd (Rw cB x.2.2.2.1))))]) (fun x => Yes (impl_heightsOf.l1 x.1 x.2.1 x.2.2.1 x.2.2.2.1 x.2.2.2.2.1 x.2.2.2.2.2.1 x.2.2.2.2.2.2) o1) (_, _, _, _, _, _, _) h ?_
       rintro ⟨_ | k, a1, a2, a3, a4, a5, a6⟩ h
       · simp only [impl_heightsOf.l1] at h; exact h.none
       simp only [impl_heightsOf.l1] at h
   ))
 | ((with_reducible refine fi 33 ?_ ?_); (focus (with_reducible assumption))
    first
    | (with_reducible refine here_loop (c := (.seq (.region 3 _ _) _)) ?_
       revert h
       with_reducible refine bind_elimY ?_
       intro o1 h hK
       refine sw_gh ?_
       (try (apply gh_conv 384; (focus (simp only [putSt, lk, lkb, reduceCtorEq, Nat.reduceEqDiff]; try rfl)); (focus (apply All2.cons; (focus (apply All2.cons; (focus (exact .same)); apply All2.cons; (focus (first | exact Conv1.nil (m := .own) (s := 4) | exact .same)); apply All2.cons; (focus (first | exact Conv1.nil (m := .own) (s := 1) | exact .same)); apply All2.cons; (focus (first | exact Conv1.nil (m := .own) (s := 1) | exact .same)); apply All2.cons; (focus (exact .same)); apply All2.cons; (focus (exact .same)); apply All2.cons; (focus (exact .same)); apply All2.cons; (focus (exact .same)); exact .nil)); exact .nil))))
       (try (apply gh_resObj 384; (focus (simp only [putSt, lk, lkb, reduceCtorEq, Nat.reduceEqDiff]; try rfl)); simp only [rxb, Nat.reduceAdd, Nat.reduceLeDiff, rxd, putSt, lk, lkb, reduceCtorEq, Nat.reduceEqDiff, *, mmb, GFrame_Dset, GState_Dset, GI2_Dset, GFunc_Dset, GProgram_Dset, Gprog_Dset, Gworld_Dset, LcIi64_Dset]))
       refine gh_sw ?_
       refine lpA (β := Grun × (List GFrame) × Int × Int) 10000000 (fun x => [(.s 5, some (.v (.mp 384 8 0 0))), (.s 14, some (.v (.d (.row .bor 4 (Rw (GFrame.cells .bor) x.2.2.1))))), (.s 15, some (.v (V.int x.2.2.2.1))), (.s 16, some (.v (V.int x.2.2.2.2))), (.r 384, some (.o 8 [[.d (.ptr .bor [.row .bor 3 (Rw (GFunc.cells .bor) x.2.1.k.program.funcs), .row .bor 1 (Rw (cL .bor 1 (cI .i64)) x.2.1.k.h)]), .d (.row .own 4 (Rw (GFrame.cells .own) x.2.1.frames)), .d (.row .own 1 (Rw (cL .own 1 (cI .i64)) x.2.1.world.heap)), .d (.row .own 1 (Rw (cI .i64) x.2.1.world.out)), V.int x.2.1.world.fuel0, V.bool x.2.1.world.done, V.int x.2.1.world.value, V.int x.2.1.world.trap]]))]) (fun x => Yes (impl_prog_runOf.l1 x.1 x.2.1 x.2.2.1 x.2.2.2.1 x.2.2.2.2) o1) (_, _, _, _, _) h ?_
       rintro ⟨_ | k, a1, a2, a3, a4⟩ h
       · simp only [impl_prog_runOf.l1] at h; exact h.none
       simp only [impl_prog_runOf.l1] at h
   )
    | (with_reducible refine here_next (N0 := 10000000) ?_
       (try (apply gh_conv 384; (focus (simp only [putSt, lk, lkb, reduceCtorEq, Nat.reduceEqDiff]; try rfl)); (focus (apply All2.cons; (focus (apply All2.cons; (focus (exact .same)); apply All2.cons; (focus (first | exact Conv1.nil (m := .own) (s := 4) | exact .same)); apply All2.cons; (focus (first | exact Conv1.nil (m := .own) (s := 1) | exact .same)); apply All2.cons; (focus (first | exact Conv1.nil (m := .own) (s := 1) | exact .same)); apply All2.cons; (focus (exact .same)); apply All2.cons; (focus (exact .same)); apply All2.cons; (focus (exact .same)); apply All2.cons; (focus (exact .same)); exact .nil)); exact .nil))))
       (try (apply gh_resObj 384; (focus (simp only [putSt, lk, lkb, reduceCtorEq, Nat.reduceEqDiff]; try rfl)); simp only [rxb, Nat.reduceAdd, Nat.reduceLeDiff, rxd, putSt, lk, lkb, reduceCtorEq, Nat.reduceEqDiff, *, mmb, GFrame_Dset, GState_Dset, GI2_Dset, GFunc_Dset, GProgram_Dset, Gprog_Dset, Gworld_Dset, LcIi64_Dset]))
       refine nxA (_, _, _, _, _) h))
 | (with_reducible refine here_next ?_
    first | refine nxA (_, _, _, _, _, _) h | refine nxA (_, _, _, _, _, _, _) h | refine nxA (_, _, _, _, _, _, _, _, _, _, _, _) h)
 | (with_reducible refine here_meet ?_
    first | refine mtA (_, _, _, _, _, _, _) h | refine mtA (_, _, _, _, _, _, _, _, _, _, _, _) h)
 | with_reducible refine sw_seq ?_
 | with_reducible refine seqQ_ret ?_
 | with_reducible refine seqQ_exit ?_
 | ((with_reducible refine fi 112 ?_ ?_); (focus (with_reducible assumption))
    first
    | (with_reducible refine gh_nilRow 4 .own 1 ?_ ?_
       · simp only [putSt, lk, lkb, reduceCtorEq, Nat.reduceEqDiff]; done
       skip))
 | ((with_reducible refine wp_ite ?_ ?_)
    all_goals (intro hc; (try (simp only [Bool.not_eq_true, Bool.not_eq_false] at hc)); simp only [hc]))
 | (with_reducible refine rskip (hs := ?_) (h2 := ?_)
    · simp only [putSt, lk, lkb, reduceCtorEq, Nat.reduceEqDiff]; done)
 | (with_reducible refine ryes (hs := ?_) (h := ?_)
    · simp only [putSt, lk, lkb, reduceCtorEq, Nat.reduceEqDiff]; done)
 | (with_reducible refine rno (hs := ?_) (h := ?_)
    · simp only [putSt, lk, lkb, reduceCtorEq, Nat.reduceEqDiff, Bool.not_true, Bool.not_false]; done)
 | (with_reducible apply regW_guardN
    · simp only [dstOk, Nat.reduceLT]
    · rfl
    · simp only [putSt, lk, lkb, reduceCtorEq, Nat.reduceEqDiff]; rfl
    all_goals (intro hc; (try (simp only [Bool.not_true, Bool.not_false] at hc))))
 | (with_reducible apply sw_cond
    · simp only [putSt, lk, lkb, reduceCtorEq, Nat.reduceEqDiff]; rfl
    all_goals (intro hc; try (cases hc; done)))
 | ((first
     | ((with_reducible refine gh_ret ?_)
        revert h
        with_reducible refine some_elim ?_
        rintro rfl)
     | (with_reducible refine here_call ?_
        revert h
        with_reducible refine bind_elim ?_
        intro t ht h
        (first
          | ((first
              | ((with_reducible refine here_call (f := 78) ?_); refine call_dataE (c_impl_Takes ht) ?_ rfl ?_)
              | ((with_reducible refine here_call (f := 82) ?_); refine call_dataE (c_impl_Puts ht) ?_ rfl ?_)
              | ((with_reducible refine here_call (f := 138) ?_); refine call_dataE (c_impl_next ht) ?_ rfl ?_)
              | ((with_reducible refine here_call (f := 113) ?_); refine call_dataE (c_impl_prog_stands ht) ?_ rfl ?_)
              | ((with_reducible refine here_call (f := 114) ?_); refine call_dataE (c_impl_prog_depth ht) ?_ rfl ?_)
              | ((with_reducible refine here_call (f := 73) ?_); refine call_dataE (c_impl_State_world ht) ?_ rfl ?_)
              | ((with_reducible refine here_call (f := 74) ?_); refine call_dataE (c_impl_ownFrame ht) ?_ rfl ?_))
             · first | rfl | (simp; done))))
     | (with_reducible (first | refine ropD (h := ?_) | refine ropW (h := ?_))
        intro k hk)
     | skip)
    simp only [RetW, bn, lkb, evb, opC, opP, fetchN, fetchP, fetchAll, fetchO, Prog.bind, Prog.wp, Prog.wp_bind, lk, nameP, nameAll, Value.oneCell', putSt, stepP, putP, reduceCtorEq, V.lin, V.linL, D.lin, isNil, binP, unP, BinOp.isShift, Prog.ofO, Nat.reduceAdd, Nat.reduceMul, Nat.reduceSub, Nat.reduceLT, Nat.reduceLeDiff, Nat.reduceEqDiff, ite_true, ite_false, fieldAddrP, fieldP, indexAddrP, loadP, storeP, boxP, allocP, cellsP, asVal, setSeg, outP, outT, cntT, TyK.field, TyK.agg, zeroRow, V.ren, V.renL, forall_eq_or_imp, forall_const, minmaxP, lenP, lenOf, lenStr, V.asInt, decide_true, decide_false, sliceP, boundP, makeSliceP, convertP, appendP, rowsOfP, ontoP, sizeFits, V.rowSize, TyK.src, resV, resV.go, resV.gol, retP, retOne, retAll, resTo, objsAre, Option.map_eq_map, Function.const_apply, Int.reduceNeg, Int.reduceToNat, ty2, ty3, ty4, ty23, ty25, ty26, ty27, ty28, ty30, ty56, ty58, ty63, ty92, ty94, ty98, ty102, ty104, ty109, ty154, GFrame.cells, GFunc.cells, GI2.cells, GProgram.cells, GState.cells, Gprog.cells, Gworld.cells, cI, cB, cS, cL, GFrame_e, GState_e, GI2_e, GFunc_e, GProgram_e, Gprog_e, Gworld_e, LcIi64_e, buildP, buildSliceP, putParts, structPlaces, chunks, List.replicate, List.flatten_nil, List.flatten_cons, Option.bind_some, bb, GFrame_b, GState_b, GI2_b, GFunc_b, GProgram_b, Gprog_b, Gworld_b, LcIi64_b, nilEqP, ne_eq, not_false_eq_true, not_true_eq_false, *]
    try (refine hk.use _ _ _ _ ?_; clear hk k))
 | fail)
  all_goals (try rfl)
  all_goals (try (simp; done))
  all_goals (try (simp_all; done))
def c_impl_heightsOf := @And.left _ _ gs20
def c_impl_prog_frameRight := @And.left _ _ (@And.right _ _ gs20)
def c_impl_prog_runOf := (@And.right _ _ (@And.right _ _ gs20))
end Go.Proofs.YtdlaplgofgklnaaGreat