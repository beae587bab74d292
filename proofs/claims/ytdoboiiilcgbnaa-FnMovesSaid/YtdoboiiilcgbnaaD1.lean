/- WHAT IS PROVED: contracts of functions of the program, each by a walk of its code. Conditions: none. -/
import Derived.Test.YtdoboiiilcgbnaaM3
import Derived.IntWalk
namespace Go.Proofs.Ytdoboiiilcgbnaa
open Go.Proofs Go.Proofs.Ytdoboiiilcgbnaa.L
set_option maxHeartbeats 1000000
set_option linter.unusedSimpArgs false
set_option linter.unusedVariables false

theorem ty5 : tyOf Try.prog 5 = some ⟨.int IntKind.u8, 1, 1, [Value.int IntKind.u8 0]⟩ := by kernel_rfl

theorem ty51 : tyOf Try.prog 51 = some ⟨.slice 5, 1, 24, [Value.slice none 0 0]⟩ := by kernel_rfl

theorem ty78 : tyOf Try.prog 78 = some ⟨.ptr 94, 1, 8, [Value.pointer none]⟩ := by kernel_rfl

theorem ty92 : tyOf Try.prog 92 = some ⟨.int IntKind.u64, 1, 8, [Value.int IntKind.u64 0]⟩ := by kernel_rfl

theorem ty94 : tyOf Try.prog 94 = some ⟨.struct [(0, 51), (1, 3), (2, 92), (3, 2)], 4, 48, [Value.slice none 0 0, Value.int IntKind.i64 0, Value.int IntKind.u64 0, Value.int IntKind.i64 0]⟩ := by kernel_rfl

structure Src where
  b : List Int
  pos : Nat
  mix : Int
  size : Int

def B1 (z : Int) : List D := [.p (.int .u8 z)]
def Src.cellsV (s : Src) : List V := [.d (.row .bor 1 (s.b.map B1)), V.int s.pos, .d (.p (.int .u64 s.mix)), V.int s.size]
theorem lend_b1 (l : List Int) : D.lendLL (l.map B1) = l.map B1 := lendLL_of _ _ (fun _ => rfl) l
def xorU (x y : Int) : Int := IntKind.u64.wrap (BitVec.ofInt IntKind.u64.bits x ^^^ BitVec.ofInt IntKind.u64.bits y).toNat
def shlU (x : Int) (k : Int) : Int := IntKind.u64.wrap (x * 2 ^ (min k.toNat IntKind.u64.bits))
def shrU (x : Int) (k : Int) : Int := x.fdiv (2 ^ (min k.toNat IntKind.u64.bits))
def mix3 (m : Int) : Int :=
  let a := xorU m (shlU m 13)
  let b := xorU a (shrU a 7)
  xorU b (shlU b 17)
def nPos (s : Src) : Nat := if s.pos < s.b.length then s.pos + 1 else s.pos
def nByte (s : Src) : Int := (s.b[s.pos]?).getD 0
def nS (s : Src) (most : Int) : Src := if most ≤ 1 then s else { s with pos := nPos s, mix := mix3 s.mix }
def nV (s : Src) (most : Int) : Int := if most ≤ 1 then 0 else IntKind.i64.wrap (Int.tmod (IntKind.u64.wrap (nByte s + shrU (mix3 s.mix) 20)) (IntKind.u64.wrap most))

theorem c_spec_l01Src_n (s : Src) (most : Int) (h : s.b.length ≤ 1048576) (hb : most ≤ 4611686018427387904) (hv : ∀ z ∈ s.b, 0 ≤ z ∧ z < 256) : Con Try.prog 63 [.mp 0 4 0 0, V.int most] [(.o 4 [(s).cellsV])] (V.int (nV s most)) [(.o 4 [(nS s most).cellsV])] := by
  have hlt : DUM = 0 := rfl
  have hz : DUM = 0 := rfl
  have hw : DUM = 0 := rfl
  have hu : DUM = 0 := rfl
  have hc8 : DUM = 0 := rfl
  have hnz : DUM = 0 := rfl
  rcases Int.lt_or_le 1 most with hm | hm
  rotate_left
  have hle : (most ≤ 1) = True := eq_true hm
  rotate_left
  have hle : (most ≤ 1) = False := eq_false (by omega)
  have hu : IntKind.u64.wrap most = most := by exact Go.IntWalk.u64_in _ (by omega)
  have hnz : (most = 0) = False := eq_false (by omega)
  rcases Nat.lt_or_ge s.pos s.b.length with hlt | hge'
  obtain ⟨z, hz⟩ := list_get hlt
  have hzr := hv z (List.mem_of_getElem? hz)
  have hc8 : IntKind.u64.wrap z = z := by exact Go.IntWalk.u64_in _ (by omega)
  have hw := wrapS (show s.pos < 4611686018427387904 by omega)
  rotate_left
  have hlt : ¬ s.pos < s.b.length := Nat.not_lt.2 hge'
  rotate_left
  rotate_left
  all_goals (
  refine con_of_aw Try.func63 rfl Try.call63 (by simp [Try.ntmps63]) (by simp [V.inNs, V.inN]) (by simp [C.inN, V.inNss, V.inNs, V.inN, inNss_dd, Src.cellsV]) (by simp [V.inNs, V.inN]) (by simp [C.inN, V.inNss, V.inNs, V.inN, inNss_dd, Src.cellsV]) rfl ?_
  rw [Try.ntmps63, Try.results63]
  simp only [entryS, entryO, Nat.reduceAdd, List.length_nil, List.length_cons]
  repeat' (first
    | with_reducible refine aw_seq ?_
    | with_reducible refine aw_reg ?_
    | with_reducible refine aw_ret ?_
    | with_reducible refine aw_skip ?_
    | with_reducible refine aw_block ?_
    | with_reducible refine aw_exit ?_
    | with_reducible refine seqQ_normal ?_
    | with_reducible refine seqQ_ret ?_
    | with_reducible refine seqQ_exit ?_
    | with_reducible refine blockQ_normal ?_
    | with_reducible refine blockQ_ret ?_
    | with_reducible refine blockQ_this ?_
    | with_reducible refine blockQ_other (by decide) ?_
    | with_reducible refine regW_nil ?_
    | with_reducible refine aw_draw mixed ?_
    | (with_reducible refine regD_nil ?_
       refine ⟨by kernel_rfl, ?_⟩)
    | with_reducible refine retQ_ret ?_
    | with_reducible refine retQ_normal ?_
    | (first
        | ((with_reducible refine gh_ret ?_); simp only [RetW])
        | (with_reducible apply regD_op
           · simp only [dstOk, Nat.reduceLT]
           · simp only [Nat.reduceAdd]; rfl
           intro k hk
           simp only [stepP])
        | (with_reducible apply regW_op
           · simp only [dstOk, Nat.reduceLT]
           · simp only [Nat.reduceAdd]; rfl
           intro k hk)
       try simp only [opC, opP, fetchN, fetchP, fetchAll, fetchO, Prog.bind, Prog.wp, Prog.wp_bind, lk, nameP, nameAll, Value.oneCell', putSt, stepP, putP, Res.s.injEq, Res.r.injEq, reduceCtorEq, V.lin, V.linL, D.lin, isNil, binP, unP, intBin, BinOp.isShift, Prog.ofO, true_and, and_true, Nat.reduceAdd, Nat.reduceMul, Nat.reduceSub, Nat.reduceLT, Nat.reduceLeDiff, Nat.reduceEqDiff, Nat.add_zero, Nat.zero_add, Nat.le_refl, if_true, if_false, ite_true, ite_false, Bool.false_eq_true, List.length_nil, List.length_cons, Bool.not_true, Bool.not_false, Bool.or_false, Bool.or_true, fieldAddrP, fieldP, indexAddrP, loadP, storeP, boxP, allocP, cellsP, asVal, setSeg, outP, TyK.field, TyK.agg, zeroRow, List.getElem?_cons_zero, List.getElem?_cons_succ, List.take_succ_cons, List.take_zero, List.drop_succ_cons, List.drop_zero, List.set_cons_zero, List.set_cons_succ, List.nil_append, List.cons_append, List.append_nil, List.map_cons, List.map_nil, V.ren, V.renL, List.forall_mem_cons, List.not_mem_nil, List.mem_cons, forall_eq_or_imp, implies_true, false_implies, forall_const, and_self, true_or, minmaxP, lenP, lenOf, lenStr, V.asInt, Int.toNat_natCast, List.length_map, List.getElem?_map, Option.map_some, Int.ofNat_lt, Int.natCast_nonneg, decide_true, decide_false, Int.cast_ofNat_Int, nat_lt_zero, nat_one, nat_zero, dd_length, dd_get, dd_take, dd_drop, resGo_dd, undd_dd, take_len_map, take_marks, List.length_replicate, sliceP, boundP, makeSliceP, convertP, appendP, rowsOfP, ontoP, sizeFits, V.rowSize, TyK.src, resV, resV.go, resV.gol, retP, retOne, retAll, resTo, objsAre, ty2, ty3, ty4, ty5, ty51, ty78, ty92, ty94, Src.cellsV, B1, hle, hlt, hz, hw, hu, hc8, hnz, V.some?, shiftBin, Int.reduceLT, Int.reduceToNat]
       try (refine hk _ _ _ _ ?_; clear hk k))
    | (with_reducible apply regW_skip
       · simp only [dstOk, Nat.reduceLT]
       · rfl
       · simp only [putSt, lk, Res.s.injEq, Res.r.injEq, reduceCtorEq, Nat.reduceEqDiff, if_true, if_false]; done)
    | (with_reducible apply regW_yesN
       · simp only [dstOk, Nat.reduceLT]
       · rfl
       · simp only [putSt, lk, Res.s.injEq, Res.r.injEq, reduceCtorEq, Nat.reduceEqDiff, if_true, if_false]; done)
    | (with_reducible apply regW_no
       · simp only [dstOk, Nat.reduceLT]
       · rfl
       · simp only [putSt, lk, Res.s.injEq, Res.r.injEq, reduceCtorEq, Nat.reduceEqDiff, if_true, if_false, Bool.not_true, Bool.not_false]; done)
    | (with_reducible apply regW_guardN
       · simp only [dstOk, Nat.reduceLT]
       · rfl
       · simp only [putSt, lk, Res.s.injEq, Res.r.injEq, reduceCtorEq, Nat.reduceEqDiff, if_true, if_false]; rfl
       intro hb
       rotate_left
       intro hb)
    | (with_reducible apply aw_cond
       · simp only [putSt, lk, Res.s.injEq, Res.r.injEq, reduceCtorEq, Nat.reduceEqDiff, if_true, if_false]; rfl
       all_goals (intro hc; try (cases hc; done))))
)
  all_goals (try (simp [nV, nS, nByte, nPos, mix3, xorU, shlU, shrU, hle, hz, hu, hlt, Src.cellsV]))
  all_goals (try rfl)
  all_goals (try (rw [Bool.eq_iff_iff]; simp; done))
  all_goals (try (rw [Bool.eq_iff_iff]; simp; omega))
  all_goals (try (intros; omega))
  all_goals (try grind)

end Go.Proofs.Ytdoboiiilcgbnaa
