/- WHAT IS PROVED: contracts of functions of the program, each by a walk of its code. Conditions: none. -/
import Derived.Test.YtdoboiiilcgbnaaW3
namespace Go.Proofs.Ytdoboiiilcgbnaa
open Go.Proofs Go.Proofs.Ytdoboiiilcgbnaa.L
set_option maxHeartbeats 1000000
set_option linter.unusedSimpArgs false
set_option linter.unusedVariables false

theorem ty51 : tyOf Try.prog 51 = some ⟨.slice 5, 1, 24, [Value.slice none 0 0]⟩ := by kernel_rfl

def mstep (k : Nat) (out : ByteArray) : ByteArray := ⟨#[UInt8.ofNat (48 + k % 10)]⟩ ++ out
def mrun (k : Nat) (out : ByteArray) : ByteArray := if h : k = 0 then out else mrun (k / 10) (mstep k out)
termination_by k
decreasing_by omega
theorem mrun_zero (out : ByteArray) : mrun 0 out = out := by rw [mrun]; simp
theorem mrun_pos {k : Nat} (h : k ≠ 0) (out : ByteArray) : mrun k out = mrun (k / 10) (mstep k out) := by rw [mrun, dif_neg h]
def mkT (k : Nat) : ByteArray := ⟨#[109]⟩ ++ mrun k ⟨#[]⟩
theorem mstep_size (k : Nat) (out : ByteArray) : (mstep k out).size = 1 + out.size := by
  unfold mstep
  rw [ByteArray.size_append]
  rfl
theorem toList_beq (x y : ByteArray) : (x.toList == y.toList) = decide (x = y) := by
  rw [Bool.eq_iff_iff, beq_iff_eq, decide_eq_true_eq, ByteArray.toList_eq, ByteArray.toList_eq]
  constructor
  · intro h
    obtain ⟨⟨a⟩⟩ := x
    obtain ⟨⟨b⟩⟩ := y
    simp at h
    rw [h]
  · intro h
    rw [h]

theorem c_laws_markText (k : Nat) (h0 : 1 ≤ k) (h : k ≤ 1099513000000) : Con Try.prog 66 [V.int k] [] (.d (.p (.string (mkT k)))) [] := by
  have hpos : DUM = 0 := rfl
  have hrem : DUM = 0 := rfl
  have hadd : DUM = 0 := rfl
  have hu8 : DUM = 0 := rfl
  have hquo : DUM = 0 := rfl
  have hsz : DUM = 0 := rfl
  have hsz2 : DUM = 0 := rfl
  have hlk : DUM = 0 := rfl
  have hst : DUM = 0 := rfl
  have hk0 : ((k : Int) ≤ 0) = False := by simp; omega

  refine con_of_aw Try.func66 rfl Try.call66 (by simp [Try.ntmps66]) (by simp [V.inNs, V.inN]) (by simp [C.inN, V.inNss, V.inNs, V.inN, inNss_dd]) (by simp [V.inNs, V.inN]) (by simp [C.inN, V.inNss, V.inNs, V.inN, inNss_dd]) rfl ?_
  rw [Try.ntmps66, Try.results66]
  simp only [entryS, entryO, Nat.reduceAdd, List.length_nil, List.length_cons]
  repeat' (first
    | with_reducible refine aw_seq ?_
    | with_reducible refine aw_reg ?_
    | with_reducible refine aw_ret ?_
    | with_reducible refine aw_skip ?_
    | with_reducible refine aw_block ?_
    | with_reducible refine aw_exit ?_
    | with_reducible refine seqQ_normal ?_
    | with_reducible refine seqQ_ret ?_
    | with_reducible refine seqQ_exit ?_
    | with_reducible refine blockQ_normal ?_
    | with_reducible refine blockQ_ret ?_
    | with_reducible refine blockQ_this ?_
    | with_reducible refine blockQ_other (by decide) ?_
    | with_reducible refine regW_nil ?_
    | with_reducible refine aw_draw mixed ?_
    | (with_reducible refine regD_nil ?_
       refine ⟨by kernel_rfl, ?_⟩)
    | with_reducible refine retQ_ret ?_
    | with_reducible refine retQ_normal ?_
    | ((with_reducible refine aw_loopA _ (Nat.le_refl _) (fun x : Nat × ByteArray => [(.s 0, some (.v (V.int (x.1 : Nat)))), (.s 3, some (.v (.d (.p (.string x.2)))))]) (fun x => x.1) (fun x => x.1 ≤ k ∧ x.2.size + x.1 ≤ k ∧ mrun x.1 x.2 = mrun k ⟨#[]⟩) ((k, ⟨#[]⟩)) (by simp [slNL, C.inN, V.inN, V.inNs, V.inNss, inNss_dd, inNs_map_d]) (gh_to ?_) ?_ ?_)
       · simp only [SubL, putSt, lk, Res.s.injEq, Res.r.injEq, reduceCtorEq, Nat.reduceEqDiff, if_true, if_false]; repeat' (first | apply And.intro | rfl | trivial)
       · exact ⟨Nat.le_refl _, by simp [ByteArray.size], rfl⟩
       intro x hJ
       have hsz2 : 1 + x.2.size ≤ 9223372036854775807 := by omega
       have hsz2' : (⟨#[109]⟩ : ByteArray).size + x.2.size ≤ 9223372036854775807 := by show 1 + x.2.size ≤ _; omega
       have hlk := hsz2'
       rcases Nat.eq_zero_or_pos x.1 with hz | hz
       have hpos : ((0 : Int) < ((x.1 : Nat) : Int)) = False := by simp; omega
       rotate_left
       have hpos : ((0 : Int) < ((x.1 : Nat) : Int)) = True := by simp; omega
       have hrem : Int.tmod ((x.1 : Nat) : Int) 10 = ((x.1 % 10 : Nat) : Int) := rfl
       have hadd : IntKind.i64.wrap (48 + ((x.1 % 10 : Nat) : Int)) = ((48 + x.1 % 10 : Nat) : Int) := by rw [wrapIn] <;> omega
       have hu8 : IntKind.u8.wrap ((48 + x.1 % 10 : Nat) : Int) = ((48 + x.1 % 10 : Nat) : Int) := by rw [IntKind.wrap_u8]; omega
       have hquo : IntKind.i64.wrap (Int.tdiv ((x.1 : Nat) : Int) 10) = ((x.1 / 10 : Nat) : Int) := by
         show IntKind.i64.wrap ((x.1 / 10 : Nat) : Int) = _
         rw [wrapIn] <;> omega
       have hsz : (⟨#[UInt8.ofNat (48 + x.1 % 10)]⟩ : ByteArray).size + x.2.size ≤ 9223372036854775807 := by show 1 + x.2.size ≤ _; omega
       have hst : (⟨#[UInt8.ofNat (48 + x.1 % 10)]⟩ : ByteArray) ++ x.2 = mstep x.1 x.2 := rfl
       rotate_left
)
    | ((with_reducible refine next_to ((x.1 / 10, mstep x.1 x.2)) (Nat.le_refl _) (by simp [slNL, C.inN, V.inN, V.inNs, V.inNss, inNss_dd, inNs_map_d]) ?_ ?_ ?_)
       · simp only [SubL, putSt, lk, Res.s.injEq, Res.r.injEq, reduceCtorEq, Nat.reduceEqDiff, if_true, if_false]; repeat' (first | apply And.intro | rfl | trivial)
       · first | omega | exact ⟨by omega, by rw [mstep_size]; omega, by rw [← mrun_pos (by omega)]; exact hJ.2.2⟩
       · first | omega | exact ⟨by omega, by rw [mstep_size]; omega, by rw [← mrun_pos (by omega)]; exact hJ.2.2⟩)
    | (first
        | ((with_reducible refine gh_ret ?_); simp only [RetW])
        | (with_reducible apply regD_op
           · simp only [dstOk, Nat.reduceLT]
           · simp only [Nat.reduceAdd]; rfl
           intro k hk
           simp only [stepP])
        | (with_reducible apply regW_op
           · simp only [dstOk, Nat.reduceLT]
           · simp only [Nat.reduceAdd]; rfl
           intro k hk)
       try simp only [opC, opP, fetchN, fetchP, fetchAll, fetchO, Prog.bind, Prog.wp, Prog.wp_bind, lk, nameP, nameAll, Value.oneCell', putSt, stepP, putP, Res.s.injEq, Res.r.injEq, reduceCtorEq, V.lin, V.linL, D.lin, isNil, binP, unP, intBin, BinOp.isShift, Prog.ofO, true_and, and_true, Nat.reduceAdd, Nat.reduceMul, Nat.reduceSub, Nat.reduceLT, Nat.reduceLeDiff, Nat.reduceEqDiff, Nat.add_zero, Nat.zero_add, Nat.le_refl, if_true, if_false, ite_true, ite_false, Bool.false_eq_true, List.length_nil, List.length_cons, Bool.not_true, Bool.not_false, Bool.or_false, Bool.or_true, fieldAddrP, fieldP, indexAddrP, loadP, storeP, boxP, allocP, cellsP, asVal, setSeg, outP, TyK.field, TyK.agg, zeroRow, List.getElem?_cons_zero, List.getElem?_cons_succ, List.take_succ_cons, List.take_zero, List.drop_succ_cons, List.drop_zero, List.set_cons_zero, List.set_cons_succ, List.nil_append, List.cons_append, List.append_nil, List.map_cons, List.map_nil, V.ren, V.renL, List.forall_mem_cons, List.not_mem_nil, List.mem_cons, forall_eq_or_imp, implies_true, false_implies, forall_const, and_self, true_or, minmaxP, lenP, lenOf, lenStr, V.asInt, Int.toNat_natCast, List.length_map, List.getElem?_map, Option.map_some, Int.ofNat_lt, Int.natCast_nonneg, decide_true, decide_false, Int.cast_ofNat_Int, nat_lt_zero, nat_one, nat_zero, dd_length, dd_get, dd_take, dd_drop, resGo_dd, undd_dd, take_len_map, take_marks, List.length_replicate, sliceP, boundP, makeSliceP, convertP, appendP, rowsOfP, ontoP, sizeFits, V.rowSize, TyK.src, resV, resV.go, resV.gol, retP, retOne, retAll, resTo, objsAre, ty3, ty4, ty5, ty9, ty51, strBin, buildSliceP, putParts, structPlaces, chunks, List.replicate, List.flatten_cons, List.flatten_nil, rowsBytes, hpos, hrem, hadd, hu8, hquo, hsz, hsz2, Int.toNat_natCast, hk0, hlk, gt_iff_lt, resV.gol, hst, hpos, hrem, hadd, hu8, hquo, hsz, hsz2, hlk, hst]
       try (refine hk _ _ _ _ ?_; clear hk k))
    | (with_reducible apply regW_skip
       · simp only [dstOk, Nat.reduceLT]
       · rfl
       · simp only [putSt, lk, Res.s.injEq, Res.r.injEq, reduceCtorEq, Nat.reduceEqDiff, if_true, if_false]; done)
    | (with_reducible apply regW_yesN
       · simp only [dstOk, Nat.reduceLT]
       · rfl
       · simp only [putSt, lk, Res.s.injEq, Res.r.injEq, reduceCtorEq, Nat.reduceEqDiff, if_true, if_false]; done)
    | (with_reducible apply regW_no
       · simp only [dstOk, Nat.reduceLT]
       · rfl
       · simp only [putSt, lk, Res.s.injEq, Res.r.injEq, reduceCtorEq, Nat.reduceEqDiff, if_true, if_false, Bool.not_true, Bool.not_false]; done)
    | (with_reducible apply regW_guardN
       · simp only [dstOk, Nat.reduceLT]
       · rfl
       · simp only [putSt, lk, Res.s.injEq, Res.r.injEq, reduceCtorEq, Nat.reduceEqDiff, if_true, if_false]; rfl
       intro hb
       rotate_left
       intro hb)
    | (with_reducible apply aw_cond
       · simp only [putSt, lk, Res.s.injEq, Res.r.injEq, reduceCtorEq, Nat.reduceEqDiff, if_true, if_false]; rfl
       all_goals (intro hc; try (cases hc; done))))

  all_goals trace_state
  all_goals (try (first | (have e := hJ.2.2; rw [hz, mrun_zero] at e; rw [e]; rfl) | (exfalso; simp at hc; omega) | simp_all))
  all_goals (try rfl)
  all_goals (try (rw [Bool.eq_iff_iff]; simp; done))
  all_goals (try (rw [Bool.eq_iff_iff]; simp; omega))
  all_goals (try (intros; omega))
  all_goals (try grind)

end Go.Proofs.Ytdoboiiilcgbnaa
